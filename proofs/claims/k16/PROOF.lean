import PyProof.Rows.All
import Wide.All
import OpenK.AllK
import Wide.FinOn
import KE.KStateDown
import HandS.ForMost
import HandS.Defaults
import HandS.Head0
import HandS.Head1
import HandS.Head2
import HandS.HeadEnd
import HandS.HeadHook1
import HandS.HeadHook2
import PySem.Challenge.RW_wholedown_k16_faulty_texts_of_values
import HandS.TupAny
import HandS.IsInst
import HandS.Zip
import HandS.Walk
import HandS.Text
import HandS.Flow
import HandS.Star
import HandS.ExcOwn
import HandS.RaiseMore
import HandS.TryOnly
import HandS.CallSlots
import KE.IntTextLaws
import PyProof.FitsInt
import PyProof.StrOps2
set_option Elab.async false
set_option linter.all false
set_option maxRecDepth 100000
set_option maxHeartbeats 0
namespace K16
open PySem PySem.Spec PyProof.Rows L2
def top (i : Nat) : Stmt := PySem.Challenge.pw_wholedown_k16_faulty_texts_of_values.main.body.getD i (.Pass ⟨0, 0, 0, 0⟩)
abbrev s_write_value : Stmt := top 9
theorem sc_write_value : FnScope ["value", "part"] ["value"] (defScope s_write_value) := ⟨rfl, rfl, rfl, by decide +kernel, rfl, by decide +kernel, by decide +kernel⟩
abbrev s_ValueReader___init__ : Stmt := inClass (top 10) 0
theorem sc_ValueReader___init__ : FnScope ["self", "text"] ["self", "text"] (defScope s_ValueReader___init__) := ⟨rfl, rfl, rfl, by decide +kernel, rfl, by decide +kernel, by decide +kernel⟩
abbrev s_ValueReader_next_sign : Stmt := inClass (top 10) 1
theorem sc_ValueReader_next_sign : FnScope ["self"] ["self"] (defScope s_ValueReader_next_sign) := ⟨rfl, rfl, rfl, by decide +kernel, rfl, by decide +kernel, by decide +kernel⟩
abbrev s_ValueReader_run_of : Stmt := inClass (top 10) 2
theorem sc_ValueReader_run_of : FnScope ["self", "signs", "begin"] ["self", "signs"] (defScope s_ValueReader_run_of) := ⟨rfl, rfl, rfl, by decide +kernel, rfl, by decide +kernel, by decide +kernel⟩
abbrev s_ValueReader_number : Stmt := inClass (top 10) 3
theorem sc_ValueReader_number : FnScope ["self", "sign", "digits"] ["self"] (defScope s_ValueReader_number) := ⟨rfl, rfl, rfl, by decide +kernel, rfl, by decide +kernel, by decide +kernel⟩
abbrev s_ValueReader_parts : Stmt := inClass (top 10) 4
theorem sc_ValueReader_parts : FnScope ["self", "deep", "found"] ["self", "deep"] (defScope s_ValueReader_parts) := ⟨rfl, rfl, rfl, by decide +kernel, rfl, by decide +kernel, by decide +kernel⟩
abbrev s_ValueReader_value : Stmt := inClass (top 10) 5
theorem sc_ValueReader_value : FnScope ["self", "deep", "sign"] ["self", "deep"] (defScope s_ValueReader_value) := ⟨rfl, rfl, rfl, by decide +kernel, rfl, by decide +kernel, by decide +kernel⟩
abbrev s_read_value : Stmt := top 11
theorem sc_read_value : FnScope ["text", "reader", "found"] ["text"] (defScope s_read_value) := ⟨rfl, rfl, rfl, by decide +kernel, rfl, by decide +kernel, by decide +kernel⟩
abbrev s_law_same : Stmt := top 13
theorem sc_law_same : FnScope ["actual", "due", "k"] ["actual", "due"] (defScope s_law_same) := ⟨rfl, rfl, rfl, by decide +kernel, rfl, by decide +kernel, by decide +kernel⟩
abbrev s_law_pool : Stmt := top 14
theorem sc_law_pool : FnScope ["script", "salt", "cell"] ["script"] (defScope s_law_pool) := ⟨rfl, rfl, rfl, by decide +kernel, rfl, by decide +kernel, by decide +kernel⟩
abbrev s_law_spread : Stmt := top 15
theorem sc_law_spread : FnScope ["cell", "mixed", "total", "k"] ["cell"] (defScope s_law_spread) := ⟨rfl, rfl, rfl, by decide +kernel, rfl, by decide +kernel, by decide +kernel⟩
abbrev s_law_draw : Stmt := top 16
theorem sc_law_draw : FnScope ["pool", "many", "cell", "mixed", "value"] ["pool", "many"] (defScope s_law_draw) := ⟨rfl, rfl, rfl, by decide +kernel, rfl, by decide +kernel, by decide +kernel⟩
abbrev s_law_pick : Stmt := top 17
theorem sc_law_pick : FnScope ["pool", "items"] ["pool", "items"] (defScope s_law_pick) := ⟨rfl, rfl, rfl, by decide +kernel, rfl, by decide +kernel, by decide +kernel⟩
abbrev s_law_garbled : Stmt := top 18
theorem sc_law_garbled : FnScope ["pool", "text", "signs", "at", "turn", "sign"] ["pool", "text", "signs"] (defScope s_law_garbled) := ⟨rfl, rfl, rfl, by decide +kernel, rfl, by decide +kernel, by decide +kernel⟩
abbrev s_law_word_sign : Stmt := top 19
theorem sc_law_word_sign : FnScope ["sign"] ["sign"] (defScope s_law_word_sign) := ⟨rfl, rfl, rfl, by decide +kernel, rfl, by decide +kernel, by decide +kernel⟩
abbrev s_law_whole_text : Stmt := top 20
theorem sc_law_whole_text : FnScope ["token", "body", "one"] ["token"] (defScope s_law_whole_text) := ⟨rfl, rfl, rfl, by decide +kernel, rfl, by decide +kernel, by decide +kernel⟩
abbrev s_law_taken : Stmt := top 21
theorem sc_law_taken : FnScope ["text", "at", "deep", "sign", "end", "found", "here", "part"] ["text", "at", "deep"] (defScope s_law_taken) := ⟨rfl, rfl, rfl, by decide +kernel, rfl, by decide +kernel, by decide +kernel⟩
abbrev s_law_value_of : Stmt := top 22
theorem sc_law_value_of : FnScope ["text", "part"] ["text"] (defScope s_law_value_of) := ⟨rfl, rfl, rfl, by decide +kernel, rfl, by decide +kernel, by decide +kernel⟩
abbrev s_law_some_value : Stmt := top 23
theorem sc_law_some_value : FnScope ["pool", "deep", "turn", "k"] ["pool", "deep"] (defScope s_law_some_value) := ⟨rfl, rfl, rfl, by decide +kernel, rfl, by decide +kernel, by decide +kernel⟩
abbrev s_law_types : Stmt := top 24
theorem sc_law_types : FnScope ["tree"] [] (defScope s_law_types) := ⟨rfl, rfl, rfl, by decide +kernel, rfl, by decide +kernel, by decide +kernel⟩
abbrev s_law_table : Stmt := top 25
theorem sc_law_table : FnScope ["number", "rows"] [] (defScope s_law_table) := ⟨rfl, rfl, rfl, by decide +kernel, rfl, by decide +kernel, by decide +kernel⟩
abbrev s_law_told : Stmt := top 26
theorem sc_law_told : FnScope ["text"] ["text"] (defScope s_law_told) := ⟨rfl, rfl, rfl, by decide +kernel, rfl, by decide +kernel, by decide +kernel⟩
abbrev s_law : Stmt := top 27
theorem sc_law : FnScope ["script", "pool", "tried", "k", "text", "j"] ["script"] (defScope s_law) := ⟨rfl, rfl, rfl, by decide +kernel, rfl, by decide +kernel, by decide +kernel⟩
abbrev FnP (K : PySem.W.Frag) (x q : Str) (st : Stmt) (f : Addr) (fd : FuncData) : Prop := FunD K x q (defArgs st) (defBody st) (defScope st) [] [] f fd
structure Txt (K : PySem.W.Frag) (mg : Str → Option Value) where
  d_write_value : FuncData
  d_ValueReader___init__ : FuncData
  d_ValueReader_next_sign : FuncData
  d_ValueReader_run_of : FuncData
  d_ValueReader_number : FuncData
  d_ValueReader_parts : FuncData
  d_ValueReader_value : FuncData
  d_read_value : FuncData
  d__law_same : FuncData
  d__law_pool : FuncData
  d__law_spread : FuncData
  d__law_draw : FuncData
  d__law_pick : FuncData
  d__law_garbled : FuncData
  d__law_word_sign : FuncData
  d__law_whole_text : FuncData
  d__law_taken : FuncData
  d__law_value_of : FuncData
  d__law_some_value : FuncData
  d__law_types : FuncData
  d__law_table : FuncData
  d__law_told : FuncData
  d_law : FuncData
  t_DIGITS : Tok
  t_WORD : Tok
  t_DEEPEST : Tok
  t_MOST_SIGNS : Tok
  t_MOST_DIGITS : Tok
  g_write_value : mg "write_value" = some (.ref (He.ga K "write_value"))
  g_read_value : mg "read_value" = some (.ref (He.ga K "read_value"))
  g__law_same : mg "_law_same" = some (.ref (He.ga K "_law_same"))
  g__law_pool : mg "_law_pool" = some (.ref (He.ga K "_law_pool"))
  g__law_spread : mg "_law_spread" = some (.ref (He.ga K "_law_spread"))
  g__law_draw : mg "_law_draw" = some (.ref (He.ga K "_law_draw"))
  g__law_pick : mg "_law_pick" = some (.ref (He.ga K "_law_pick"))
  g__law_garbled : mg "_law_garbled" = some (.ref (He.ga K "_law_garbled"))
  g__law_word_sign : mg "_law_word_sign" = some (.ref (He.ga K "_law_word_sign"))
  g__law_whole_text : mg "_law_whole_text" = some (.ref (He.ga K "_law_whole_text"))
  g__law_taken : mg "_law_taken" = some (.ref (He.ga K "_law_taken"))
  g__law_value_of : mg "_law_value_of" = some (.ref (He.ga K "_law_value_of"))
  g__law_some_value : mg "_law_some_value" = some (.ref (He.ga K "_law_some_value"))
  g__law_types : mg "_law_types" = some (.ref (He.ga K "_law_types"))
  g__law_table : mg "_law_table" = some (.ref (He.ga K "_law_table"))
  g__law_told : mg "_law_told" = some (.ref (He.ga K "_law_told"))
  g_law : mg "law" = some (.ref (He.ga K "law"))
  g_DownError : mg "DownError" = some (.ref (He.ga K "DownError"))
  e_DownError : PySem.W.excIn K (He.ga K "DownError") He.veBase "ValueError.__new__" = true ∧ PySem.W.keepIn K (.ref (He.ga K "DownError")) = true ∧ PySem.W.subIn K (.ref (He.ga K "DownError")) (.type "BaseException") = some true ∧ PySem.W.typeIn K (.ref (He.ga K "DownError")) = some (.type "type")
  x_DownError : PySem.W.exmOne K (.ref (He.ga K "DownError")) (.ref (He.ga K "DownError")) = some true
  g_BadText : mg "BadText" = some (.ref (He.ga K "BadText"))
  e_BadText : PySem.W.excIn K (He.ga K "BadText") He.veBase "ValueError.__new__" = true ∧ PySem.W.keepIn K (.ref (He.ga K "BadText")) = true ∧ PySem.W.subIn K (.ref (He.ga K "BadText")) (.type "BaseException") = some true ∧ PySem.W.typeIn K (.ref (He.ga K "BadText")) = some (.type "type")
  x_BadText : PySem.W.exmOne K (.ref (He.ga K "BadText")) (.ref (He.ga K "BadText")) = some true
  g_ValueReader : mg "ValueReader" = some (.ref (He.ga K "ValueReader"))
  c_ValueReader : Cls K (He.ga K "ValueReader")
  m_ValueReader : Mk K (He.ga K "ValueReader") (He.ma K (He.ga K "ValueReader") "__init__")
  n_ValueReader_text : NoAttr K (He.ga K "ValueReader") "text"
  n_ValueReader_at : NoAttr K (He.ga K "ValueReader") "at"
  mt_ValueReader_next_sign : Meth K (He.ga K "ValueReader") "next_sign" (He.ma K (He.ga K "ValueReader") "next_sign")
  mt_ValueReader_run_of : Meth K (He.ga K "ValueReader") "run_of" (He.ma K (He.ga K "ValueReader") "run_of")
  mt_ValueReader_number : Meth K (He.ga K "ValueReader") "number" (He.ma K (He.ga K "ValueReader") "number")
  mt_ValueReader_parts : Meth K (He.ga K "ValueReader") "parts" (He.ma K (He.ga K "ValueReader") "parts")
  mt_ValueReader_value : Meth K (He.ga K "ValueReader") "value" (He.ma K (He.ga K "ValueReader") "value")
  len : mg "len" = none
  range : mg "range" = none
  list : mg "list" = none
  tuple : mg "tuple" = none
  int : mg "int" = none
  str : mg "str" = none
  isinstance : mg "isinstance" = none
  bool : mg "bool" = none
  F_write_value : FnP K "write_value" "write_value" s_write_value (He.ga K "write_value") d_write_value
  b_write_value : Binds K d_write_value ["value"] []
  F_ValueReader___init__ : FnP K "__init__" "ValueReader.__init__" s_ValueReader___init__ (He.ma K (He.ga K "ValueReader") "__init__") d_ValueReader___init__
  b_ValueReader___init__ : Binds K d_ValueReader___init__ ["self", "text"] []
  F_ValueReader_next_sign : FnP K "next_sign" "ValueReader.next_sign" s_ValueReader_next_sign (He.ma K (He.ga K "ValueReader") "next_sign") d_ValueReader_next_sign
  b_ValueReader_next_sign : Binds K d_ValueReader_next_sign ["self"] []
  F_ValueReader_run_of : FnP K "run_of" "ValueReader.run_of" s_ValueReader_run_of (He.ma K (He.ga K "ValueReader") "run_of") d_ValueReader_run_of
  b_ValueReader_run_of : Binds K d_ValueReader_run_of ["self", "signs"] []
  F_ValueReader_number : FnP K "number" "ValueReader.number" s_ValueReader_number (He.ma K (He.ga K "ValueReader") "number") d_ValueReader_number
  b_ValueReader_number : Binds K d_ValueReader_number ["self"] []
  F_ValueReader_parts : FnP K "parts" "ValueReader.parts" s_ValueReader_parts (He.ma K (He.ga K "ValueReader") "parts") d_ValueReader_parts
  b_ValueReader_parts : Binds K d_ValueReader_parts ["self", "deep"] []
  F_ValueReader_value : FnP K "value" "ValueReader.value" s_ValueReader_value (He.ma K (He.ga K "ValueReader") "value") d_ValueReader_value
  b_ValueReader_value : Binds K d_ValueReader_value ["self", "deep"] []
  F_read_value : FnP K "read_value" "read_value" s_read_value (He.ga K "read_value") d_read_value
  b_read_value : Binds K d_read_value ["text"] []
  F__law_same : FnP K "_law_same" "_law_same" s_law_same (He.ga K "_law_same") d__law_same
  b__law_same : Binds K d__law_same ["actual", "due"] []
  F__law_pool : FnP K "_law_pool" "_law_pool" s_law_pool (He.ga K "_law_pool") d__law_pool
  b__law_pool : Binds K d__law_pool ["script"] []
  F__law_spread : FnP K "_law_spread" "_law_spread" s_law_spread (He.ga K "_law_spread") d__law_spread
  b__law_spread : Binds K d__law_spread ["cell"] []
  F__law_draw : FnP K "_law_draw" "_law_draw" s_law_draw (He.ga K "_law_draw") d__law_draw
  b__law_draw : Binds K d__law_draw ["pool", "many"] []
  F__law_pick : FnP K "_law_pick" "_law_pick" s_law_pick (He.ga K "_law_pick") d__law_pick
  b__law_pick : Binds K d__law_pick ["pool", "items"] []
  F__law_garbled : FnP K "_law_garbled" "_law_garbled" s_law_garbled (He.ga K "_law_garbled") d__law_garbled
  b__law_garbled : Binds K d__law_garbled ["pool", "text", "signs"] []
  F__law_word_sign : FnP K "_law_word_sign" "_law_word_sign" s_law_word_sign (He.ga K "_law_word_sign") d__law_word_sign
  b__law_word_sign : Binds K d__law_word_sign ["sign"] []
  F__law_whole_text : FnP K "_law_whole_text" "_law_whole_text" s_law_whole_text (He.ga K "_law_whole_text") d__law_whole_text
  b__law_whole_text : Binds K d__law_whole_text ["token"] []
  F__law_taken : FnP K "_law_taken" "_law_taken" s_law_taken (He.ga K "_law_taken") d__law_taken
  b__law_taken : Binds K d__law_taken ["text", "at", "deep"] []
  F__law_value_of : FnP K "_law_value_of" "_law_value_of" s_law_value_of (He.ga K "_law_value_of") d__law_value_of
  b__law_value_of : Binds K d__law_value_of ["text"] []
  F__law_some_value : FnP K "_law_some_value" "_law_some_value" s_law_some_value (He.ga K "_law_some_value") d__law_some_value
  b__law_some_value : Binds K d__law_some_value ["pool", "deep"] []
  F__law_types : FnP K "_law_types" "_law_types" s_law_types (He.ga K "_law_types") d__law_types
  b__law_types : Binds K d__law_types [] []
  F__law_table : FnP K "_law_table" "_law_table" s_law_table (He.ga K "_law_table") d__law_table
  b__law_table : Binds K d__law_table [] []
  F__law_told : FnP K "_law_told" "_law_told" s_law_told (He.ga K "_law_told") d__law_told
  b__law_told : Binds K d__law_told ["text"] []
  F_law : FnP K "law" "law" s_law (He.ga K "law") d_law
  b_law : Binds K d_law ["script"] []
  DIGITS : mg "DIGITS" = some (.str "0123456789" t_DIGITS)
  WORD : mg "WORD" = some (.str "abcdefghijklmnopqrstuvwxyz0123456789" t_WORD)
  DEEPEST : mg "DEEPEST" = some (.int 310 t_DEEPEST)
  MOST_SIGNS : mg "MOST_SIGNS" = some (.int 200000 t_MOST_SIGNS)
  MOST_DIGITS : mg "MOST_DIGITS" = some (.int 6 t_MOST_DIGITS)
def fnL : List He.DefD := [⟨("write_value", none), "write_value", "write_value", defArgs s_write_value, defBody s_write_value, defScope s_write_value, [], []⟩,
  ⟨("ValueReader", some "__init__"), "__init__", "ValueReader.__init__", defArgs s_ValueReader___init__, defBody s_ValueReader___init__, defScope s_ValueReader___init__, [], []⟩,
  ⟨("ValueReader", some "next_sign"), "next_sign", "ValueReader.next_sign", defArgs s_ValueReader_next_sign, defBody s_ValueReader_next_sign, defScope s_ValueReader_next_sign, [], []⟩,
  ⟨("ValueReader", some "run_of"), "run_of", "ValueReader.run_of", defArgs s_ValueReader_run_of, defBody s_ValueReader_run_of, defScope s_ValueReader_run_of, [], []⟩,
  ⟨("ValueReader", some "number"), "number", "ValueReader.number", defArgs s_ValueReader_number, defBody s_ValueReader_number, defScope s_ValueReader_number, [], []⟩,
  ⟨("ValueReader", some "parts"), "parts", "ValueReader.parts", defArgs s_ValueReader_parts, defBody s_ValueReader_parts, defScope s_ValueReader_parts, [], []⟩,
  ⟨("ValueReader", some "value"), "value", "ValueReader.value", defArgs s_ValueReader_value, defBody s_ValueReader_value, defScope s_ValueReader_value, [], []⟩,
  ⟨("read_value", none), "read_value", "read_value", defArgs s_read_value, defBody s_read_value, defScope s_read_value, [], []⟩,
  ⟨("_law_same", none), "_law_same", "_law_same", defArgs s_law_same, defBody s_law_same, defScope s_law_same, [], []⟩,
  ⟨("_law_pool", none), "_law_pool", "_law_pool", defArgs s_law_pool, defBody s_law_pool, defScope s_law_pool, [], []⟩,
  ⟨("_law_spread", none), "_law_spread", "_law_spread", defArgs s_law_spread, defBody s_law_spread, defScope s_law_spread, [], []⟩,
  ⟨("_law_draw", none), "_law_draw", "_law_draw", defArgs s_law_draw, defBody s_law_draw, defScope s_law_draw, [], []⟩,
  ⟨("_law_pick", none), "_law_pick", "_law_pick", defArgs s_law_pick, defBody s_law_pick, defScope s_law_pick, [], []⟩,
  ⟨("_law_garbled", none), "_law_garbled", "_law_garbled", defArgs s_law_garbled, defBody s_law_garbled, defScope s_law_garbled, [], []⟩,
  ⟨("_law_word_sign", none), "_law_word_sign", "_law_word_sign", defArgs s_law_word_sign, defBody s_law_word_sign, defScope s_law_word_sign, [], []⟩,
  ⟨("_law_whole_text", none), "_law_whole_text", "_law_whole_text", defArgs s_law_whole_text, defBody s_law_whole_text, defScope s_law_whole_text, [], []⟩,
  ⟨("_law_taken", none), "_law_taken", "_law_taken", defArgs s_law_taken, defBody s_law_taken, defScope s_law_taken, [], []⟩,
  ⟨("_law_value_of", none), "_law_value_of", "_law_value_of", defArgs s_law_value_of, defBody s_law_value_of, defScope s_law_value_of, [], []⟩,
  ⟨("_law_some_value", none), "_law_some_value", "_law_some_value", defArgs s_law_some_value, defBody s_law_some_value, defScope s_law_some_value, [], []⟩,
  ⟨("_law_types", none), "_law_types", "_law_types", defArgs s_law_types, defBody s_law_types, defScope s_law_types, [], []⟩,
  ⟨("_law_table", none), "_law_table", "_law_table", defArgs s_law_table, defBody s_law_table, defScope s_law_table, [], []⟩,
  ⟨("_law_told", none), "_law_told", "_law_told", defArgs s_law_told, defBody s_law_told, defScope s_law_told, [], []⟩,
  ⟨("law", none), "law", "law", defArgs s_law, defBody s_law, defScope s_law, [], []⟩]
def faL : List He.Fa := [.glo "write_value", .glo "read_value", .glo "_law_same", .glo "_law_pool", .glo "_law_spread", .glo "_law_draw", .glo "_law_pick", .glo "_law_garbled", .glo "_law_word_sign", .glo "_law_whole_text", .glo "_law_taken", .glo "_law_value_of", .glo "_law_some_value", .glo "_law_types", .glo "_law_table", .glo "_law_told", .glo "law", .glo "DownError", .exc "DownError", .exm "DownError" "DownError" true, .glo "BadText", .exc "BadText", .exm "BadText" "BadText" true, .glo "ValueReader", .cls "ValueReader", .mkr "ValueReader", .noat "ValueReader" "text", .noat "ValueReader" "at", .meth "ValueReader" "next_sign", .meth "ValueReader" "run_of", .meth "ValueReader" "number", .meth "ValueReader" "parts", .meth "ValueReader" "value", .free "len", .free "range", .free "list", .free "tuple", .free "int", .free "str", .free "isinstance", .free "bool", .str "DIGITS" "0123456789", .str "WORD" "abcdefghijklmnopqrstuvwxyz0123456789", .int "DEEPEST" 310, .int "MOST_SIGNS" 200000, .int "MOST_DIGITS" 6]
theorem txt_of {K : PySem.W.Frag} {h : Heap} {mg : Str → Option Value} (X : K.In h) (G : h.Ns mainGlobals mg) (c : He.SaysD faL fnL K) : Nonempty (Txt K mg) := by
  obtain ⟨t_DIGITS, e_DIGITS⟩ := He.str_ok X G (c.fact 41 (f := .str "DIGITS" "0123456789") rfl)
  obtain ⟨t_WORD, e_WORD⟩ := He.str_ok X G (c.fact 42 (f := .str "WORD" "abcdefghijklmnopqrstuvwxyz0123456789") rfl)
  obtain ⟨t_DEEPEST, e_DEEPEST⟩ := He.int_ok X G (c.fact 43 (f := .int "DEEPEST" 310) rfl)
  obtain ⟨t_MOST_SIGNS, e_MOST_SIGNS⟩ := He.int_ok X G (c.fact 44 (f := .int "MOST_SIGNS" 200000) rfl)
  obtain ⟨t_MOST_DIGITS, e_MOST_DIGITS⟩ := He.int_ok X G (c.fact 45 (f := .int "MOST_DIGITS" 6) rfl)
  obtain ⟨d_write_value, F_write_value⟩ := c.def_ 0 rfl
  obtain ⟨d_ValueReader___init__, F_ValueReader___init__⟩ := c.def_ 1 rfl
  obtain ⟨d_ValueReader_next_sign, F_ValueReader_next_sign⟩ := c.def_ 2 rfl
  obtain ⟨d_ValueReader_run_of, F_ValueReader_run_of⟩ := c.def_ 3 rfl
  obtain ⟨d_ValueReader_number, F_ValueReader_number⟩ := c.def_ 4 rfl
  obtain ⟨d_ValueReader_parts, F_ValueReader_parts⟩ := c.def_ 5 rfl
  obtain ⟨d_ValueReader_value, F_ValueReader_value⟩ := c.def_ 6 rfl
  obtain ⟨d_read_value, F_read_value⟩ := c.def_ 7 rfl
  obtain ⟨d__law_same, F__law_same⟩ := c.def_ 8 rfl
  obtain ⟨d__law_pool, F__law_pool⟩ := c.def_ 9 rfl
  obtain ⟨d__law_spread, F__law_spread⟩ := c.def_ 10 rfl
  obtain ⟨d__law_draw, F__law_draw⟩ := c.def_ 11 rfl
  obtain ⟨d__law_pick, F__law_pick⟩ := c.def_ 12 rfl
  obtain ⟨d__law_garbled, F__law_garbled⟩ := c.def_ 13 rfl
  obtain ⟨d__law_word_sign, F__law_word_sign⟩ := c.def_ 14 rfl
  obtain ⟨d__law_whole_text, F__law_whole_text⟩ := c.def_ 15 rfl
  obtain ⟨d__law_taken, F__law_taken⟩ := c.def_ 16 rfl
  obtain ⟨d__law_value_of, F__law_value_of⟩ := c.def_ 17 rfl
  obtain ⟨d__law_some_value, F__law_some_value⟩ := c.def_ 18 rfl
  obtain ⟨d__law_types, F__law_types⟩ := c.def_ 19 rfl
  obtain ⟨d__law_table, F__law_table⟩ := c.def_ 20 rfl
  obtain ⟨d__law_told, F__law_told⟩ := c.def_ 21 rfl
  obtain ⟨d_law, F_law⟩ := c.def_ 22 rfl
  exact ⟨{
    d_write_value := d_write_value,
    d_ValueReader___init__ := d_ValueReader___init__,
    d_ValueReader_next_sign := d_ValueReader_next_sign,
    d_ValueReader_run_of := d_ValueReader_run_of,
    d_ValueReader_number := d_ValueReader_number,
    d_ValueReader_parts := d_ValueReader_parts,
    d_ValueReader_value := d_ValueReader_value,
    d_read_value := d_read_value,
    d__law_same := d__law_same,
    d__law_pool := d__law_pool,
    d__law_spread := d__law_spread,
    d__law_draw := d__law_draw,
    d__law_pick := d__law_pick,
    d__law_garbled := d__law_garbled,
    d__law_word_sign := d__law_word_sign,
    d__law_whole_text := d__law_whole_text,
    d__law_taken := d__law_taken,
    d__law_value_of := d__law_value_of,
    d__law_some_value := d__law_some_value,
    d__law_types := d__law_types,
    d__law_table := d__law_table,
    d__law_told := d__law_told,
    d_law := d_law,
    t_DIGITS := t_DIGITS,
    t_WORD := t_WORD,
    t_DEEPEST := t_DEEPEST,
    t_MOST_SIGNS := t_MOST_SIGNS,
    t_MOST_DIGITS := t_MOST_DIGITS,
    g_write_value := He.glo_ok X G (c.fact 0 rfl),
    g_read_value := He.glo_ok X G (c.fact 1 rfl),
    g__law_same := He.glo_ok X G (c.fact 2 rfl),
    g__law_pool := He.glo_ok X G (c.fact 3 rfl),
    g__law_spread := He.glo_ok X G (c.fact 4 rfl),
    g__law_draw := He.glo_ok X G (c.fact 5 rfl),
    g__law_pick := He.glo_ok X G (c.fact 6 rfl),
    g__law_garbled := He.glo_ok X G (c.fact 7 rfl),
    g__law_word_sign := He.glo_ok X G (c.fact 8 rfl),
    g__law_whole_text := He.glo_ok X G (c.fact 9 rfl),
    g__law_taken := He.glo_ok X G (c.fact 10 rfl),
    g__law_value_of := He.glo_ok X G (c.fact 11 rfl),
    g__law_some_value := He.glo_ok X G (c.fact 12 rfl),
    g__law_types := He.glo_ok X G (c.fact 13 rfl),
    g__law_table := He.glo_ok X G (c.fact 14 rfl),
    g__law_told := He.glo_ok X G (c.fact 15 rfl),
    g_law := He.glo_ok X G (c.fact 16 rfl),
    g_DownError := He.glo_ok X G (c.fact 17 rfl),
    e_DownError := He.exc_ok (c.fact 18 rfl),
    x_DownError := He.exm_ok (c.fact 19 rfl),
    g_BadText := He.glo_ok X G (c.fact 20 rfl),
    e_BadText := He.exc_ok (c.fact 21 rfl),
    x_BadText := He.exm_ok (c.fact 22 rfl),
    g_ValueReader := He.glo_ok X G (c.fact 23 rfl),
    c_ValueReader := He.cls_ok (c.fact 24 rfl),
    m_ValueReader := He.mkr_ok (c.fact 25 rfl),
    n_ValueReader_text := He.noat_ok (c.fact 26 rfl),
    n_ValueReader_at := He.noat_ok (c.fact 27 rfl),
    mt_ValueReader_next_sign := He.meth_ok (c.fact 28 rfl),
    mt_ValueReader_run_of := He.meth_ok (c.fact 29 rfl),
    mt_ValueReader_number := He.meth_ok (c.fact 30 rfl),
    mt_ValueReader_parts := He.meth_ok (c.fact 31 rfl),
    mt_ValueReader_value := He.meth_ok (c.fact 32 rfl),
    len := He.free_ok X G (c.fact 33 rfl),
    range := He.free_ok X G (c.fact 34 rfl),
    list := He.free_ok X G (c.fact 35 rfl),
    tuple := He.free_ok X G (c.fact 36 rfl),
    int := He.free_ok X G (c.fact 37 rfl),
    str := He.free_ok X G (c.fact 38 rfl),
    isinstance := He.free_ok X G (c.fact 39 rfl),
    bool := He.free_ok X G (c.fact 40 rfl),
    F_write_value := F_write_value,
    b_write_value := (F_write_value.bindsN (ps := ["value"]) fun _ _ _ _ _ _ us hl => match us, hl with | [_], _ => rfl),
    F_ValueReader___init__ := F_ValueReader___init__,
    b_ValueReader___init__ := (F_ValueReader___init__.bindsN (ps := ["self", "text"]) fun _ _ _ _ _ _ us hl => match us, hl with | [_, _], _ => rfl),
    F_ValueReader_next_sign := F_ValueReader_next_sign,
    b_ValueReader_next_sign := (F_ValueReader_next_sign.bindsN (ps := ["self"]) fun _ _ _ _ _ _ us hl => match us, hl with | [_], _ => rfl),
    F_ValueReader_run_of := F_ValueReader_run_of,
    b_ValueReader_run_of := (F_ValueReader_run_of.bindsN (ps := ["self", "signs"]) fun _ _ _ _ _ _ us hl => match us, hl with | [_, _], _ => rfl),
    F_ValueReader_number := F_ValueReader_number,
    b_ValueReader_number := (F_ValueReader_number.bindsN (ps := ["self"]) fun _ _ _ _ _ _ us hl => match us, hl with | [_], _ => rfl),
    F_ValueReader_parts := F_ValueReader_parts,
    b_ValueReader_parts := (F_ValueReader_parts.bindsN (ps := ["self", "deep"]) fun _ _ _ _ _ _ us hl => match us, hl with | [_, _], _ => rfl),
    F_ValueReader_value := F_ValueReader_value,
    b_ValueReader_value := (F_ValueReader_value.bindsN (ps := ["self", "deep"]) fun _ _ _ _ _ _ us hl => match us, hl with | [_, _], _ => rfl),
    F_read_value := F_read_value,
    b_read_value := (F_read_value.bindsN (ps := ["text"]) fun _ _ _ _ _ _ us hl => match us, hl with | [_], _ => rfl),
    F__law_same := F__law_same,
    b__law_same := (F__law_same.bindsN (ps := ["actual", "due"]) fun _ _ _ _ _ _ us hl => match us, hl with | [_, _], _ => rfl),
    F__law_pool := F__law_pool,
    b__law_pool := (F__law_pool.bindsN (ps := ["script"]) fun _ _ _ _ _ _ us hl => match us, hl with | [_], _ => rfl),
    F__law_spread := F__law_spread,
    b__law_spread := (F__law_spread.bindsN (ps := ["cell"]) fun _ _ _ _ _ _ us hl => match us, hl with | [_], _ => rfl),
    F__law_draw := F__law_draw,
    b__law_draw := (F__law_draw.bindsN (ps := ["pool", "many"]) fun _ _ _ _ _ _ us hl => match us, hl with | [_, _], _ => rfl),
    F__law_pick := F__law_pick,
    b__law_pick := (F__law_pick.bindsN (ps := ["pool", "items"]) fun _ _ _ _ _ _ us hl => match us, hl with | [_, _], _ => rfl),
    F__law_garbled := F__law_garbled,
    b__law_garbled := (F__law_garbled.bindsN (ps := ["pool", "text", "signs"]) fun _ _ _ _ _ _ us hl => match us, hl with | [_, _, _], _ => rfl),
    F__law_word_sign := F__law_word_sign,
    b__law_word_sign := (F__law_word_sign.bindsN (ps := ["sign"]) fun _ _ _ _ _ _ us hl => match us, hl with | [_], _ => rfl),
    F__law_whole_text := F__law_whole_text,
    b__law_whole_text := (F__law_whole_text.bindsN (ps := ["token"]) fun _ _ _ _ _ _ us hl => match us, hl with | [_], _ => rfl),
    F__law_taken := F__law_taken,
    b__law_taken := (F__law_taken.bindsN (ps := ["text", "at", "deep"]) fun _ _ _ _ _ _ us hl => match us, hl with | [_, _, _], _ => rfl),
    F__law_value_of := F__law_value_of,
    b__law_value_of := (F__law_value_of.bindsN (ps := ["text"]) fun _ _ _ _ _ _ us hl => match us, hl with | [_], _ => rfl),
    F__law_some_value := F__law_some_value,
    b__law_some_value := (F__law_some_value.bindsN (ps := ["pool", "deep"]) fun _ _ _ _ _ _ us hl => match us, hl with | [_, _], _ => rfl),
    F__law_types := F__law_types,
    b__law_types := (F__law_types.bindsN (ps := []) fun _ _ _ _ _ _ us hl => match us, hl with | [], _ => rfl),
    F__law_table := F__law_table,
    b__law_table := (F__law_table.bindsN (ps := []) fun _ _ _ _ _ _ us hl => match us, hl with | [], _ => rfl),
    F__law_told := F__law_told,
    b__law_told := (F__law_told.bindsN (ps := ["text"]) fun _ _ _ _ _ _ us hl => match us, hl with | [_], _ => rfl),
    F_law := F_law,
    b_law := (F_law.bindsN (ps := ["script"]) fun _ _ _ _ _ _ us hl => match us, hl with | [_], _ => rfl),
    DIGITS := e_DIGITS,
    WORD := e_WORD,
    DEEPEST := e_DEEPEST,
    MOST_SIGNS := e_MOST_SIGNS,
    MOST_DIGITS := e_MOST_DIGITS }⟩
abbrev RR : PySem.W.OpenRow := PySem.W.OpenLaw.row PySem.Challenge.rw_wholedown_k16_faulty_texts_of_values
abbrev hk : PySem.W.Hook := He.hookD 6 faL fnL
def ob (s : PySem.W.SharedT) : He.AlD := He.obsDG 6 faL fnL (HandSHeadRun.getT s)
theorem ob_eq (s : PySem.W.SharedT) : ob s = hk.obs s.abs := He.obsDG_eq (HandSHeadRun.getT_eq s)
def looseN : List Str := (["write_value", "read_value", "_law_same", "_law_pool", "_law_spread", "_law_draw", "_law_pick", "_law_garbled", "_law_word_sign", "_law_whole_text", "_law_taken", "_law_value_of", "_law_some_value", "_law_types", "_law_table", "_law_told", "DownError", "BadText", "ValueReader", "DIGITS"] : List Str) ++ (["WORD", "DEEPEST", "MOST_SIGNS", "MOST_DIGITS"] : List Str)
theorem run (w : World) : HandSHeadRun.RunEq RR (PySem.W.view RR.prog [27]) hk ob 20000 looseN w := by
  intro os
  kernel_rfl
end K16

set_option Elab.async false
set_option linter.all false
set_option maxRecDepth 100000
set_option maxHeartbeats 4000000
/-! k16: heaps beside the pool, values as data, comprehensions -/
namespace K16
open PySem PySem.Spec PyProof.Rows L2
theorem pe_gi {X : Cx} {x : Str} {i : Int} {t : PySem.Tok} {pos : Pos} (h : Gl X x) (hm : X.mg x = some (.int i t)) (hd : (x == ("__debug__" : Str)) = false := by decide) : PE X (.Name x pos) (tC (.int i)) := pe_glob (v := .int i) h hm ⟨t, rfl⟩ hd
theorem pe_gs {X : Cx} {x : Str} {i : Str} {t : PySem.Tok} {pos : Pos} (h : Gl X x) (hm : X.mg x = some (.str i t)) (hd : (x == ("__debug__" : Str)) = false := by decide) : PE X (.Name x pos) (tC (.str i)) := pe_glob (v := .str i) h hm ⟨t, rfl⟩ hd
theorem pe_gt {X : Cx} {x : Str} {a : Addr} {pos : Pos} (h : Gl X x) (hm : X.mg x = some (.ref a)) (hd : (x == ("__debug__" : Str)) = false := by decide) : PE X (.Name x pos) (tC (.ref a)) := pe_glob (v := .ref a) h hm rfl hd
abbrev rLenS (K : PySem.W.Frag) : List V → Hp → VK → Prop := fun xs H Q => ∃ p ys, xs = [.ref p] ∧ (SqL K H p ys ∨ SqT K H p ys) ∧ Q (.int ys.length) H
abbrev rListOf (K : PySem.W.Frag) : List V → Hp → VK → Prop := fun xs H Q => ∃ p ys, xs = [.ref p] ∧ (SqL K H p ys ∨ SqT K H p ys) ∧ ∀ l, H l = none → Q (.ref l) (upd H l (.lst ys))
abbrev rTupOf (K : PySem.W.Frag) : List V → Hp → VK → Prop := fun xs H Q => ∃ p ys, xs = [.ref p] ∧ ((SqL K H p ys ∧ ∀ l, H l = none → Q (.ref l) (upd H l (.tup ys))) ∨ (SqT K H p ys ∧ Q (.ref p) H))
def rEqM (K : PySem.W.Frag) : R2 := fun x y H Q => ∃ d e, Dp K H x d ∧ Dp K H y e ∧ d.canLay0 = true ∧ e.canLay0 = true ∧ min d.depth e.depth ≤ 64 ∧ Q (.bl (PyData.eqv d e)) H
def rNeM (K : PySem.W.Frag) : R2 := fun x y H Q => ∃ d e, Dp K H x d ∧ Dp K H y e ∧ d.canLay0 = true ∧ e.canLay0 = true ∧ min d.depth e.depth ≤ 64 ∧ Q (.bl (!PyData.eqv d e)) H
theorem op_eqM {X : Cx} (hu : X.A.units + 64 < cLine) : OpR X (compareOp .Eq) (rEqM X.K) := by
  intro pins s σ H x y v u Q I rx ry h
  obtain ⟨d, e, hd, he, sd, se, hm, q⟩ := h
  obtain ⟨as, r1⟩ := Dp.reads I d x v hd rx
  obtain ⟨bs, r2⟩ := Dp.reads I e y u he ry
  exact SeqAt.compareEq_reads r1 r2 sd se (by omega) ⟨.bl _, H, I, rfl, q⟩
theorem op_neM {X : Cx} (hu : X.A.units + 64 < cLine) : OpR X (compareOp .NotEq) (rNeM X.K) := by
  intro pins s σ H x y v u Q I rx ry h
  obtain ⟨d, e, hd, he, sd, se, hm, q⟩ := h
  obtain ⟨as, r1⟩ := Dp.reads I d x v hd rx
  obtain ⟨bs, r2⟩ := Dp.reads I e y u he ry
  exact SeqAt.compareNe_reads r1 r2 sd se (by omega) ⟨.bl _, H, I, rfl, q⟩
/-! the heap beside the pool -/
def hid (p : Addr) (H : Hp) : Hp := fun a => if a = p then none else H a
def But (p : Addr) (H H' : Hp) : Prop := Same (hid p H) (hid p H')
theorem hid_at {p a : Addr} {H : Hp} (h : a ≠ p) : hid p H a = H a := if_neg h
theorem hid_le (p : Addr) (H : Hp) : Same (hid p H) H := fun a o h => by
  by_cases e : a = p
  · unfold hid at h; rw [if_pos e] at h; cases h
  · rw [hid_at e] at h; exact h
theorem hid_some {p a : Addr} {H : Hp} {o : HO} (h : hid p H a = some o) : a ≠ p := fun e => by unfold hid at h; rw [if_pos e] at h; cases h
theorem _root_.L2.Same.but {H H' : Hp} (s : Same H H') (p : Addr) : But p H H' := fun a o h => by
  have e := hid_some h
  rw [hid_at e] at h ⊢; exact s a o h
theorem But.refl (p : Addr) (H : Hp) : But p H H := Same.refl _
theorem But.trans {p : Addr} {H H1 H2 : Hp} (a : But p H H1) (b : But p H1 H2) : But p H H2 := Same.trans a b
theorem But.at {p a : Addr} {H H' : Hp} {o : HO} (b : But p H H') (h : H a = some o) (n : a ≠ p) : H' a = some o := by
  have := b a o (by rw [hid_at n]; exact h)
  rwa [hid_at n] at this
theorem _root_.L2.Same.upd_new {H0 H : Hp} {a : Addr} {o : HO} (h : Same H0 H) (ha : H0 a = none) : Same H0 (upd H a o) := fun b u e => by
  rw [upd_ne (ne_of_none e ha)]; exact h b u e
theorem Same.one {H : Hp} {a : Addr} {o : HO} (h : H a = none) : Same H (upd H a o) := (Same.refl H).upd_new h
theorem But.set {p : Addr} {H : Hp} {o : HO} : But p H (upd H p o) := fun a u h => by
  have e := hid_some h
  rw [hid_at e] at h ⊢
  rw [upd_ne e]; exact h
theorem _root_.L2.Same.sqt {K : PySem.W.Frag} {H H' : Hp} {a : Addr} {xs : List V} (e : Same H H') (h : SqT K H a xs) : SqT K H' a xs := by
  rcases h with (h | ⟨o, h⟩) | h
  · exact .inl (.inl (e _ _ h))
  · exact .inl (.inr ⟨o, e _ _ h⟩)
  · exact .inr h
theorem sqt_new {K : PySem.W.Frag} {H : Hp} {a : Addr} {xs : List V} (h : H a = some (.tup xs)) : SqT K H a xs := .inl (.inl h)
theorem sql_new {K : PySem.W.Frag} {H : Hp} {a : Addr} {xs : List V} (h : H a = some (.lst xs)) : SqL K H a xs := .inl (.inl h)
mutual
theorem dp_same {K : PySem.W.Frag} {H H' : Hp} (s : Same H H') : ∀ (d : PyData) (v : V), Dp K H v d → Dp K H' v d
  | .none, _, h => by cases h; exact .non
  | .bool b, _, h => by cases h; exact .bl b
  | .int i, _, h => by cases h; exact .int i
  | .str x, _, h => by cases h; exact .str x
  | .list ds, _, h => by cases h with | lst hs ha => exact .lst (s.seq hs) (dps_same s ds _ ha)
  | .tuple ds, _, h => by cases h with | tup hs ha => exact .tup (s.sqt hs) (dps_same s ds _ ha)
  | .dict _, _, h => by cases h
theorem dps_same {K : PySem.W.Frag} {H H' : Hp} (s : Same H H') : ∀ (ds : List PyData) (vs : List V), DpAll K H vs ds → DpAll K H' vs ds
  | [], _, h => by cases h; exact .nil
  | d :: ds, _, h => by cases h with | cons h1 h2 => exact .cons (dp_same s d _ h1) (dps_same s ds _ h2)
end
theorem _root_.L2.Dp.same {K : PySem.W.Frag} {H H' : Hp} {v : V} {d : PyData} (h : Dp K H v d) (s : Same H H') : Dp K H' v d := dp_same s d v h
theorem _root_.L2.DpAll.same {K : PySem.W.Frag} {H H' : Hp} {v : List V} {d : List PyData} (h : DpAll K H v d) (s : Same H H') : DpAll K H' v d := dps_same s d v h
theorem dpa_len {K : PySem.W.Frag} {H : Hp} : ∀ {v : List V} {d : List PyData}, DpAll K H v d → v.length = d.length
  | _, _, .nil => rfl
  | _, _, .cons _ t => by rw [List.length_cons, List.length_cons, dpa_len t]
theorem dpa_at {K : PySem.W.Frag} {H : Hp} : ∀ {vs : List V} {ds : List PyData} {i : Nat} {v : V}, DpAll K H vs ds → vs[i]? = some v → ∃ d, ds[i]? = some d ∧ Dp K H v d
  | _, _, i, v, .nil, h => by simp at h
  | _, _, 0, v, .cons h1 _, h => by cases h; exact ⟨_, rfl, h1⟩
  | _, _, i + 1, v, .cons _ t, h => dpa_at (i := i) t h
theorem _root_.L2.DpAll.len {K : PySem.W.Frag} {H : Hp} {v : List V} {d : List PyData} (h : DpAll K H v d) : v.length = d.length := dpa_len h
theorem _root_.L2.DpAll.at {K : PySem.W.Frag} {H : Hp} {vs : List V} {ds : List PyData} {i : Nat} {v : V} (h : DpAll K H vs ds) (e : vs[i]? = some v) : ∃ d, ds[i]? = some d ∧ Dp K H v d := dpa_at h e
theorem _root_.L2.DpAll.at2 {K : PySem.W.Frag} {H : Hp} {vs : List V} {ds : List PyData} {i : Nat} {d : PyData} (h : DpAll K H vs ds) (e : ds[i]? = some d) : ∃ v, vs[i]? = some v ∧ Dp K H v d := by
  have hl := h.len
  have hi : i < ds.length := (List.getElem?_eq_some_iff.mp e).1
  obtain ⟨d', e', hd⟩ := h.at (i := i) (v := vs[i]) (List.getElem?_eq_getElem (by omega))
  rw [e] at e'; cases e'
  exact ⟨_, List.getElem?_eq_getElem (by omega), hd⟩
theorem dpa_app {K : PySem.W.Frag} {H : Hp} : ∀ {v : List V} {d : List PyData} {v2 : List V} {d2 : List PyData}, DpAll K H v d → DpAll K H v2 d2 → DpAll K H (v ++ v2) (d ++ d2)
  | _, _, _, _, .nil, h => h
  | _, _, _, _, .cons a t, h => .cons a (dpa_app t h)
theorem _root_.L2.DpAll.app {K : PySem.W.Frag} {H : Hp} {v : List V} {d : List PyData} {v2 : List V} {d2 : List PyData} (a : DpAll K H v d) (b : DpAll K H v2 d2) : DpAll K H (v ++ v2) (d ++ d2) := dpa_app a b
theorem dps_of {K : PySem.W.Frag} {H : Hp} : ∀ {vs : List V} {ds : List PyData}, vs.length = ds.length → (∀ (i : Nat) (v : V) (d : PyData), vs[i]? = some v → ds[i]? = some d → Dp K H v d) → DpAll K H vs ds
  | [], [], _, _ => .nil
  | [], _ :: _, h, _ => by simp at h
  | _ :: _, [], h, _ => by simp at h
  | v :: vs, d :: ds, h, g => .cons (g 0 v d rfl rfl) (dps_of (by simpa using h) fun i v' d' h1 h2 => g (i + 1) v' d' h1 h2)
theorem dps_take {K : PySem.W.Frag} {H : Hp} {vs : List V} {ds : List PyData} (n : Nat) (h : DpAll K H vs ds) : DpAll K H (vs.take n) (ds.take n) :=
  dps_of (by rw [List.length_take, List.length_take, h.len]) fun i v d h1 h2 => by
    rw [List.getElem?_take] at h1 h2
    split at h1
    · rename_i hlt
      rw [if_pos hlt] at h2
      obtain ⟨d', e, hd⟩ := h.at h1
      rw [h2] at e; cases e; exact hd
    · cases h1
theorem dps_drop {K : PySem.W.Frag} {H : Hp} {vs : List V} {ds : List PyData} (n : Nat) (h : DpAll K H vs ds) : DpAll K H (vs.drop n) (ds.drop n) :=
  dps_of (by rw [List.length_drop, List.length_drop, h.len]) fun i v d h1 h2 => by
    rw [List.getElem?_drop] at h1 h2
    obtain ⟨d', e, hd⟩ := h.at h1
    rw [h2] at e; cases e; exact hd
/-! kinds of data, for isinstance -/
def tyD : PyData → String
  | .none => "NoneType" | .bool _ => "bool" | .int _ => "int" | .str _ => "str" | .list _ => "list" | .tuple _ => "tuple" | .dict _ => "dict"
/-- a value that is data, or a dict -/
def Vx (K : PySem.W.Frag) (H : Hp) (v : V) (d : PyData) : Prop := Dp K H v d ∨ (∃ kvs a, d = .dict kvs ∧ v = .ref a ∧ ∃ ks, H a = some (.dK ks))
theorem _root_.L2.Dp.x {K : PySem.W.Frag} {H : Hp} {v : V} {d : PyData} (h : Dp K H v d) : Vx K H v d := .inl h
theorem Vx.same {K : PySem.W.Frag} {H H' : Hp} {v : V} {d : PyData} (h : Vx K H v d) (s : Same H H') : Vx K H' v d := by
  rcases h with h | ⟨k, a, e1, e2, ks, e3⟩
  · exact .inl (h.same s)
  · exact .inr ⟨k, a, e1, e2, ks, s _ _ e3⟩
theorem tyx {K : PySem.W.Frag} {H : Hp} {v : V} {d : PyData} (h : Vx K H v d) : TyX K H v (.type (tyD d)) := by
  rcases h with h | ⟨k, a, rfl, rfl, ks, e3⟩
  · cases h with
    | non => exact .base .non
    | bl b => exact .base (.bl b)
    | int i => exact .base (.int i)
    | str x => exact .base (.str x)
    | lst hs _ =>
      rcases hs with (h | ⟨o, h⟩) | ⟨o, its, n, h1, h2, _⟩
      · exact .base (.lst h)
      · exact .base (.frz h)
      · exact .kList h1 h2
    | tup hs _ =>
      rcases hs with (h | ⟨o, h⟩) | ⟨o, its, n, h1, h2, _⟩
      · exact .base (.tup h)
      · exact .fTuple h
      · exact .kTuple h1 h2
  · exact .base (.dK e3)
def isTup : PyData → Bool
  | .tuple _ => true
  | _ => false
def isLst : PyData → Bool
  | .list _ => true
  | _ => false
def isStr : PyData → Bool
  | .str _ => true
  | _ => false
def isInt : PyData → Bool
  | .int _ | .bool _ => true
  | _ => false
def isBool : PyData → Bool
  | .bool _ => true
  | _ => false
theorem ki_tup {K : PySem.W.Frag} (d : PyData) : PySem.W.kitOne K (.type (tyD d)) (.type "tuple") = some (isTup d) := kit_ty (by cases d <;> (simp only [tyD, isTup]; decide +kernel))
theorem ki_lst {K : PySem.W.Frag} (d : PyData) : PySem.W.kitOne K (.type (tyD d)) (.type "list") = some (isLst d) := kit_ty (by cases d <;> (simp only [tyD, isLst]; decide +kernel))
theorem ki_str {K : PySem.W.Frag} (d : PyData) : PySem.W.kitOne K (.type (tyD d)) (.type "str") = some (isStr d) := kit_ty (by cases d <;> (simp only [tyD, isStr]; decide +kernel))
theorem ki_int {K : PySem.W.Frag} (d : PyData) : PySem.W.kitOne K (.type (tyD d)) (.type "int") = some (isInt d) := kit_ty (by cases d <;> (simp only [tyD, isInt]; decide +kernel))
theorem ki_bool {K : PySem.W.Frag} (d : PyData) : PySem.W.kitOne K (.type (tyD d)) (.type "bool") = some (isBool d) := kit_ty (by cases d <;> (simp only [tyD, isBool]; decide +kernel))
/-! comprehensions: turn i gives c i, nothing or one -/
def LcS (H1 : Hp) (D : Addr) (c : Nat → List V) (i : Nat) (H : Hp) : Prop := Same H1 H ∧ H D = some (.lst ((List.range i).flatMap c)) ∧ ∀ j, (c j).length ≤ 1
theorem LcS.zero {H1 : Hp} {D : Addr} {c : Nat → List V} (hD : H1 D = none) (h : ∀ j, (c j).length ≤ 1) : LcS H1 D c 0 (upd H1 D (.lst [])) := ⟨Same.one hD, upd_same, h⟩
theorem LcS.lens {c : Nat → List V} (h : ∀ j, (c j).length ≤ 1) : ∀ i, ((List.range i).flatMap c).length ≤ i
  | 0 => by simp
  | i + 1 => by
    have := LcS.lens h i
    have := h i
    have e : [i].flatMap c = c i := by simp
    rw [List.range_succ, List.flatMap_append, List.length_append, e]
    omega
theorem LcS.yes {H1 H H4 : Hp} {D : Addr} {c : Nat → List V} {i : Nat} {y : V} (h : LcS H1 D c i H) (hD : H1 D = none) (s : Same H H4) (e : c i = [y]) (hi : i < sizeLine) :
    ∃ acc, H4 D = some (.lst acc) ∧ acc.length < sizeLine ∧ LcS H1 D c (i + 1) (upd H4 D (.lst (acc ++ [y]))) := by
  obtain ⟨a, b, g⟩ := h
  refine ⟨_, s _ _ b, Nat.lt_of_le_of_lt (LcS.lens g i) hi, (a.trans s).upd_new hD, ?_, g⟩
  rw [upd_same, List.range_succ, List.flatMap_append]
  simp [e]
theorem LcS.no {H1 H H3 : Hp} {D : Addr} {c : Nat → List V} {i : Nat} (h : LcS H1 D c i H) (s : Same H H3) (e : c i = []) : LcS H1 D c (i + 1) H3 := by
  obtain ⟨a, b, g⟩ := h
  refine ⟨a.trans s, ?_, g⟩
  rw [s _ _ b, List.range_succ, List.flatMap_append]
  simp [e]
theorem flat_one {α : Type} (f : Nat → α) : ∀ n, (List.range n).flatMap (fun i => [f i]) = (List.range n).map f
  | 0 => rfl
  | n + 1 => by rw [List.range_succ, List.flatMap_append, List.map_append, flat_one f n]; rfl
/-- the list that a filter leaves is empty -/
theorem flat_nil {α : Type} (p : Nat → Bool) (f : Nat → α) (n : Nat) : (((List.range n).flatMap fun i => if p i then [f i] else []).length = 0) ↔ (List.range n).all (fun i => !p i) = true := by
  rw [List.length_eq_zero_iff, List.flatMap_eq_nil_iff, List.all_eq_true]
  refine ⟨fun h i hi => ?_, fun h i hi => ?_⟩
  · have := h i hi
    cases q : p i
    · rfl
    · rw [q] at this; simp at this
  · have := h i hi
    cases q : p i
    · simp
    · rw [q] at this; simp at this
theorem all_ix {α : Type} (p : α → Bool) (l : List α) (d : α) : (List.range l.length).all (fun i => p (l.getD i d)) = l.all p := by
  rw [Bool.eq_iff_iff, List.all_eq_true, List.all_eq_true]
  refine ⟨fun h x hx => ?_, fun h i hi => ?_⟩
  · obtain ⟨i, hi, e⟩ := List.getElem_of_mem hx
    have := h i (List.mem_range.mpr hi)
    rw [List.getD_eq_getElem?_getD, List.getElem?_eq_getElem hi] at this
    rw [← e]; exact this
  · rw [List.getD_eq_getElem?_getD, List.getElem?_eq_getElem (List.mem_range.mp hi)]
    exact h _ (List.getElem_mem _)
end K16

set_option Elab.async false
set_option linter.all false
set_option maxRecDepth 100000
set_option maxHeartbeats 4000000
/-! k16: deep recursion. A room that counts one frame a level. -/
namespace K16
open PySem PySem.Spec PyProof.Rows L2
structure RoomD (k : Nat) (A : Around) : Prop where
  hd : A.handled = none
  dp : A.depth + k + 60 < recursionLimit
  un : A.units + 3 * k + 600 < cLine
theorem RoomD.mono {j k : Nat} {A : Around} (r : RoomD k A) (h : j ≤ k) : RoomD j A := ⟨r.hd, by have := r.dp; omega, by have := r.un; omega⟩
theorem RoomD.deeper {k : Nat} {A : Around} (r : RoomD (k + 1) A) (env : Env) : RoomD k (A.deeper env) :=
  ⟨r.hd, by have := r.dp; show A.depth + 1 + k + 60 < _; omega, by have := r.un; show A.units + 3 + 3 * k + 600 < _; omega⟩
theorem RoomD.room {k : Nat} {A : Around} (r : RoomD k A) : Room 12 A := ⟨r.hd, by have := r.dp; omega, by have := r.un; omega⟩
theorem RoomD.depth {k : Nat} {A : Around} (r : RoomD k A) : A.depth < recursionLimit := by have := r.dp; omega
theorem roomD_of {k j : Nat} {A : Around} (r : Room k A) (h : j + 55 ≤ 3 * k) (h2 : 3 * j + 400 ≤ 16 * k) : RoomD j A := ⟨r.hd, by have := r.dp; omega, by have := r.un; omega⟩
/-- what a def promises, one frame a level -/
structure FnD (P : Program) (w : World) (K : PySem.W.Frag) (mg : Str → Option Value) (base : Heap) (CX : CXT) (k : Nat) (f : Addr) (fd : FuncData) (ps : List Str) (sp : Sp) : Prop where
  len : ∀ vs H Q E, sp vs H Q E → vs.length = ps.length
  run : ∀ (A : Around) (outer : List Env) (s : Shared) (H : Hp) (args : Args) (us : List Value) (vs : List V) (Q : VK) (E : XK), RoomD k A → Env0 P w K mg base A outer s H → BindsTo s fd args (ps.zip us) → Vals vs us → sp vs H Q E →
    codeAny (model P w) A (.call (.ref f) args) (CR CX outer P w H s Q E) s
theorem fn_ofD {CX : CXT} {P : Program} {w : World} {K : PySem.W.Frag} {mg : Str → Option Value} {base : Heap} {k : Nat} {f : Addr} {name qual : Str} {params : Arguments} {body : List Stmt} {scope : Scope} {dV kV doc pm cdv ct oc : Value} {an od : Option Addr}
    {osl : Array (Option Value)} {N ps : List Str} {sp : Sp} (lk : K.lookup f = some ⟨oc, od, .func (PySem.W.fnOf name qual params body scope dV kV doc pm an cdv ct), osl⟩) (hcd : PySem.W.codeIn K cdv qual = true) (S : FnScope N ps scope)
    (len : ∀ vs H Q E, sp vs H Q E → vs.length = ps.length)
    (hbody : ∀ (A : Around) (outer : List Env) (s : Shared) (H : Hp) (vs : List V) (Q : VK) (E : XK), RoomD k (A.deeper (envOfC qual scope s.heap.objs.size f cdv)) → sp vs H Q E →
      ∃ t, PSs (cxOf CX P w K mg base N qual scope f cdv A outer s H E) body t ∧ t { nx := fun _ H' => Q .non H', rt := Q } (start N vs) H) :
    FnD P w K mg base CX (k + 1) f (PySem.W.fnOf name qual params body scope dV kV doc pm an cdv ct) ps sp := by
  refine ⟨len, fun A outer s H args us vs Q E hr e0 hb r hsp => ?_⟩
  have hl := len _ _ _ _ hsp
  have KX : K.In s.heap := e0.mod.kin.keeps fun b o e => (e0.bs b o e).1
  have lim : s.heap.NoLimit := e0.mod.nolimit.keeps fun b o e => (e0.bs b o e).1
  have hkind : ∀ y ∈ ps.zip us, scope.names.lookup y.1 = some .local ∨ (scope.names.lookup y.1 = some .cell ∧ ((cellsFrom (s.heap.objs.size + 1) scope.names []).lookup y.1).isSome = true) := fun ⟨n, v⟩ hy => by
    rcases S.par n (List.of_mem_zip hy).1 with q | q
    · exact .inl q
    · exact .inr ⟨q, PySem.W.cellsFrom_some _ _ _ (.inl q)⟩
  refine codeAny_call_function hr.depth (KX _ _ lk) rfl S.co S.gen rfl (PySem.W.codeRec_of KX hcd) (hb _ _ _ _ ?_)
  refine wpAny_newFunctionEnv_cells S.kind hkind fun env he s1 x => ?_
  subst he
  refine ⟨lim.keeps x.toInCall.keep, codeAny_func ?_⟩
  obtain ⟨t, ht, hq⟩ := hbody A outer s H vs Q E (hr.deeper _) hsp
  have I : Inv (cxOf CX P w K mg base N qual scope f cdv A outer s H E) [] (start N vs) H s1 := inv_start S hr.hd e0 hl r x
  refine wpAny_mono (ht.run [] s1 (start N vs) H _ I hq) (fun fl s' hs => ?_) fun e s' hs => hs
  have fin : ∀ {σ' : L2.St} {H' : Hp} {v : V} {u : Value}, Inv (cxOf CX P w K mg base N qual scope f cdv A outer s H E) [] σ' H' s' → RelV v u → Q v H' → CE outer P w H s Q u s' :=
    fun {σ' H' v u} J rv q => ⟨v, H', J.os, J.bare, J.base, J.hok, rv, q⟩
  cases fl with
  | ret u =>
    obtain ⟨v, σ', H', J, rv, q⟩ := hs
    exact fin J rv q
  | next =>
    obtain ⟨σ', H', J, q⟩ := hs
    exact fin (v := V.non) (u := Value.none) J rfl q
  | brk =>
    obtain ⟨_, _, _, q⟩ := hs
    exact False.elim q
  | cont =>
    obtain ⟨_, _, _, q⟩ := hs
    exact False.elim q
theorem _root_.L2.FunD.okD {P : Program} {w : World} {K : PySem.W.Frag} {mg : Str → Option Value} {base : Heap} {x qual : Str} {params : Arguments} {body : List Stmt} {scope : Scope} {dvs : List V} {kws : List (Str × V)} {f : Addr} {fd : FuncData} {CX : CXT} {N ps : List Str} {k : Nat} {sp : Sp}
    (F : FunD K x qual params body scope dvs kws f fd) (S : FnScope N ps scope) (len : ∀ vs H Q E, sp vs H Q E → vs.length = ps.length)
    (hbody : ∀ (cdv : Value) (A : Around) (outer : List Env) (s : Shared) (H : Hp) (vs : List V) (Q : VK) (E : XK), RoomD k (A.deeper (envOfC qual scope s.heap.objs.size f cdv)) → sp vs H Q E →
      ∃ t, PSs (cxOf CX P w K mg base N qual scope f cdv A outer s H E) body t ∧ t { nx := fun _ H' => Q .non H', rt := Q } (start N vs) H) : FnD P w K mg base CX (k + 1) f fd ps sp := by
  obtain ⟨oc, od, dV, kV, doc, pm, an, cdv, ct, osl, rfl, lk, hcd, _, _⟩ := F.ex
  exact fn_ofD lk hcd S len fun A outer s H vs Q E hr hsp => hbody cdv A outer s H vs Q E hr hsp
section
variable {X : Cx} {CX : CXT} {k : Nat} {f C : Addr} {fd : FuncData} {ps : List Str} {sp : Sp} {E : L2.St → XK} {x m : Str} {p pos apos : Pos} {e o : Expr} {es : List Expr} {ta : TE} {t : TA}
theorem run_fnD {pins : List (Addr × Obj)} {σ : L2.St} {H : Hp} {s : Shared} {Q : VK} {us : List Value} {vs : List V} (F : FnD X.prog X.w X.K X.mg X.base CX k f fd ps sp) (hr : RoomD k X.A) (hb : Binds X.K fd ps []) (hx : PassesAt CX X σ (E σ))
    (I : Inv X pins σ H s) (r : Vals vs us) (h : sp vs H Q (E σ)) : wpAny (model X.prog X.w) X.A (call (.ref f) us) (EP X pins σ Q) X.xe s := by
  have hl : us.length = ps.length := by rw [← r.length]; exact F.len _ _ _ _ h
  have b := hb s us I.kIn (by rw [List.append_nil]; exact hl)
  rw [List.append_nil] at b
  refine wpAny_call (codeAny_mono (F.run X.A X.stack s H ⟨us, []⟩ us vs Q (E σ) hr I.env0 b r h) fun r s' hq => ?_)
  cases r with
  | error e => exact hx pins H s e s' I hq
  | ok fl =>
    cases fl with
    | ret u => exact I.after hq
    | next => exact False.elim hq
    | brk => exact False.elim hq
    | cont => exact False.elim hq
theorem pe_callD (F : FnD X.prog X.w X.K X.mg X.base CX k f fd ps sp) (hr : RoomD k X.A) (hg : Gl X x) (hm : X.mg x = some (.ref f)) (hk : PySem.W.keepIn X.K (.ref f) = true) (hb : Binds X.K fd ps []) (hx : ∀ σ, PassesAt CX X σ (E σ))
    (ha : PA X (e :: es) t) (hdb : (x == ("__debug__" : Str)) = false := by decide) (he : starEach (e :: es) X.env = (false, eval e X.env) :: starEach es X.env := by rfl) (hpl : (backTo pos (starEach es X.env)).any (·.1) = false := by rfl) :
    PE X (.Call (.Name x p) (e :: es) [] pos) (tCallS sp E t) := by
  refine ⟨fun pins s σ H Q I h => ?_⟩
  refine wpAny_Call_Name_kw (ld_glob I hg hm ?_ hdb)
  refine PySem.W.callWith_K (h₀ := X.base) I.ok.mod.kin hk (thn (ha.run pos pins s σ H _ I h) fun us s1 ⟨vs, H1, I1, r, q⟩ => ⟨I1.kIn, ?_⟩) he hpl
  exact run_fnD F hr hb (hx σ) I1 r q
def tMethE (C : Addr) (m : Str) (sp : Sp) (E : L2.St → XK) (ta : TE) (t : TA) : TE := fun σ H Q => ta σ H fun x H1 => ∃ a dx fs, x = .ref a ∧ H1 a = some (.ins C dx fs) ∧ fs.lookup m = none ∧ t σ H1 fun vs H2 => sp (x :: vs) H2 Q (E σ)
theorem pe_methD {pl : Sem Bool} (he : PE X o ta) (c : Cls X.K C) (hm : Meth X.K C m f) (F : FnD X.prog X.w X.K X.mg X.base CX k f fd ps sp) (hr : RoomD k X.A) (hb : Binds X.K fd ps []) (hx : ∀ σ, PassesAt CX X σ (E σ)) (ha : PA X (e :: es) t)
    (hst : starEach (e :: es) X.env = (false, eval e X.env) :: starEach es X.env := by rfl) (hpl : (backTo pos (starEach es X.env)).any (·.1) = false := by rfl)
    (ht : eval (.Call (.Attribute o m apos) (e :: es) [] pos) X.env = (do
      let ov ← eval o X.env
      standAt apos.atName
      let (f, first) ← holding [ov] (getMethod ov m pl)
      callWith pos f first (backTo pos (starEach (e :: es) X.env)) (backToKw pos (keywordEach [] X.env))) := by rfl) :
    PE X (.Call (.Attribute o m apos) (e :: es) [] pos) (tMethE C m sp E ta t) := by
  refine ⟨fun pins s σ H Q I h => ?_⟩
  refine PySem.W.methodCall_KW (pl := pl) (thn (he.run pins s σ H _ I h) fun u s1 ⟨x, H1, I1, rx, a, dx, fs, ex, ea, l, q⟩ => ?_) ht
  subst ex
  obtain rfl : u = Value.ref a := rx
  refine getmeth_ok I1 ea c hm l ?_
  refine PySem.W.callWith_K (first := [.ref a]) (h₀ := X.base) I.ok.mod.kin hm.kp (thn (ha.run pos pins s1 σ H1 _ I1 q) fun us s2 ⟨vs, H2, I2, r, q2⟩ => ⟨I2.kIn, ?_⟩) hst hpl
  exact run_fnD (us := .ref a :: us) (vs := .ref a :: vs) F hr hb (hx σ) I2 (.cons rfl r) q2
/-- o.m() that may raise -/
theorem pe_methX0 {pl : Sem Bool} (he : PE X o ta) (c : Cls X.K C) (hm : Meth X.K C m f) (F : FnOk X.prog X.w X.K X.mg X.base CX k f fd ps sp) (hr : Room k X.A) (hb : Binds X.K fd ps []) (hx : ∀ σ, PassesAt CX X σ (E σ))
    (ht : eval (.Call (.Attribute o m apos) [] [] pos) X.env = (do
      let ov ← eval o X.env
      standAt apos.atName
      let (f, first) ← holding [ov] (getMethod ov m pl)
      callWith pos f first (backTo pos (starEach [] X.env)) (backToKw pos (keywordEach [] X.env))) := by rfl) :
    PE X (.Call (.Attribute o m apos) [] [] pos) (tMethE C m sp E ta tNil) := by
  refine ⟨fun pins s σ H Q I h => ?_⟩
  refine PySem.W.methodCall_KW (pl := pl) (thn (he.run pins s σ H _ I h) fun u s1 ⟨x, H1, I1, rx, a, dx, fs, ex, ea, l, q⟩ => ?_) ht
  subst ex
  obtain rfl : u = Value.ref a := rx
  refine getmeth_ok I1 ea c hm l ?_
  exact PySem.W.callWith_K0 (first := [.ref a]) I1.kIn hm.kp (run_fnS (us := [.ref a]) (vs := [.ref a]) F hr hb (hx σ) I1 (.cons rfl .nil) q)
theorem pass0S {X : Cx} {E : L2.St → XK} : ∀ σ, PassesAt CX0 X σ (E σ) := fun _ _ _ _ _ _ _ h => h.elim
end
theorem at_v {xs : List V} {j : Int} {n : Nat} {v : V} (e : xs[n]? = some v) (h : j = (n : Nat)) : atI xs j = some v := by rw [h]; exact atI_nat e
end K16

set_option Elab.async false
set_option linter.all false
set_option maxRecDepth 100000
set_option maxHeartbeats 4000000
namespace K16
open PySem PySem.Spec PyProof.Rows L2
/-- the pool at pl: the script's numbers, three counters and the salt -/
def PoolC (pl sc : Addr) (xs : List Int) (i : Nat) (q n s : Int) (H : Hp) : Prop := H pl = some (.lst [.ref sc, .int i, .int q, .int n, .int s]) ∧ sc ≠ pl ∧ H sc = some (.lst (xs.map V.int)) ∧ xs.length ≤ 1000
def Pool (pl sc : Addr) (H : Hp) : Prop := ∃ xs i q n s, PoolC pl sc xs i q n s H
theorem Pool.same {pl sc : Addr} {H H' : Hp} (h : Pool pl sc H) (s : Same H H') : Pool pl sc H' := by
  obtain ⟨xs, i, q, n, t, h1, h2, h3, h4⟩ := h
  exact ⟨xs, i, q, n, t, s _ _ h1, h2, s _ _ h3, h4⟩
theorem cutV_mem {xs : List V} {lo hi : Option Int} {x : V} (h : x ∈ cutV xs lo hi) : x ∈ xs := List.mem_of_mem_drop (List.mem_of_mem_take h)
theorem int_of {ns : List Int} {x : V} (h : x ∈ ns.map V.int) : ∃ i, x = .int i := by
  obtain ⟨i, _, e⟩ := List.mem_map.mp h
  exact ⟨i, e.symm⟩
def spPool (K : PySem.W.Frag) : Sp := fun vs H Q _ => ∃ (a : Addr) (ns : List Int), vs = [.ref a] ∧ SqL K H a (ns.map V.int) ∧ ns.length ≤ 1000 ∧ ∀ H' p sc, Same H H' → H p = none → Pool p sc H' → Q (.ref p) H'
def spSpread : Sp := fun vs H Q _ => ∃ i : Int, vs = [.int i] ∧ ∀ j : Int, Q (.int j) H
def spDraw : Sp := fun vs H Q _ => ∃ (pl sc : Addr) (m : Nat), vs = [.ref pl, .int (m : Nat)] ∧ Pool pl sc H ∧ 0 < m ∧ m < 1000000 ∧ ∀ H' (r : Nat), But pl H H' → Pool pl sc H' → r < m → Q (.int (r : Nat)) H'
section
variable {P : Program} {w : World} {K : PySem.W.Frag} {mg : Str → Option Value} {base : Heap} (T : Txt K mg)
include T
theorem ok_pool : FnOk P w K mg base CX0 1 (He.ga K "_law_pool") T.d__law_pool ["script"] (spPool K) := by
  refine T.F__law_pool.ok sc_law_pool (fun vs H Q E h => ?_) (fun cdv A outer s H vs Q E hr h => ?_)
  · obtain ⟨a, ns, rfl, _⟩ := h; rfl
  · obtain ⟨a, ns, rfl, ha, hl, q⟩ := h
    refine ⟨_, PSs.nox (pss_cons (ps_set (i := 1) sc_law_pool.nd rfl (.inl rfl) pe_int)
    (pss_cons (ps_for PassesOwn.never rfl (pi_list (pe_slice sl_list (pv 0) po_none (po_some pe_int))) (pg_name (i := 2) sc_law_pool.nd rfl (.inl rfl))
    (pss_one (ps_set (i := 1) sc_law_pool.nd rfl (.inl rfl) (pe_op op_modN (pe_callTy call_int1 (by rfl) T.int (by decide +kernel) (pa_cons (pe_op op_add (pe_op op_mul (pv 1) pe_int) (pv 2)) pa_nil)) pe_int))))
    (pss_one (ps_ret (pe_lst (pa_cons (pe_callTy (r := rListOf K) call_list_of (by rfl) T.list (by decide +kernel) (pa_cons (pv 0) pa_nil)) (pa_cons pe_int (pa_cons pe_int (pa_cons pe_int (pa_cons (pv 1) pa_nil)))))))))), ?_⟩
    dsimp only [tNoPart]
    refine ⟨_, rfl, 63, rfl, a, _, rfl, ha, fun b hb => ?_⟩
    have s1 : Same H (upd H b (.lst (cutV (ns.map V.int) none (some 63)))) := Same.one hb
    have hx : ∀ x ∈ cutV (ns.map V.int) none (some 63), ∃ i, x = .int i := fun x h => int_of (cutV_mem h)
    have hb1 : SqL K (upd H b (.lst (cutV (ns.map V.int) none (some 63)))) b (cutV (ns.map V.int) none (some 63)) := sql_new upd_same
    revert s1 hb1 hx
    generalize cutV (ns.map V.int) none (some 63) = ys
    generalize upd H b (.lst ys) = H1
    intro s1 hx hb1
    refine ⟨b, rfl, ⟨_, hb1⟩, ?_⟩
    refine for_list (xs := ys) (fun i σ H' => H' = H1 ∧ ∃ (t : Int) (c : Option V), σ = [some (.ref a), some (.int t), c]) ⟨rfl, 7, none, rfl⟩ (fun i σ H' _ h => h.1 ▸ hb1) (fun i x σ H' hi h => ?_) (fun σ H' h => ?_)
    · obtain ⟨rfl, t, c, rfl⟩ := h
      obtain ⟨z, rfl⟩ := hx x (List.mem_of_getElem? hi)
      exact ⟨_, rfl, _, _, rfl, rfl, .inr ⟨by decide, by decide⟩, _, rfl, _, _, rfl, rfl, .inl ⟨_, rfl, _, _, rfl, rfl, (by show (1000003 : Int) ≠ 0; decide), rfl, _, _, rfl⟩⟩
    · obtain ⟨rfl, t, c, rfl⟩ := h
      refine ⟨_, rfl, a, _, rfl, .inl (s1.seq ha), fun l hl' => ⟨_, rfl, (by show 5 ≤ sizeLine; decide), fun p hp => ?_⟩⟩
      have hlp : l ≠ p := fun e => by rw [e, upd_same] at hp; cases hp
      have hpH : H' p = none := by
        have := hp; rw [upd_ne (fun e => hlp e.symm)] at this; exact this
      refine q _ p l ((s1.upd_new (s1.free hl')).upd_new (s1.free hpH)) (s1.free hpH) ⟨ns, 0, 0, 0, t, upd_same, hlp, ?_, hl⟩
      rw [upd_ne hlp, upd_same]
theorem ok_spread : FnOk P w K mg base CX0 1 (He.ga K "_law_spread") T.d__law_spread ["cell"] spSpread := by
  refine T.F__law_spread.ok sc_law_spread (fun vs H Q E h => ?_) (fun cdv A outer s H vs Q E hr h => ?_)
  · obtain ⟨a, rfl, _⟩ := h; rfl
  · obtain ⟨i, rfl, q⟩ := h
    refine ⟨_, PSs.nox (pss_cons (ps_set (i := 1) sc_law_spread.nd rfl (.inl rfl) (pe_op op_modN (pe_callTy call_int1 (by rfl) T.int (by decide +kernel) (pa_cons (pv 0) pa_nil)) pe_int))
    (pss_cons (ps_set (i := 2) sc_law_spread.nd rfl (.inl rfl) pe_int)
    (pss_cons (ps_for PassesOwn.never rfl (pi_range1 (by rfl) T.range (pa_cons pe_int pa_nil)) (pg_name (i := 3) sc_law_spread.nd rfl (.inl rfl))
    (pss_cons (ps_set (i := 1) sc_law_spread.nd rfl (.inl rfl) (pe_op op_modN (pe_callTy call_int1 (by rfl) T.int (by decide +kernel) (pa_cons (pe_op op_add (pe_op op_add (pe_op op_mul (pv 1) pe_int) pe_int) (pv 3)) pa_nil)) pe_int))
    (pss_one (ps_set (i := 2) sc_law_spread.nd rfl (.inl rfl) (pe_op op_add (pe_op op_mul (pv 2) pe_int) (pv 1))))))
    (pss_one (ps_ret (pv 2)))))), ?_⟩
    refine ⟨_, rfl, .inl ⟨_, rfl, _, _, rfl, rfl, (by show (2147483647 : Int) ≠ 0; decide), ?_⟩⟩
    refine ⟨4, rfl, by decide, by decide, ?_⟩
    refine for_range (lo := 0) (n := 4) (fun _ σ H' => H' = H ∧ ∃ (x y : Int) (c : Option V), σ = [some (.int i), some (.int x), some (.int y), c]) ⟨rfl, _, _, none, rfl⟩ (fun j σ H' hj h => ?_) (fun σ H' h => ?_)
    · obtain ⟨rfl, x, y, c, rfl⟩ := h
      exact ⟨_, rfl, _, _, rfl, rfl, .inr ⟨by decide, by decide⟩, _, _, rfl, rfl, _, rfl, _, _, rfl, rfl, .inl ⟨_, rfl, _, _, rfl, rfl, (by show (2147483647 : Int) ≠ 0; decide), _, rfl, _, _, rfl, rfl, .inr ⟨by decide, by decide⟩, _, rfl, _, _, rfl, rfl, rfl, _, _, _, rfl⟩⟩
    · obtain ⟨rfl, x, y, c, rfl⟩ := h
      exact ⟨_, rfl, q y⟩
theorem ok_draw : FnOk P w K mg base CX0 2 (He.ga K "_law_draw") T.d__law_draw ["pool", "many"] spDraw := by
  have G__law_spread := ok_spread (P := P) (w := w) (base := base) T
  refine T.F__law_draw.ok sc_law_draw (fun vs H Q E h => ?_) (fun cdv A outer s H vs Q E hr h => ?_)
  · obtain ⟨a, sc, m, rfl, _⟩ := h; rfl
  · obtain ⟨pl, sc, m, rfl, ⟨xs, i, q0, n, t, hp, hne, hs, hxl⟩, hm, hm2, q⟩ := h
    refine ⟨_, PSs.nox (pss_cons (ps_if (PW.pt (pw_and (pt_cmpR op_le (pe_ix (r := rIxL K) ix_list (pv 0) pe_int (fun _ _ => rfl)) pe_int (nomark _)) (pw_and1 (pt_cmpR op_lt (pe_ix (r := rIxL K) ix_list (pv 0) pe_int (fun _ _ => rfl)) (pe_callB (r := rLenS K) call_len_seq (by rfl) T.len (by decide +kernel) (pa_cons (pe_ix (r := rIxL K) ix_list (pv 0) pe_int (fun _ _ => rfl)) pa_nil)) (nomark _)))))
    (pss_cons (ps_set (i := 2) sc_law_draw.nd rfl (.inl rfl) (pe_ix (r := rIxL K) ix_list (pe_ix (r := rIxL K) ix_list (pv 0) pe_int (fun _ _ => rfl)) (pe_ix (r := rIxL K) ix_list (pv 0) pe_int (fun _ _ => rfl)) (fun _ _ => rfl)))
    (pss_cons (ps_asg (pe_op op_add (pe_ix (r := rIxL K) ix_list (pv 0) pe_int (fun _ _ => rfl)) pe_int) (pg_sub (pv 0) pe_int set_list))
    (pss_cons (ps_asg (pv 2) (pg_sub (pv 0) pe_int set_list))
    (pss_one (ps_if (pt_cmpR op_lt (pv 2) pe_int (nomark _))
    (pss_one (ps_asg (pe_call G__law_spread (hr.mono (by omega)) (by rfl) T.g__law_spread T.F__law_spread.kp T.b__law_spread .nil pass0 (pa_cons (pv 2) pa_nil)) (pg_sub (pv 0) pe_int set_list)))
    pss_nil)))))
    pss_nil)
    (pss_cons (ps_asg (pe_op op_add (pe_ix (r := rIxL K) ix_list (pv 0) pe_int (fun _ _ => rfl)) pe_int) (pg_sub (pv 0) pe_int set_list))
    (pss_cons (ps_if (pt_cmpR op_le (pe_ix (r := rIxL K) ix_list (pv 0) pe_int (fun _ _ => rfl)) pe_int (nomark _))
    (pss_cons (ps_set (i := 3) sc_law_draw.nd rfl (.inl rfl) (pe_op op_modN (pe_callTy call_int1 (by rfl) T.int (by decide +kernel) (pa_cons (pe_op op_add (pe_op op_add (pe_op op_mul (pe_ix (r := rIxL K) ix_list (pv 0) pe_int (fun _ _ => rfl)) pe_int) (pe_op op_mul (pe_ix (r := rIxL K) ix_list (pv 0) pe_int (fun _ _ => rfl)) pe_int)) pe_int) pa_nil)) pe_int))
    (pss_cons (ps_set (i := 3) sc_law_draw.nd rfl (.inl rfl) (pe_op op_modN (pe_callTy call_int1 (by rfl) T.int (by decide +kernel) (pa_cons (pe_op op_add (pe_op op_mul (pv 3) pe_int) (pe_ix (r := rIxL K) ix_list (pv 0) pe_int (fun _ _ => rfl))) pa_nil)) pe_int))
    (pss_one (ps_ret (pe_op op_modN (pe_op op_fdivN (pv 3) pe_int) (pv 1))))))
    pss_nil)
    (pss_cons (ps_set (i := 4) sc_law_draw.nd rfl (.inl rfl) (pe_op op_modN (pe_callTy call_int1 (by rfl) T.int (by decide +kernel) (pa_cons (pe_ix (r := rIxL K) ix_list (pv 0) pe_int (fun _ _ => rfl)) pa_nil)) (pv 1)))
    (pss_cons (ps_asg (pe_op op_fdivN (pe_ix (r := rIxL K) ix_list (pv 0) pe_int (fun _ _ => rfl)) (pv 1)) (pg_sub (pv 0) pe_int set_list))
    (pss_one (ps_ret (pv 4)))))))), ?_⟩
    refine ⟨_, rfl, pl, _, _, _, rfl, rfl, sql_new hp, at_v (n := 2) rfl rfl, _, _, rfl, rfl, _, rfl, ?_⟩
    have fin : ∀ (H1 : Hp) (i : Nat) (q1 n : Int) (r : Nat), But pl H H1 → PoolC pl sc xs i q1 n t H1 → r < m → Q (.int (r : Nat)) H1 := fun H1 i q1 n r b p hr => q H1 r b ⟨xs, i, q1, n, t, p⟩ hr
    have fin2 : ∀ (H1 : Hp) (i : Nat) (q1 n z : Int), But pl H H1 → PoolC pl sc xs i q1 n t H1 → Q (.int (z.fmod (m : Nat))) H1 := fun H1 i q1 n z b p => by
      have h0 : (0 : Int) ≤ z.fmod (m : Nat) := Int.fmod_nonneg_of_pos z (by omega)
      have h1 : z.fmod (m : Nat) < (m : Nat) := Int.fmod_lt_of_pos z (by omega)
      have e : z.fmod (m : Nat) = ((z.fmod (m : Nat)).toNat : Nat) := by omega
      rw [e]
      exact fin H1 i q1 n _ b p (by omega)
    refine ite2 (fun h1 => ?_) (fun h1 => ?_)
    · refine ⟨_, rfl, pl, _, _, _, rfl, rfl, sql_new hp, at_v (n := 1) rfl rfl, _, rfl, pl, _, _, _, rfl, rfl, sql_new hp, at_v (n := 0) rfl rfl, sc, _, rfl, .inl (sql_new hs), _, _, rfl, rfl, _, rfl, ?_⟩
      refine ite2 (fun h2 => ?_) (fun h2 => ?_)
      · have hi : i < xs.length := by have := of_decide_eq_true h2; rw [List.length_map] at this; omega
        have hz : (xs.map V.int)[i]? = some (.int xs[i]) := by rw [List.getElem?_map, List.getElem?_eq_getElem hi]; rfl
        refine ⟨_, rfl, pl, _, _, _, rfl, rfl, sql_new hp, at_v (n := 0) rfl rfl, _, rfl, pl, _, _, _, rfl, rfl, sql_new hp, at_v (n := 1) rfl rfl, sc, _, _, _, rfl, rfl, sql_new hs, at_v hz rfl, ?_⟩
        refine ⟨_, rfl, pl, _, _, _, rfl, rfl, sql_new hp, at_v (n := 1) rfl rfl, _, _, rfl, rfl, _, rfl, pl, _, _, 1, rfl, rfl, hp, rfl, ?_⟩
        refine ⟨_, rfl, _, rfl, pl, _, _, 2, rfl, rfl, upd_same, rfl, ?_⟩
        have p2 : PoolC pl sc xs (i + 1) xs[i] n t (upd (upd H pl (.lst [.ref sc, .int ((i : Int) + 1), .int q0, .int n, .int t])) pl (.lst [.ref sc, .int ((i : Int) + 1), .int xs[i], .int n, .int t])) :=
          ⟨upd_same, hne, by rw [upd_ne hne, upd_ne hne]; exact hs, hxl⟩
        have b2 : But pl H (upd (upd H pl (.lst [.ref sc, .int ((i : Int) + 1), .int q0, .int n, .int t])) pl (.lst [.ref sc, .int ((i : Int) + 1), .int xs[i], .int n, .int t])) := But.set.trans But.set
        refine ⟨_, rfl, _, _, rfl, rfl, _, rfl, ?_⟩
        refine ite2 (fun h3 => ?_) (fun h3 => ?_)
        · refine ⟨_, rfl, _, rfl, fun j => ⟨_, rfl, pl, _, _, 2, rfl, rfl, upd_same, rfl, ?_⟩⟩
          have p3 : PoolC pl sc xs (i + 1) j n t (upd (upd (upd H pl (.lst [.ref sc, .int ((i : Int) + 1), .int q0, .int n, .int t])) pl (.lst [.ref sc, .int ((i : Int) + 1), .int xs[i], .int n, .int t])) pl (.lst [.ref sc, .int ((i : Int) + 1), .int j, .int n, .int t])) :=
            ⟨upd_same, hne, by rw [upd_ne hne, upd_ne hne, upd_ne hne]; exact hs, hxl⟩
          have b3 := b2.trans (But.set (o := .lst [.ref sc, .int ((i : Int) + 1), .int j, .int n, .int t]))
          have pc : PoolC pl sc xs (i + 1) j n t _ := p3
          have bt : But pl H _ := b3
          obtain ⟨hp1, _, hs1, _⟩ := id pc
          refine ⟨_, rfl, pl, _, _, _, rfl, rfl, sql_new hp1, at_v (n := 3) rfl rfl, _, _, rfl, rfl, _, rfl, pl, _, _, 3, rfl, rfl, hp1, rfl, ?_⟩
          have hp2 : (upd (upd (upd (upd H pl (.lst [.ref sc, .int ((i : Int) + 1), .int q0, .int n, .int t])) pl (.lst [.ref sc, .int ((i : Int) + 1), .int xs[i], .int n, .int t])) pl (.lst [.ref sc, .int ((i : Int) + 1), .int j, .int n, .int t])) pl (.lst [.ref sc, .int (((i + 1) : Nat) : Int), .int j, .int (n + 1), .int t])) pl = some (.lst [.ref sc, .int (((i + 1) : Nat) : Int), .int j, .int (n + 1), .int t]) := upd_same
          have pc2 : PoolC pl sc xs (i + 1) j (n + 1) t (upd (upd (upd (upd H pl (.lst [.ref sc, .int ((i : Int) + 1), .int q0, .int n, .int t])) pl (.lst [.ref sc, .int ((i : Int) + 1), .int xs[i], .int n, .int t])) pl (.lst [.ref sc, .int ((i : Int) + 1), .int j, .int n, .int t])) pl (.lst [.ref sc, .int (((i + 1) : Nat) : Int), .int j, .int (n + 1), .int t])) := ⟨upd_same, hne, by rw [upd_ne hne]; exact hs1, hxl⟩
          have bt2 : But pl H (upd (upd (upd (upd H pl (.lst [.ref sc, .int ((i : Int) + 1), .int q0, .int n, .int t])) pl (.lst [.ref sc, .int ((i : Int) + 1), .int xs[i], .int n, .int t])) pl (.lst [.ref sc, .int ((i : Int) + 1), .int j, .int n, .int t])) pl (.lst [.ref sc, .int (((i + 1) : Nat) : Int), .int j, .int (n + 1), .int t])) := bt.trans But.set
          refine ⟨_, rfl, pl, _, _, _, rfl, rfl, sql_new hp2, at_v (n := 2) rfl rfl, _, _, rfl, rfl, _, rfl, ?_⟩
          refine ite2 (fun h5 => ?_) (fun h5 => ?_)
          · refine ⟨_, rfl, pl, _, _, _, rfl, rfl, sql_new hp2, at_v (n := 4) rfl rfl, _, _, rfl, rfl, .inr ⟨by decide, by decide⟩, _, rfl, pl, _, _, _, rfl, rfl, sql_new hp2, at_v (n := 3) rfl rfl, _, _, rfl, rfl, .inr ⟨by decide, by decide⟩, _, _, rfl, rfl, _, _, rfl, rfl, .inl ⟨_, rfl, _, _, rfl, rfl, (by show (2147483647 : Int) ≠ 0; decide), ?_⟩⟩
            refine ⟨_, rfl, _, _, rfl, rfl, .inr ⟨by decide, by decide⟩, _, rfl, pl, _, _, _, rfl, rfl, sql_new hp2, at_v (n := 3) rfl rfl, _, _, rfl, rfl, .inl ⟨_, rfl, _, _, rfl, rfl, (by show (2147483629 : Int) ≠ 0; decide), ?_⟩⟩
            refine ⟨_, rfl, _, _, rfl, rfl, ⟨by decide, by decide⟩, _, rfl, _, _, rfl, rfl, (by show ((m : Nat) : Int) ≠ 0; omega), ?_⟩
            exact fin2 _ _ _ _ _ bt2 pc2
          · refine ⟨_, rfl, pl, _, _, _, rfl, rfl, sql_new hp2, at_v (n := 2) rfl rfl, .inl ⟨_, rfl, _, rfl, _, _, rfl, rfl, (by show ((m : Nat) : Int) ≠ 0; omega), ?_⟩⟩
            refine ⟨_, rfl, pl, _, _, _, rfl, rfl, sql_new hp2, at_v (n := 2) rfl rfl, _, rfl, _, _, rfl, rfl, ⟨by omega, by omega⟩, _, rfl, pl, _, _, 2, rfl, rfl, hp2, rfl, ?_⟩
            exact ⟨_, rfl, fin2 _ (i + 1) (j.fdiv (m : Nat)) (n + 1) j (bt2.trans But.set) ⟨upd_same, hne, by rw [upd_ne hne, upd_ne hne]; exact hs1, hxl⟩⟩
        · have pc : PoolC pl sc xs (i + 1) xs[i] n t _ := p2
          have bt : But pl H _ := b2
          obtain ⟨hp1, _, hs1, _⟩ := id pc
          refine ⟨_, rfl, pl, _, _, _, rfl, rfl, sql_new hp1, at_v (n := 3) rfl rfl, _, _, rfl, rfl, _, rfl, pl, _, _, 3, rfl, rfl, hp1, rfl, ?_⟩
          have hp2 : (upd (upd (upd H pl (.lst [.ref sc, .int ((i : Int) + 1), .int q0, .int n, .int t])) pl (.lst [.ref sc, .int ((i : Int) + 1), .int xs[i], .int n, .int t])) pl (.lst [.ref sc, .int (((i + 1) : Nat) : Int), .int (xs[i]), .int (n + 1), .int t])) pl = some (.lst [.ref sc, .int (((i + 1) : Nat) : Int), .int (xs[i]), .int (n + 1), .int t]) := upd_same
          have pc2 : PoolC pl sc xs (i + 1) (xs[i]) (n + 1) t (upd (upd (upd H pl (.lst [.ref sc, .int ((i : Int) + 1), .int q0, .int n, .int t])) pl (.lst [.ref sc, .int ((i : Int) + 1), .int xs[i], .int n, .int t])) pl (.lst [.ref sc, .int (((i + 1) : Nat) : Int), .int (xs[i]), .int (n + 1), .int t])) := ⟨upd_same, hne, by rw [upd_ne hne]; exact hs1, hxl⟩
          have bt2 : But pl H (upd (upd (upd H pl (.lst [.ref sc, .int ((i : Int) + 1), .int q0, .int n, .int t])) pl (.lst [.ref sc, .int ((i : Int) + 1), .int xs[i], .int n, .int t])) pl (.lst [.ref sc, .int (((i + 1) : Nat) : Int), .int (xs[i]), .int (n + 1), .int t])) := bt.trans But.set
          refine ⟨_, rfl, pl, _, _, _, rfl, rfl, sql_new hp2, at_v (n := 2) rfl rfl, _, _, rfl, rfl, _, rfl, ?_⟩
          refine ite2 (fun h5 => ?_) (fun h5 => ?_)
          · refine ⟨_, rfl, pl, _, _, _, rfl, rfl, sql_new hp2, at_v (n := 4) rfl rfl, _, _, rfl, rfl, .inr ⟨by decide, by decide⟩, _, rfl, pl, _, _, _, rfl, rfl, sql_new hp2, at_v (n := 3) rfl rfl, _, _, rfl, rfl, .inr ⟨by decide, by decide⟩, _, _, rfl, rfl, _, _, rfl, rfl, .inl ⟨_, rfl, _, _, rfl, rfl, (by show (2147483647 : Int) ≠ 0; decide), ?_⟩⟩
            refine ⟨_, rfl, _, _, rfl, rfl, .inr ⟨by decide, by decide⟩, _, rfl, pl, _, _, _, rfl, rfl, sql_new hp2, at_v (n := 3) rfl rfl, _, _, rfl, rfl, .inl ⟨_, rfl, _, _, rfl, rfl, (by show (2147483629 : Int) ≠ 0; decide), ?_⟩⟩
            refine ⟨_, rfl, _, _, rfl, rfl, ⟨by decide, by decide⟩, _, rfl, _, _, rfl, rfl, (by show ((m : Nat) : Int) ≠ 0; omega), ?_⟩
            exact fin2 _ _ _ _ _ bt2 pc2
          · refine ⟨_, rfl, pl, _, _, _, rfl, rfl, sql_new hp2, at_v (n := 2) rfl rfl, .inl ⟨_, rfl, _, rfl, _, _, rfl, rfl, (by show ((m : Nat) : Int) ≠ 0; omega), ?_⟩⟩
            refine ⟨_, rfl, pl, _, _, _, rfl, rfl, sql_new hp2, at_v (n := 2) rfl rfl, _, rfl, _, _, rfl, rfl, ⟨by omega, by omega⟩, _, rfl, pl, _, _, 2, rfl, rfl, hp2, rfl, ?_⟩
            exact ⟨_, rfl, fin2 _ (i + 1) ((xs[i]).fdiv (m : Nat)) (n + 1) (xs[i]) (bt2.trans But.set) ⟨upd_same, hne, by rw [upd_ne hne, upd_ne hne]; exact hs1, hxl⟩⟩
      · have pc : PoolC pl sc xs i q0 n t _ := ⟨hp, hne, hs, hxl⟩
        have bt : But pl H _ := But.refl pl H
        obtain ⟨hp1, _, hs1, _⟩ := id pc
        refine ⟨_, rfl, pl, _, _, _, rfl, rfl, sql_new hp1, at_v (n := 3) rfl rfl, _, _, rfl, rfl, _, rfl, pl, _, _, 3, rfl, rfl, hp1, rfl, ?_⟩
        have hp2 : (upd H pl (.lst [.ref sc, .int ((i : Nat) : Int), .int q0, .int (n + 1), .int t])) pl = some (.lst [.ref sc, .int ((i : Nat) : Int), .int q0, .int (n + 1), .int t]) := upd_same
        have pc2 : PoolC pl sc xs i q0 (n + 1) t (upd H pl (.lst [.ref sc, .int ((i : Nat) : Int), .int q0, .int (n + 1), .int t])) := ⟨upd_same, hne, by rw [upd_ne hne]; exact hs1, hxl⟩
        have bt2 : But pl H (upd H pl (.lst [.ref sc, .int ((i : Nat) : Int), .int q0, .int (n + 1), .int t])) := bt.trans But.set
        refine ⟨_, rfl, pl, _, _, _, rfl, rfl, sql_new hp2, at_v (n := 2) rfl rfl, _, _, rfl, rfl, _, rfl, ?_⟩
        refine ite2 (fun h5 => ?_) (fun h5 => ?_)
        · refine ⟨_, rfl, pl, _, _, _, rfl, rfl, sql_new hp2, at_v (n := 4) rfl rfl, _, _, rfl, rfl, .inr ⟨by decide, by decide⟩, _, rfl, pl, _, _, _, rfl, rfl, sql_new hp2, at_v (n := 3) rfl rfl, _, _, rfl, rfl, .inr ⟨by decide, by decide⟩, _, _, rfl, rfl, _, _, rfl, rfl, .inl ⟨_, rfl, _, _, rfl, rfl, (by show (2147483647 : Int) ≠ 0; decide), ?_⟩⟩
          refine ⟨_, rfl, _, _, rfl, rfl, .inr ⟨by decide, by decide⟩, _, rfl, pl, _, _, _, rfl, rfl, sql_new hp2, at_v (n := 3) rfl rfl, _, _, rfl, rfl, .inl ⟨_, rfl, _, _, rfl, rfl, (by show (2147483629 : Int) ≠ 0; decide), ?_⟩⟩
          refine ⟨_, rfl, _, _, rfl, rfl, ⟨by decide, by decide⟩, _, rfl, _, _, rfl, rfl, (by show ((m : Nat) : Int) ≠ 0; omega), ?_⟩
          exact fin2 _ _ _ _ _ bt2 pc2
        · refine ⟨_, rfl, pl, _, _, _, rfl, rfl, sql_new hp2, at_v (n := 2) rfl rfl, .inl ⟨_, rfl, _, rfl, _, _, rfl, rfl, (by show ((m : Nat) : Int) ≠ 0; omega), ?_⟩⟩
          refine ⟨_, rfl, pl, _, _, _, rfl, rfl, sql_new hp2, at_v (n := 2) rfl rfl, _, rfl, _, _, rfl, rfl, ⟨by omega, by omega⟩, _, rfl, pl, _, _, 2, rfl, rfl, hp2, rfl, ?_⟩
          exact ⟨_, rfl, fin2 _ i (q0.fdiv (m : Nat)) (n + 1) q0 (bt2.trans But.set) ⟨upd_same, hne, by rw [upd_ne hne, upd_ne hne]; exact hs1, hxl⟩⟩
    · have pc : PoolC pl sc xs i q0 n t _ := ⟨hp, hne, hs, hxl⟩
      have bt : But pl H _ := But.refl pl H
      obtain ⟨hp1, _, hs1, _⟩ := id pc
      refine ⟨_, rfl, pl, _, _, _, rfl, rfl, sql_new hp1, at_v (n := 3) rfl rfl, _, _, rfl, rfl, _, rfl, pl, _, _, 3, rfl, rfl, hp1, rfl, ?_⟩
      have hp2 : (upd H pl (.lst [.ref sc, .int ((i : Nat) : Int), .int q0, .int (n + 1), .int t])) pl = some (.lst [.ref sc, .int ((i : Nat) : Int), .int q0, .int (n + 1), .int t]) := upd_same
      have pc2 : PoolC pl sc xs i q0 (n + 1) t (upd H pl (.lst [.ref sc, .int ((i : Nat) : Int), .int q0, .int (n + 1), .int t])) := ⟨upd_same, hne, by rw [upd_ne hne]; exact hs1, hxl⟩
      have bt2 : But pl H (upd H pl (.lst [.ref sc, .int ((i : Nat) : Int), .int q0, .int (n + 1), .int t])) := bt.trans But.set
      refine ⟨_, rfl, pl, _, _, _, rfl, rfl, sql_new hp2, at_v (n := 2) rfl rfl, _, _, rfl, rfl, _, rfl, ?_⟩
      refine ite2 (fun h5 => ?_) (fun h5 => ?_)
      · refine ⟨_, rfl, pl, _, _, _, rfl, rfl, sql_new hp2, at_v (n := 4) rfl rfl, _, _, rfl, rfl, .inr ⟨by decide, by decide⟩, _, rfl, pl, _, _, _, rfl, rfl, sql_new hp2, at_v (n := 3) rfl rfl, _, _, rfl, rfl, .inr ⟨by decide, by decide⟩, _, _, rfl, rfl, _, _, rfl, rfl, .inl ⟨_, rfl, _, _, rfl, rfl, (by show (2147483647 : Int) ≠ 0; decide), ?_⟩⟩
        refine ⟨_, rfl, _, _, rfl, rfl, .inr ⟨by decide, by decide⟩, _, rfl, pl, _, _, _, rfl, rfl, sql_new hp2, at_v (n := 3) rfl rfl, _, _, rfl, rfl, .inl ⟨_, rfl, _, _, rfl, rfl, (by show (2147483629 : Int) ≠ 0; decide), ?_⟩⟩
        refine ⟨_, rfl, _, _, rfl, rfl, ⟨by decide, by decide⟩, _, rfl, _, _, rfl, rfl, (by show ((m : Nat) : Int) ≠ 0; omega), ?_⟩
        exact fin2 _ _ _ _ _ bt2 pc2
      · refine ⟨_, rfl, pl, _, _, _, rfl, rfl, sql_new hp2, at_v (n := 2) rfl rfl, .inl ⟨_, rfl, _, rfl, _, _, rfl, rfl, (by show ((m : Nat) : Int) ≠ 0; omega), ?_⟩⟩
        refine ⟨_, rfl, pl, _, _, _, rfl, rfl, sql_new hp2, at_v (n := 2) rfl rfl, _, rfl, _, _, rfl, rfl, ⟨by omega, by omega⟩, _, rfl, pl, _, _, 2, rfl, rfl, hp2, rfl, ?_⟩
        exact ⟨_, rfl, fin2 _ i (q0.fdiv (m : Nat)) (n + 1) q0 (bt2.trans But.set) ⟨upd_same, hne, by rw [upd_ne hne, upd_ne hne]; exact hs1, hxl⟩⟩
end
end K16

set_option Elab.async false
set_option linter.all false
set_option maxRecDepth 100000
set_option maxHeartbeats 4000000
namespace K16
open PySem PySem.Spec PyProof.Rows L2
abbrev WORDs : Str := "abcdefghijklmnopqrstuvwxyz0123456789"
abbrev DIGs : Str := "0123456789"
def isW (c : Nat) : Bool := decide (c ∈ WORDs.cps.toList)
def isD (c : Nat) : Bool := decide (c ∈ DIGs.cps.toList)
theorem dig_list : DIGs.cps.toList = [48, 49, 50, 51, 52, 53, 54, 55, 56, 57] := by decide +kernel
theorem word_list : WORDs.cps.toList = [97, 98, 99, 100, 101, 102, 103, 104, 105, 106, 107, 108, 109, 110, 111, 112, 113, 114, 115, 116, 117, 118, 119, 120, 121, 122, 48, 49, 50, 51, 52, 53, 54, 55, 56, 57] := by decide +kernel
theorem isD_iff {c : Nat} : isD c = true ↔ 48 ≤ c ∧ c ≤ 57 := by
  unfold isD
  rw [decide_eq_true_eq, dig_list]
  simp only [List.mem_cons, List.not_mem_nil, or_false]
  omega
theorem isW_lt {c : Nat} (h : isW c = true) : c < 128 := by
  unfold isW at h
  rw [decide_eq_true_eq, word_list] at h
  simp only [List.mem_cons, List.not_mem_nil, or_false] at h
  omega
/-- the end of the run of p from i -/
def runE (p : Nat → Bool) (cs : List Nat) (i : Nat) : Nat := i + ((cs.drop i).takeWhile p).length
theorem runE_yes {p : Nat → Bool} {cs : List Nat} {i c : Nat} (h : cs[i]? = some c) (hp : p c = true) : runE p cs i = runE p cs (i + 1) := by
  obtain ⟨hi, e⟩ := List.getElem?_eq_some_iff.mp h
  unfold runE
  rw [List.drop_eq_getElem_cons hi, e, List.takeWhile_cons, if_pos hp, List.length_cons]
  omega
theorem runE_no {p : Nat → Bool} {cs : List Nat} {i c : Nat} (h : cs[i]? = some c) (hp : p c = false) : runE p cs i = i := by
  obtain ⟨hi, e⟩ := List.getElem?_eq_some_iff.mp h
  unfold runE
  rw [List.drop_eq_getElem_cons hi, e, List.takeWhile_cons, if_neg (by simp [hp])]
  rfl
theorem runE_end {p : Nat → Bool} {cs : List Nat} {i : Nat} (h : cs[i]? = none) : runE p cs i = i := by
  unfold runE
  rw [List.drop_eq_nil_of_le (List.getElem?_eq_none_iff.mp h)]
  rfl
theorem runE_ge {p : Nat → Bool} {cs : List Nat} {i : Nat} : i ≤ runE p cs i := Nat.le_add_right _ _
theorem takeWhile_len {p : Nat → Bool} : ∀ l : List Nat, (l.takeWhile p).length ≤ l.length
  | [] => Nat.le_refl _
  | a :: l => by
    rw [List.takeWhile_cons]
    split
    · simpa using takeWhile_len l
    · simp
theorem runE_le {p : Nat → Bool} {cs : List Nat} {i : Nat} (h : i ≤ cs.length) : runE p cs i ≤ cs.length := by
  have := takeWhile_len (p := p) (cs.drop i)
  rw [List.length_drop] at this
  unfold runE
  omega
/-- signs from i to j -/
def cutN (cs : List Nat) (i j : Nat) : List Nat := (cs.drop i).take (j - i)
theorem take_takeWhile {p : Nat → Bool} : ∀ l : List Nat, l.take (l.takeWhile p).length = l.takeWhile p
  | [] => rfl
  | a :: l => by
    rw [List.takeWhile_cons]
    split
    · simp [take_takeWhile l]
    · rfl
theorem cut_run {p : Nat → Bool} {cs : List Nat} {i : Nat} : cutN cs i (runE p cs i) = (cs.drop i).takeWhile p := by
  unfold cutN runE
  rw [Nat.add_sub_cancel_left, take_takeWhile]
theorem takeWhile_all {p : Nat → Bool} : ∀ (l : List Nat) (c : Nat), c ∈ l.takeWhile p → p c = true
  | [], _, h => by simp at h
  | a :: l, c, h => by
    rw [List.takeWhile_cons] at h
    split at h
    · rename_i ha
      rcases List.mem_cons.mp h with e | h
      · rw [e]; exact ha
      · exact takeWhile_all l c h
    · simp at h
theorem cut_len {cs : List Nat} {i j : Nat} (h : j ≤ cs.length) : (cutN cs i j).length = j - i := by
  unfold cutN
  rw [List.length_take, List.length_drop]
  omega
def toS (l : List Nat) : Str := ⟨l.toArray⟩
theorem toS_list (l : List Nat) : (toS l).cps.toList = l := by simp [toS]
theorem toS_len (l : List Nat) : (toS l).length = l.length := by simp [toS, Str.length]
theorem cutS_nat (t : Str) (i j : Nat) : cutS t (some (i : Int)) (some (j : Int)) = toS (cutN t.cps.toList i j) := by
  have hl : t.cps.toList.length = t.length := by simp [Str.length]
  have e1 : HT.sIx t.length 0 (some (i : Int)) = min i t.length := HT.sIx_nat _ _ _
  have e2 : HT.sIx t.length t.length (some (j : Int)) = min j t.length := HT.sIx_nat _ _ _
  have g : ((t.cps.toList.drop (min i t.length)).take (min j t.length - min i t.length)) = (t.cps.toList.drop i).take (j - i) := by
    rcases Nat.lt_or_ge t.length i with h | h
    · have e3 : min i t.length = t.length := Nat.min_eq_right (Nat.le_of_lt h)
      rw [e3, List.drop_eq_nil_of_le (Nat.le_of_eq hl), List.drop_eq_nil_of_le (by rw [hl]; exact Nat.le_of_lt h), List.take_nil, List.take_nil]
    · have e3 : min i t.length = i := Nat.min_eq_left h
      rw [e3]
      rcases Nat.lt_or_ge t.length j with h2 | h2
      · have e4 : min j t.length = t.length := Nat.min_eq_right (Nat.le_of_lt h2)
        have hd : (t.cps.toList.drop i).length = t.length - i := by rw [List.length_drop, hl]
        rw [e4, List.take_of_length_le (Nat.le_of_eq hd), List.take_of_length_le (by rw [hd]; exact Nat.sub_le_sub_right (Nat.le_of_lt h2) i)]
      · rw [Nat.min_eq_left h2]
  unfold cutS toS cutN
  rw [e1, e2, g]
theorem cut1 {cs : List Nat} {i c : Nat} (h : cs[i]? = some c) : cutN cs i (i + 1) = [c] := by
  obtain ⟨hi, e⟩ := List.getElem?_eq_some_iff.mp h
  unfold cutN
  rw [List.drop_eq_getElem_cons hi, e, Nat.add_sub_cancel_left]
  rfl
theorem cut0 {cs : List Nat} {i : Nat} (h : cs[i]? = none) (j : Nat) : cutN cs i j = [] := by
  unfold cutN
  rw [List.drop_eq_nil_of_le (List.getElem?_eq_none_iff.mp h), List.take_nil]
/-- the sign at i, as a text of one or no sign -/
def sgn (cs : List Nat) (i : Nat) : List Nat := match cs[i]? with | some c => [c] | none => []
theorem sgn_cut (cs : List Nat) (i : Nat) : cutN cs i (i + 1) = sgn cs i := by
  unfold sgn
  cases h : cs[i]? with
  | none => exact cut0 h _
  | some c => exact cut1 h
theorem cutS_sgn (t : Str) (i : Nat) : cutS t (some (i : Int)) (some ((i : Int) + 1)) = toS (sgn t.cps.toList i) := by
  have := cutS_nat t i (i + 1)
  rw [Int.natCast_succ] at this
  rw [this, sgn_cut]
theorem toS_inj {a b : List Nat} : toS a = toS b ↔ a = b := by
  refine ⟨fun h => ?_, fun h => by rw [h]⟩
  have := congrArg (fun s : Str => s.cps.toList) h
  rwa [toS_list, toS_list] at this
/-- a number at i -/
def numOk (neg : Bool) (ds : List Nat) : Bool := decide (1 ≤ ds.length) && decide (ds.length ≤ 6) && !(decide (ds.head? = some 48) && (decide (1 < ds.length) || neg))
def numV (neg : Bool) (ds : List Nat) : Int := if neg then -((NumText.digitsVal ds : Nat) : Int) else ((NumText.digitsVal ds : Nat) : Int)
def isNeg (cs : List Nat) (i : Nat) : Bool := decide (cs[i]? = some 45)
def numB (cs : List Nat) (i : Nat) : Nat := if isNeg cs i then i + 1 else i
def numE (cs : List Nat) (i : Nat) : Nat := runE isD cs (numB cs i)
def numDs (cs : List Nat) (i : Nat) : List Nat := cutN cs (numB cs i) (numE cs i)
def numN (cs : List Nat) (i : Nat) : Option (PyData × Nat) :=
  if numOk (isNeg cs i) (numDs cs i) then some (.int (numV (isNeg cs i) (numDs cs i)), numE cs i) else none
def manyN (v : Nat → Option (PyData × Nat)) (cs : List Nat) : Nat → Nat → List PyData → Option (PyData × Nat)
  | 0, _, _ => none
  | f + 1, i, acc => match v i with
    | none => none
    | some (p, h) => if cs[h]? = some 93 then some (.tuple (acc ++ [p]), h + 1) else if cs[h]? = some 32 then manyN v cs f (h + 1) (acc ++ [p]) else none
def partsN (v : Nat → Option (PyData × Nat)) (cs : List Nat) (i : Nat) : Option (PyData × Nat) :=
  if cs[i]? = some 93 then some (.tuple [], i + 1) else manyN v cs (cs.length + 1) i []
def wordAt (cs : List Nat) (i : Nat) : Bool := match cs[i]? with | some c => isW c && !isD c | none => false
def valN (cs : List Nat) : Nat → Nat → Option (PyData × Nat)
  | 0, i => if wordAt cs i then some (.str (toS (cutN cs i (runE isW cs i))), runE isW cs i) else if cs[i]? = some 91 then none else numN cs i
  | d + 1, i => if wordAt cs i then some (.str (toS (cutN cs i (runE isW cs i))), runE isW cs i) else if cs[i]? = some 91 then partsN (valN cs d) cs (i + 1) else numN cs i
theorem isD_91 : isD 91 = false := by decide +kernel
theorem num_le {cs : List Nat} {i e : Nat} {d : PyData} (h : numN cs i = some (d, e)) : i < e ∧ e ≤ cs.length := by
  unfold numN at h
  split at h
  · rename_i ho
    injection h with h
    injection h with _ h
    subst h
    unfold numOk at ho
    simp only [Bool.and_eq_true, decide_eq_true_eq] at ho
    have h1 := ho.1.1
    have hb : numB cs i ≤ cs.length ∧ i ≤ numB cs i := by
      have hx : numDs cs i ≠ [] := fun z => by rw [z] at h1; simp at h1
      unfold numDs at hx
      rcases Nat.lt_or_ge cs.length (numB cs i) with hl | hl
      · exact absurd (cut0 (List.getElem?_eq_none_iff.mpr (Nat.le_of_lt hl)) _) hx
      · refine ⟨hl, ?_⟩
        unfold numB; split <;> omega
    have he : numE cs i ≤ cs.length := runE_le hb.1
    have hl := cut_len (i := numB cs i) he
    have e2 : (numDs cs i).length = numE cs i - numB cs i := hl
    omega
  · cases h
theorem many_step {v : Nat → Option (PyData × Nat)} {cs : List Nat} {f i : Nat} {acc : List PyData} (hv : cs.length ≤ i → v i = none) (h : cs.length < i + f) :
    manyN v cs f i acc = match v i with
      | none => none
      | some (p, h) => if cs[h]? = some 93 then some (.tuple (acc ++ [p]), h + 1) else if cs[h]? = some 32 then manyN v cs (f - 1) (h + 1) (acc ++ [p]) else none := by
  cases f with
  | zero => rw [hv (by omega)]; rfl
  | succ f => rfl
theorem many_le {v : Nat → Option (PyData × Nat)} {cs : List Nat} (hv : ∀ i p h, v i = some (p, h) → i < h ∧ h ≤ cs.length) : ∀ (f i : Nat) (acc : List PyData) (d : PyData) (e : Nat), manyN v cs f i acc = some (d, e) → i < e ∧ e ≤ cs.length
  | 0, _, _, _, _, h => by cases h
  | f + 1, i, acc, d, e, h => by
    rw [manyN] at h
    cases q : v i with
    | none => rw [q] at h; cases h
    | some r =>
      obtain ⟨p, k⟩ := r
      rw [q] at h
      have := hv i p k q
      dsimp only at h
      split at h
      · rename_i h9
        injection h with h
        injection h with _ h
        have := (List.getElem?_eq_some_iff.mp h9).1
        omega
      · split at h
        · have := many_le hv f (k + 1) _ d e h
          omega
        · cases h
theorem word_le {cs : List Nat} {i : Nat} (h : wordAt cs i = true) : i < runE isW cs i ∧ runE isW cs i ≤ cs.length := by
  unfold wordAt at h
  cases q : cs[i]? with
  | none => rw [q] at h; cases h
  | some c =>
    rw [q] at h
    have hi := (List.getElem?_eq_some_iff.mp q).1
    have hw : isW c = true := (Bool.and_eq_true _ _ ▸ h).1
    have := runE_yes q hw
    have := runE_ge (p := isW) (cs := cs) (i := i + 1)
    exact ⟨by omega, runE_le (Nat.le_of_lt hi)⟩
theorem val_le {cs : List Nat} : ∀ (n i e : Nat) (d : PyData), valN cs n i = some (d, e) → i < e ∧ e ≤ cs.length
  | 0, i, e, d, h => by
    rw [valN] at h
    split at h
    · rename_i hw
      injection h with h
      injection h with _ h
      have := word_le hw
      omega
    · split at h
      · cases h
      · exact num_le h
  | n + 1, i, e, d, h => by
    rw [valN] at h
    split at h
    · rename_i hw
      injection h with h
      injection h with _ h
      have := word_le hw
      omega
    · split at h
      · unfold partsN at h
        split at h
        · rename_i h9
          injection h with h
          injection h with _ h
          have := (List.getElem?_eq_some_iff.mp h9).1
          omega
        · have := many_le (fun i p h => val_le n i h p) _ _ _ _ _ h
          omega
      · exact num_le h
theorem val_end {cs : List Nat} {n i : Nat} (h : cs.length ≤ i) : valN cs n i = none := by
  cases q : valN cs n i with
  | none => rfl
  | some r =>
    obtain ⟨d, e⟩ := r
    have := val_le n i e d q
    omega
end K16

set_option Elab.async false
set_option linter.all false
set_option maxRecDepth 100000
set_option maxHeartbeats 4000000
namespace K16
open PySem PySem.Spec PyProof.Rows L2
def Rd (K : PySem.W.Frag) (a dx : Addr) (t : Str) (i : Nat) (H : Hp) : Prop := H a = some (.ins (He.ga K "ValueReader") dx [("text", .str t), ("at", .int i)])
theorem put_at (t i v : V) : putF "at" v [("text", t), ("at", i)] = ([("text", t), ("at", v)] : List (Str × V)) := by rfl
theorem Rd.set {K : PySem.W.Frag} {a dx : Addr} {t : Str} {i : Nat} {H H1 : Hp} (h : Rd K a dx t i H) (j : Nat) : Rd K a dx t j (upd H1 a (.ins (He.ga K "ValueReader") dx (putF "at" (.int j) [("text", .str t), ("at", .int i)]))) := by
  unfold Rd; rw [upd_same, put_at]
theorem vS (a b : Str) : decide (V.str a = V.str b) = decide (a = b) := by
  by_cases h : a = b
  · subst h; simp
  · have : V.str a ≠ V.str b := fun z => h (V.str.inj z)
    simp [h]
theorem sgn_nil (cs : List Nat) (j : Nat) : decide (V.str (toS (sgn cs j)) = V.str (Str.ofString "")) = (cs[j]?).isNone := by
  have e0 : (Str.ofString "") = toS [] := by decide +kernel
  rw [vS, e0]
  unfold sgn
  cases cs[j]? with
  | none => exact decide_eq_true rfl
  | some c => exact decide_eq_false fun h => by have := toS_inj.mp h; simp at this
/-- is the sign at j this one -/
theorem sgn_is (cs : List Nat) (j : Nat) (c : Nat) (z : Str) (hz : z = toS [c]) : decide (V.str (toS (sgn cs j)) = V.str z) = decide (cs[j]? = some c) := by
  rw [vS, hz]
  unfold sgn
  cases cs[j]? with
  | none =>
    rw [decide_eq_false, decide_eq_false]
    · intro h; cases h
    · intro h; have := toS_inj.mp h; simp at this
  | some d =>
    by_cases e : d = c
    · subst e; rw [decide_eq_true rfl, decide_eq_true rfl]
    · rw [decide_eq_false, decide_eq_false]
      · intro h; exact e (Option.some.inj h)
      · intro h; have := toS_inj.mp h; exact e (by simpa using this)
def spSign (K : PySem.W.Frag) : Sp := fun vs H Q _ => ∃ (a dx : Addr) (t : Str) (i : Nat), vs = [.ref a] ∧ Rd K a dx t i H ∧ t.length ≤ 100000 ∧ Q (.str (toS (sgn t.cps.toList i))) H
def runP (z : Str) (c : Nat) : Bool := decide (c ∈ z.cps.toList)
def spRun (K : PySem.W.Frag) : Sp := fun vs H Q _ => ∃ (a dx : Addr) (t z : Str) (i : Nat), vs = [.ref a, .str z] ∧ Rd K a dx t i H ∧ t.length ≤ 100000 ∧ ∀ H', But a H H' → Rd K a dx t (runE (runP z) t.cps.toList i) H' → Q (.str (toS (cutN t.cps.toList i (runE (runP z) t.cps.toList i)))) H'
section
variable {P : Program} {w : World} {K : PySem.W.Frag} {mg : Str → Option Value} {base : Heap} (T : Txt K mg)
include T
theorem ok_sign : FnOk P w K mg base CX0 1 (He.ma K (He.ga K "ValueReader") "next_sign") T.d_ValueReader_next_sign ["self"] (spSign K) := by
  refine T.F_ValueReader_next_sign.ok sc_ValueReader_next_sign (fun vs H Q E h => ?_) (fun cdv A outer s H vs Q E hr h => ?_)
  · obtain ⟨a, dx, t, i, rfl, _⟩ := h; rfl
  · obtain ⟨a, dx, t, i, rfl, ha, ht, q⟩ := h
    refine ⟨_, PSs.nox (pss_one (ps_ret (pe_slice sl_str (pe_fld (pv 0) rfl) (po_some (pe_fld (pv 0) rfl)) (po_some (pe_op op_add (pe_fld (pv 0) rfl) pe_int))))), ?_⟩
    refine ⟨_, rfl, a, _, dx, _, .str t, rfl, ha, T.c_ValueReader, T.n_ValueReader_text, rfl, ?_⟩
    refine ⟨_, rfl, a, _, dx, _, _, rfl, ha, T.c_ValueReader, T.n_ValueReader_at, rfl, _, rfl, _, rfl, a, _, dx, _, _, rfl, ha, T.c_ValueReader, T.n_ValueReader_at, rfl, _, _, rfl, rfl, _, rfl, t, rfl, Nat.le_trans ht (by decide), ?_⟩
    rw [cutS_sgn]; exact q
theorem ok_run : FnOk P w K mg base CX0 2 (He.ma K (He.ga K "ValueReader") "run_of") T.d_ValueReader_run_of ["self", "signs"] (spRun K) := by
  have G_ValueReader_next_sign := ok_sign (P := P) (w := w) (base := base) T
  refine T.F_ValueReader_run_of.ok sc_ValueReader_run_of (fun vs H Q E h => ?_) (fun cdv A outer s H vs Q E hr h => ?_)
  · obtain ⟨a, dx, t, z, i, rfl, _⟩ := h; rfl
  · obtain ⟨a, dx, t, z, i, rfl, ha, ht, q⟩ := h
    refine ⟨_, PSs.nox (pss_cons (ps_set (i := 2) sc_ValueReader_run_of.nd rfl (.inl rfl) (pe_fld (pv 0) rfl))
    (pss_cons (ps_while PassesOwn.never (PW.pt (pw_and (pt_cmpR op_ne (pe_meth0 (pv 0) T.c_ValueReader T.mt_ValueReader_next_sign G_ValueReader_next_sign (hr.mono (by omega)) T.b_ValueReader_next_sign .nil pass0) pe_str (nomark _)) (pw_and1 (pt_cmpR op_in_sign (pe_meth0 (pv 0) T.c_ValueReader T.mt_ValueReader_next_sign G_ValueReader_next_sign (hr.mono (by omega)) T.b_ValueReader_next_sign .nil pass0) (pv 1) (by rfl)))))
    (pss_one (ps_fldaug (pv 0) pe_int in_add)))
    (pss_one (ps_ret (pe_slice sl_str (pe_fld (pv 0) rfl) (po_some (pv 2)) (po_some (pe_fld (pv 0) rfl))))))), ?_⟩
    refine ⟨_, rfl, a, _, dx, _, _, rfl, ha, T.c_ValueReader, T.n_ValueReader_at, rfl, ?_⟩
    refine ⟨fun m σ H' => ∃ j, i ≤ j ∧ m = t.cps.toList.length - j ∧ σ = [some (.ref a), some (.str z), some (.int i)] ∧ But a H H' ∧ Rd K a dx t j H' ∧ runE (runP z) t.cps.toList j = runE (runP z) t.cps.toList i, ⟨_, i, Nat.le_refl _, rfl, rfl, But.refl _ _, ha, rfl⟩, ?_⟩
    rintro m σ H' ⟨j, hj, rfl, rfl, hb, hr, he⟩
    refine ⟨_, rfl, a, dx, _, rfl, hr, rfl, a, dx, t, j, rfl, hr, ht, ?_⟩
    refine ⟨rfl, _, rfl, ?_⟩
    rw [sgn_nil]
    cases hc : t.cps.toList[j]? with
    | none =>
      refine iteF (iteF ?_)
      have hj2 := runE_end (p := runP z) hc
      rw [he] at hj2
      refine ⟨_, rfl, a, _, dx, _, _, rfl, hr, T.c_ValueReader, T.n_ValueReader_text, rfl, _, rfl, _, rfl, _, rfl, a, _, dx, _, _, rfl, hr, T.c_ValueReader, T.n_ValueReader_at, rfl, _, rfl, t, rfl, Nat.le_trans ht (by decide), ?_⟩
      rw [cutS_nat, ← hj2]
      rw [← hj2] at hr
      exact q H' hb hr
    | some c =>
      refine iteT ⟨_, rfl, a, dx, _, rfl, hr, rfl, a, dx, t, j, rfl, hr, ht, _, rfl, c, z, ?_, rfl, _, rfl, ?_⟩
      · unfold sgn; rw [hc]; rfl
      have hp : runP z c = decide (c ∈ z.cps.toList) := rfl
      rw [← hp]
      cases hpc : runP z c with
      | true =>
        have hjl := (List.getElem?_eq_some_iff.mp hc).1
        refine iteT ⟨fun σ' H1 => σ' = [some (.ref a), some (.str z), some (.int i)] ∧ But a H H1 ∧ Rd K a dx t (j + 1) H1, fun σ' H1 w => ⟨_, by omega, j + 1, by omega, rfl, w.1, w.2.1, w.2.2, by rw [← runE_yes hc hpc]; exact he⟩, ?_⟩
        exact ⟨_, rfl, a, _, dx, _, _, rfl, hr, T.c_ValueReader, T.n_ValueReader_at, rfl, _, _, rfl, rfl, dx, _, hr, by show (2 : Nat) < 1000; decide, rfl, hb.trans But.set, hr.set (j + 1)⟩
      | false =>
        refine iteF ?_
        have hj2 := runE_no hc hpc
        rw [he] at hj2
        refine ⟨_, rfl, a, _, dx, _, _, rfl, hr, T.c_ValueReader, T.n_ValueReader_text, rfl, _, rfl, _, rfl, _, rfl, a, _, dx, _, _, rfl, hr, T.c_ValueReader, T.n_ValueReader_at, rfl, _, rfl, t, rfl, Nat.le_trans ht (by decide), ?_⟩
        rw [cutS_nat, ← hj2]
        rw [← hj2] at hr
        exact q H' hb hr
end
end K16

set_option Elab.async false
set_option linter.all false
set_option maxRecDepth 100000
set_option maxHeartbeats 4000000
namespace K16
open PySem PySem.Spec PyProof.Rows L2
theorem num_dig (cs : List Nat) (i : Nat) : NumText.AllDigits (numDs cs i) := fun c hc => by
  have e : numDs cs i = (cs.drop (numB cs i)).takeWhile isD := cut_run
  rw [e] at hc
  exact isD_iff.mp (takeWhile_all _ c hc)
theorem num_text {ds : List Nat} (h : NumText.AllDigits ds) (h1 : 1 ≤ ds.length) (h2 : ds.length ≤ 640) : intText? (toS ds) = some ((NumText.digitsVal ds : Nat) : Int) := by
  have := intText_digits (x := toS ds) (by rw [toS_list]; exact h) (by rw [toS_list]; intro z; rw [z] at h1; simp at h1) (by rw [toS_len]; omega)
  rw [toS_list] at this
  exact this
theorem one_is (c d : Nat) (z : Str) (hz : z = toS [d]) : decide (V.str ⟨#[c]⟩ = V.str z) = decide (c = d) := by
  have e : (⟨#[c]⟩ : Str) = toS [c] := rfl
  rw [vS, hz, e]
  by_cases h : c = d
  · subst h; simp
  · rw [decide_eq_false h, decide_eq_false]; intro q; exact h (by simpa using toS_inj.mp q)
theorem num_short {t : Str} (h : t.length ≤ 100000) (i : Nat) : (numDs t.cps.toList i).length ≤ 100000 := by
  unfold numDs cutN
  have e : t.cps.toList.length = t.length := by simp [Str.length]
  rw [List.length_take, List.length_drop]
  omega
def BT (K : PySem.W.Frag) : Value := .ref (He.ga K "BadText")
def spNum (K : PySem.W.Frag) : Sp := fun vs H Q E => ∃ (a dx : Addr) (t : Str) (i : Nat), vs = [.ref a] ∧ Rd K a dx t i H ∧ t.length ≤ 100000 ∧
  (numOk (isNeg t.cps.toList i) (numDs t.cps.toList i) = true → ∀ H', But a H H' → Rd K a dx t (numE t.cps.toList i) H' → Q (.int (numV (isNeg t.cps.toList i) (numDs t.cps.toList i))) H') ∧
  (numOk (isNeg t.cps.toList i) (numDs t.cps.toList i) = false → ∀ H', But a H H' → E (BT K) none H')
section
variable {P : Program} {w : World} {K : PySem.W.Frag} {mg : Str → Option Value} {base : Heap} (T : Txt K mg)
include T
theorem ok_number : FnOk P w K mg base (L2.CX P w) 3 (He.ma K (He.ga K "ValueReader") "number") T.d_ValueReader_number ["self"] (spNum K) := by
  have G_ValueReader_next_sign := ok_sign (P := P) (w := w) (base := base) T
  have G_ValueReader_run_of := ok_run (P := P) (w := w) (base := base) T
  refine T.F_ValueReader_number.ok sc_ValueReader_number (fun vs H Q E h => ?_) (fun cdv A outer s H vs Q E hr h => ?_)
  · obtain ⟨a, dx, t, i, rfl, _⟩ := h; rfl
  · obtain ⟨a, dx, t, i, rfl, ha, ht, q1, q2⟩ := h
    refine ⟨_, (pss_cons (ps_set (i := 1) sc_ValueReader_number.nd rfl (.inl rfl) (pe_meth0 (pv 0) T.c_ValueReader T.mt_ValueReader_next_sign G_ValueReader_next_sign (hr.mono (by omega)) T.b_ValueReader_next_sign .nil pass0))
    (pss_cons (ps_if (pt_cmpR op_eq (pv 1) pe_str (nomark _))
    (pss_one (ps_fldaug (pv 0) pe_int in_add))
    pss_nil)
    (pss_cons (ps_set (i := 2) sc_ValueReader_number.nd rfl (.inl rfl) (pe_meth (pv 0) T.c_ValueReader T.mt_ValueReader_run_of G_ValueReader_run_of (hr.mono (by omega)) T.b_ValueReader_run_of .nil pass0 (pa_cons (pe_gs rfl T.DIGITS) pa_nil)))
    (pss_cons (ps_if (PW.pt (pw_or (pt_not (pt_chain op_le op_le pe_int (pe_callB call_len_str (by rfl) T.len (by decide +kernel) (pa_cons (pv 2) pa_nil)) (pe_gi (i := 6) rfl T.MOST_DIGITS))) (pw_or1 (PW.pt (pw_and (pt_cmpR op_eq (pe_ix ix_str (pv 2) pe_int (fun _ _ => rfl)) pe_str (nomark _)) (pw_and1 (PW.pt (pw_or (pt_cmpR op_gt (pe_callB call_len_str (by rfl) T.len (by decide +kernel) (pa_cons (pv 2) pa_nil)) pe_int (nomark _)) (pw_or1 (pt_cmpR op_eq (pv 1) pe_str (nomark _)))))))))))
    (pss_one (ps_raise rfl (takes_of rfl rfl rfl rfl) (SkE.pmk_own1 PySem.F.excBase_ValueError T.e_BadText.1 T.g_BadText T.e_BadText.2.1 (raises_own T.e_BadText.2.2.1 T.e_BadText.2.2.2) (by exact rfl) (pe_fld (pv 0) rfl))))
    pss_nil)
    (pss_one (ps_ret (pe_ifExp (pt_cmpR op_eq (pv 1) pe_str (nomark _)) (pe_un un_neg (pe_callTy call_int_str (by rfl) T.int (by decide +kernel) (pa_cons (pv 2) pa_nil))) (pe_callTy call_int_str (by rfl) T.int (by decide +kernel) (pa_cons (pv 2) pa_nil))))))))), ?_⟩
    refine ⟨_, rfl, a, dx, _, rfl, ha, rfl, a, dx, t, i, rfl, ha, ht, ?_⟩
    refine ⟨_, rfl, rfl, _, rfl, ?_⟩
    rw [sgn_is t.cps.toList i 45 _ (by decide +kernel)]
    have hsg : ∀ z : Str, z = toS [45] → decide (V.str (toS (sgn t.cps.toList i)) = V.str z) = isNeg t.cps.toList i := fun z hz => sgn_is t.cps.toList i 45 z hz
    have hb45 : (Str.ofString "-") = toS [45] := by decide +kernel
    have hb48 : (Str.ofString "0") = toS [48] := by decide +kernel
    cases hn : decide (t.cps.toList[i]? = some 45)
    case' false =>
      have hng : isNeg t.cps.toList i = false := hn
      have hbi : numB t.cps.toList i = i := by unfold numB; rw [if_neg (by rw [hng]; decide)]
      refine iteF ?_
      have h1 : Rd K a dx t (numB t.cps.toList i) H := by rw [hbi]; exact ha
      have b1 : But a H H := But.refl _ _
      revert h1 b1
    case' true =>
      have hng : isNeg t.cps.toList i = true := hn
      have hbi : numB t.cps.toList i = i + 1 := by unfold numB; rw [if_pos hng]
      refine iteT ⟨_, rfl, a, _, dx, _, _, rfl, ha, T.c_ValueReader, T.n_ValueReader_at, rfl, _, _, rfl, rfl, dx, _, ha, (by show (2 : Nat) < 1000; decide), ?_⟩
      have h1 : Rd K a dx t (numB t.cps.toList i) (upd H a (.ins (He.ga K "ValueReader") dx (putF "at" (.int ((i : Int) + 1)) [("text", .str t), ("at", .int i)]))) := by rw [hbi]; exact ha.set (H1 := H) (i + 1)
      have b1 : But a H (upd H a (.ins (He.ga K "ValueReader") dx (putF "at" (.int ((i : Int) + 1)) [("text", .str t), ("at", .int i)]))) := But.set
      revert h1 b1
      generalize upd H a (.ins (He.ga K "ValueReader") dx (putF "at" (.int ((i : Int) + 1)) [("text", .str t), ("at", .int i)])) = H1
    all_goals
      intro h1 b1
      refine ⟨_, rfl, a, dx, _, rfl, h1, rfl, a, dx, t, DIGs, _, rfl, h1, ht, fun H2 b2 h2 => ?_⟩
      have e1 : toS (cutN t.cps.toList (numB t.cps.toList i) (runE (runP DIGs) t.cps.toList (numB t.cps.toList i))) = toS (numDs t.cps.toList i) := rfl
      rw [e1]
      have hlen : (numDs t.cps.toList i).length ≤ 100000 := num_short ht i
      refine ⟨_, rfl, _, rfl, Nat.le_trans (by rw [toS_len]; exact hlen) (by decide : 100000 ≤ sizeLine), ?_⟩
      rw [toS_len]
      refine ⟨_, _, rfl, rfl, _, rfl, ?_⟩
      refine ite2 (fun c1 => ?_) (fun c1 => ⟨_, rfl, iteT ⟨_, rfl, a, _, dx, _, _, rfl, h2, T.c_ValueReader, T.n_ValueReader_text, rfl, q2 (by
        have : ¬ 1 ≤ (numDs t.cps.toList i).length := fun z => c1 (decide_eq_true (by omega))
        unfold numOk; rw [decide_eq_false this]; rfl) _ (b1.trans b2)⟩⟩)
      have c1' : 1 ≤ (numDs t.cps.toList i).length := by have := of_decide_eq_true c1; omega
      refine ⟨_, _, rfl, rfl, _, rfl, ?_⟩
      cases c6 : decide (((numDs t.cps.toList i).length : Int) ≤ 6)
      case' false =>
        exact iteT ⟨_, rfl, a, _, dx, _, _, rfl, h2, T.c_ValueReader, T.n_ValueReader_text, rfl, q2 (by
          have := of_decide_eq_false c6
          have : ¬ (numDs t.cps.toList i).length ≤ 6 := by omega
          unfold numOk; rw [decide_eq_false this, Bool.and_false]; rfl) _ (b1.trans b2)⟩
      have c6' : (numDs t.cps.toList i).length ≤ 6 := by have := of_decide_eq_true c6; omega
      refine iteF ?_
      obtain ⟨c0, rest, hds⟩ : ∃ c0 rest, numDs t.cps.toList i = c0 :: rest := by
        cases hq : numDs t.cps.toList i with
        | nil => rw [hq] at c1'; simp at c1'
        | cons c0 rest => exact ⟨c0, rest, rfl⟩
      have hz6 : (toS (numDs t.cps.toList i)).length ≤ sizeLine := by rw [toS_len]; exact Nat.le_trans c6' (by decide)
      have hok : numOk (isNeg t.cps.toList i) (numDs t.cps.toList i) = !(decide (c0 = 48) && (decide (1 < (numDs t.cps.toList i).length) || isNeg t.cps.toList i)) := by
        unfold numOk; rw [decide_eq_true c1', decide_eq_true c6', hds]
        have e : decide ((c0 :: rest).head? = some 48) = decide (c0 = 48) := by simp
        rw [e]; simp
      have hnt := num_text (num_dig t.cps.toList i) c1' (by omega)
      have hl6 : (toS (numDs t.cps.toList i)).length ≤ 640 := by rw [toS_len]; omega
      refine ⟨_, rfl, _, 0, c0, rfl, rfl, hz6, (by rw [toS_list, hds]; exact atI_nat (j := 0) (v := c0) (xs := c0 :: rest) rfl), rfl, _, rfl, ?_⟩
      rw [one_is c0 48 _ hb48]
      have fin : numOk (isNeg t.cps.toList i) (numDs t.cps.toList i) = true → Q (.int (numV (isNeg t.cps.toList i) (numDs t.cps.toList i))) H2 := fun z => q1 z _ (b1.trans b2) h2
      cases c48 : decide (c0 = 48)
      case' false =>
        refine iteF (iteF ⟨_, rfl, rfl, _, rfl, ?_⟩)
        rw [hsg _ hb45, hng]
        have fn := fin (by rw [hok, c48]; rfl)
        rw [hng] at fn
        first
        | exact iteF ⟨_, rfl, _, _, rfl, hnt, hl6, fn⟩
        | exact iteT ⟨_, rfl, _, _, rfl, hnt, hl6, _, rfl, fn⟩
      case' true =>
        refine iteT ⟨_, rfl, _, rfl, hz6, _, _, rfl, rfl, _, rfl, ?_⟩
        rw [toS_len]
        refine ite2 (fun c7 => ?_) (fun c7 => ⟨_, rfl, rfl, _, rfl, ?_⟩)
      case' true.refine_1 =>
        have c7' : 1 < (numDs t.cps.toList i).length := by have := of_decide_eq_true c7; omega
        exact iteT ⟨_, rfl, a, _, dx, _, _, rfl, h2, T.c_ValueReader, T.n_ValueReader_text, rfl, q2 (by rw [hok, c48, decide_eq_true c7']; rfl) _ (b1.trans b2)⟩
      case' true.refine_2 =>
        have c7' : ¬ 1 < (numDs t.cps.toList i).length := fun z => c7 (decide_eq_true (by omega))
        rw [hsg _ hb45, hng]
        first
        | exact iteT ⟨_, rfl, a, _, dx, _, _, rfl, h2, T.c_ValueReader, T.n_ValueReader_text, rfl, q2 (by rw [hok, c48, hng]; simp) _ (b1.trans b2)⟩
        | (have fn := fin (by rw [hok, c48, decide_eq_false c7', hng]; rfl)
           rw [hng] at fn
           refine iteF ⟨_, rfl, rfl, _, rfl, ?_⟩
           rw [hsg _ hb45, hng]
           exact iteF ⟨_, rfl, _, _, rfl, hnt, hl6, fn⟩)
end
end K16

set_option Elab.async false
set_option linter.all false
set_option maxRecDepth 100000
set_option maxHeartbeats 4000000
namespace K16
open PySem PySem.Spec PyProof.Rows L2
/-- what a reader gives at i: the value and the place behind it, or BadText -/
def Gives (K : PySem.W.Frag) (a dx : Addr) (t : Str) (H : Hp) (Q : VK) (E : XK) (r : Option (PyData × Nat)) : Prop :=
  (∀ d e, r = some (d, e) → ∀ H' v, But a H H' → Rd K a dx t e H' → Dp K (hid a H') v d → Q v H') ∧ (r = none → ∀ H', But a H H' → E (BT K) none H')
def spVal (K : PySem.W.Frag) (n : Nat) : Sp := fun vs H Q E => ∃ (a dx : Addr) (t : Str) (i : Nat), vs = [.ref a, .int (n : Nat)] ∧ Rd K a dx t i H ∧ t.length ≤ 100000 ∧ Gives K a dx t H Q E (valN t.cps.toList n i)
def spPar (K : PySem.W.Frag) : Nat → Sp
  | 0 => fun _ _ _ _ => False
  | n + 1 => fun vs H Q E => ∃ (a dx : Addr) (t : Str) (i : Nat), vs = [.ref a, .int (n + 1 : Nat)] ∧ Rd K a dx t i H ∧ t.length ≤ 100000 ∧ Gives K a dx t H Q E (partsN (valN t.cps.toList n) t.cps.toList i)
theorem Gives.but {K : PySem.W.Frag} {a dx : Addr} {t : Str} {H H1 : Hp} {Q : VK} {E : XK} {r : Option (PyData × Nat)} (g : Gives K a dx t H Q E r) (b : But a H H1) : Gives K a dx t H1 Q E r :=
  ⟨fun d e h H' v b2 => g.1 d e h H' v (b.trans b2), fun h H' b2 => g.2 h H' (b.trans b2)⟩
theorem val_word {cs : List Nat} {n i : Nat} (h : wordAt cs i = true) : valN cs n i = some (.str (toS (cutN cs i (runE isW cs i))), runE isW cs i) := by
  cases n <;> (rw [valN, if_pos h])
theorem val_num {cs : List Nat} {n i : Nat} (h : wordAt cs i = false) (h2 : cs[i]? ≠ some 91) : valN cs n i = numN cs i := by
  cases n <;> (rw [valN, if_neg (by rw [h]; decide), if_neg h2])
theorem word_91 {cs : List Nat} {i : Nat} (h : cs[i]? = some 91) : wordAt cs i = false := by
  unfold wordAt; rw [h]; decide +kernel
section
variable {P : Program} {w : World} {K : PySem.W.Frag} {mg : Str → Option Value} {base : Heap} (T : Txt K mg)
include T
theorem value_step (n : Nat) (G_ValueReader_parts : FnD P w K mg base (L2.CX P w) (2 * n) (He.ma K (He.ga K "ValueReader") "parts") T.d_ValueReader_parts ["self", "deep"] (spPar K n)) :
    FnD P w K mg base (L2.CX P w) (2 * n + 1) (He.ma K (He.ga K "ValueReader") "value") T.d_ValueReader_value ["self", "deep"] (spVal K n) := by
  have G_ValueReader_next_sign := ok_sign (P := P) (w := w) (base := base) T
  have G_ValueReader_run_of := ok_run (P := P) (w := w) (base := base) T
  have G_ValueReader_number := ok_number (P := P) (w := w) (base := base) T
  refine T.F_ValueReader_value.okD sc_ValueReader_value (fun vs H Q E h => ?_) (fun cdv A outer s H vs Q E hr h => ?_)
  · obtain ⟨a, dx, t, i, rfl, _⟩ := h; rfl
  · obtain ⟨a, dx, t, i, rfl, ha, ht, g⟩ := h
    refine ⟨_, (pss_cons (ps_set (i := 2) sc_ValueReader_value.nd rfl (.inl rfl) (pe_meth0 (pv 0) T.c_ValueReader T.mt_ValueReader_next_sign G_ValueReader_next_sign (hr.room.mono (by omega)) T.b_ValueReader_next_sign .nil pass0))
    (pss_cons (ps_if (PW.pt (pw_and (pt_cmpR op_ne (pv 2) pe_str (nomark _)) (pw_and (pt_cmpR op_in_sign (pv 2) (pe_gs rfl T.WORD) (by rfl)) (pw_and1 (pt_cmpR op_notIn_sign (pv 2) (pe_gs rfl T.DIGITS) (by rfl))))))
    (pss_one (ps_ret (pe_meth (pv 0) T.c_ValueReader T.mt_ValueReader_run_of G_ValueReader_run_of (hr.room.mono (by omega)) T.b_ValueReader_run_of .nil pass0 (pa_cons (pe_gs rfl T.WORD) pa_nil))))
    pss_nil)
    (pss_cons (ps_if (pt_cmpR op_ne (pv 2) pe_str (nomark _))
    (pss_one (ps_ret (pe_methX0 (pv 0) T.c_ValueReader T.mt_ValueReader_number G_ValueReader_number (hr.room.mono (by omega)) T.b_ValueReader_number (fun σ => passAt (takes_of rfl rfl rfl rfl) σ))))
    pss_nil)
    (pss_cons (ps_if (pt_cmpR op_eq (pv 1) pe_int (nomark _))
    (pss_one (ps_raise rfl (takes_of rfl rfl rfl rfl) (SkE.pmk_own1 PySem.F.excBase_ValueError T.e_BadText.1 T.g_BadText T.e_BadText.2.1 (raises_own T.e_BadText.2.2.1 T.e_BadText.2.2.2) (by exact rfl) (pe_fld (pv 0) rfl))))
    pss_nil)
    (pss_cons (ps_fldaug (pv 0) pe_int in_add)
    (pss_one (ps_ret (pe_methD (pv 0) T.c_ValueReader T.mt_ValueReader_parts G_ValueReader_parts (hr.mono (by omega)) T.b_ValueReader_parts (fun σ => passAt (takes_of rfl rfl rfl rfl) σ) (pa_cons (pv 1) pa_nil))))))))), ?_⟩
    refine ⟨_, rfl, a, dx, _, rfl, ha, rfl, a, dx, t, i, rfl, ha, ht, ?_⟩
    have hb91 : (Str.ofString "[") = toS [91] := by decide +kernel
    have cont : ∀ σ : L2.St, wordAt t.cps.toList i = false → True := fun _ _ => trivial
    refine ⟨_, rfl, rfl, _, rfl, ?_⟩
    rw [sgn_nil]
    have hnum : t.cps.toList[i]? ≠ some 91 → wordAt t.cps.toList i = false → ∀ Q1 : VK, Q1 = Q → spNum K [.ref a] H Q1 (WE (fun cls d x H => E cls d H) (List.set (L2.start ["self", "deep", "sign"] [V.ref a, V.int ↑n]) 2 (some (V.str (toS (sgn t.cps.toList i)))))) := fun h91 hw Q1 hQ => by
      subst hQ
      rw [val_num hw h91] at g
      unfold numN at g
      refine ⟨a, dx, t, i, rfl, ha, ht, fun ho H' b' h' => ?_, fun ho H' b' => ?_⟩
      · exact g.1 _ _ (if_pos ho) H' _ b' h' (.int _)
      · exact g.2 (if_neg (by rw [ho]; decide)) H' b'
    cases hw : wordAt t.cps.toList i with
    | true =>
      obtain ⟨c, hc, hcw, hcd⟩ : ∃ c, t.cps.toList[i]? = some c ∧ isW c = true ∧ isD c = false := by
        unfold wordAt at hw
        cases q : t.cps.toList[i]? with
        | none => rw [q] at hw; cases hw
        | some c =>
          rw [q] at hw
          have := Bool.and_eq_true _ _ ▸ hw
          exact ⟨c, rfl, this.1, by simpa using this.2⟩
      have hs : toS (sgn t.cps.toList i) = ⟨#[c]⟩ := by unfold sgn; rw [hc]; rfl
      rw [val_word hw] at g
      rw [hc, hs]
      refine iteT ⟨_, rfl, c, WORDs, rfl, rfl, _, rfl, ?_⟩
      have e1 : decide (c ∈ WORDs.cps.toList) = true := hcw
      rw [e1]
      refine iteT ⟨_, rfl, c, DIGs, rfl, rfl, _, rfl, ?_⟩
      have e2 : decide (c ∈ DIGs.cps.toList) = false := hcd
      rw [e2]
      refine iteT ⟨_, rfl, a, dx, _, rfl, ha, rfl, a, dx, t, WORDs, i, rfl, ha, ht, fun H' b' h' => ?_⟩
      exact g.1 _ _ rfl H' _ b' h' (.str _)
    | false =>
      cases hc : t.cps.toList[i]? with
      | none =>
        refine iteF (iteF ⟨_, rfl, rfl, _, rfl, ?_⟩)
        rw [sgn_is _ _ 91 _ hb91, hc]
        refine iteT ⟨_, rfl, a, dx, _, rfl, ha, rfl, ?_⟩
        exact hnum (by rw [hc]; simp) hw _ rfl
      | some c =>
        have hs : toS (sgn t.cps.toList i) = ⟨#[c]⟩ := by unfold sgn; rw [hc]; rfl
        refine iteT ?_
        have hw2 : (isW c && !isD c) = false := by
          have := hw
          unfold wordAt at this; rw [hc] at this; exact this
        refine ⟨_, rfl, c, WORDs, ?_, rfl, _, rfl, ?_⟩
        · rw [← hs]
        have e1 : decide (c ∈ WORDs.cps.toList) = isW c := rfl
        rw [e1]
        cases q1 : isW c
        case' true =>
          refine iteT ⟨_, rfl, c, DIGs, ?_, rfl, _, rfl, ?_⟩
          · rw [← hs]
          have e2 : decide (c ∈ DIGs.cps.toList) = isD c := rfl
          rw [e2]
          have q2 : isD c = true := by
            rw [q1] at hw2
            cases q2 : isD c
            · rw [q2] at hw2; cases hw2
            · rfl
          rw [q2]
          refine iteF ?_
        case' false =>
          refine iteF (iteF ?_)
        all_goals
          refine ⟨_, rfl, rfl, _, rfl, ?_⟩
          rw [sgn_is _ _ 91 _ hb91, hc]
          by_cases h91 : c = 91
          case' pos =>
            rw [h91, decide_eq_true rfl]
            have hc9 : t.cps.toList[i]? = some 91 := by rw [hc, h91]
            refine iteF ⟨_, rfl, rfl, _, rfl, ?_⟩
          case' neg =>
            rw [decide_eq_false (fun z => h91 (Option.some.inj z))]
            exact iteT ⟨_, rfl, a, dx, _, rfl, ha, rfl, hnum (by rw [hc]; exact fun z => h91 (Option.some.inj z)) hw _ rfl⟩
        all_goals
          cases n with
          | zero =>
            refine iteT ⟨_, rfl, a, _, dx, _, _, rfl, ha, T.c_ValueReader, T.n_ValueReader_text, rfl, ?_⟩
            refine g.2 ?_ H (But.refl _ _)
            rw [valN, if_neg (by rw [hw]; decide), if_pos hc9]
          | succ n =>
            have e0 : decide (V.int ((n + 1 : Nat) : Int) = V.int 0) = false := decide_eq_false fun z => by have := V.int.inj z; omega
            rw [e0]
            refine iteF ⟨_, rfl, a, _, dx, _, _, rfl, ha, T.c_ValueReader, T.n_ValueReader_at, rfl, _, _, rfl, rfl, dx, _, ha, (by show (2 : Nat) < 1000; decide), ?_⟩
            have h1 := ha.set (H1 := H) (i + 1)
            rw [valN, if_neg (by rw [hw]; decide), if_pos hc9] at g
            exact ⟨_, rfl, a, dx, _, rfl, h1, rfl, _, rfl, a, dx, t, i + 1, rfl, h1, ht, g.but But.set⟩
end
end K16

set_option Elab.async false
set_option linter.all false
set_option maxRecDepth 100000
set_option maxHeartbeats 4000000
namespace K16
open PySem PySem.Spec PyProof.Rows L2
/-- texts, numbers and tuples alone -/
inductive NoL : PyData → Prop where
  | str (x : Str) : NoL (.str x)
  | int (i : Int) : NoL (.int i)
  | tup {ds : List PyData} (h : ∀ d ∈ ds, NoL d) : NoL (.tuple ds)
theorem NoL.inn {ds : List PyData} (h : NoL (.tuple ds)) : ∀ d ∈ ds, NoL d := by cases h; assumption
theorem sqt_upd {K : PySem.W.Frag} {G : Hp} {D a : Addr} {l xs : List V} {o : HO} (h : SqT K G a xs) (hD : G D = some (.lst l)) : SqT K (upd G D o) a xs := by
  rcases h with (h | ⟨b, h⟩) | h
  · exact .inl (.inl (by rw [upd_ne (fun e => by rw [e, hD] at h; cases h)]; exact h))
  · exact .inl (.inr ⟨b, by rw [upd_ne (fun e => by rw [e, hD] at h; cases h)]; exact h⟩)
  · exact .inr h
mutual
theorem dp_upd {K : PySem.W.Frag} {G : Hp} {D : Addr} {l : List V} {o : HO} (hD : G D = some (.lst l)) : ∀ (d : PyData) (v : V), Dp K G v d → NoL d → Dp K (upd G D o) v d
  | .none, _, _, n => by cases n
  | .bool _, _, _, n => by cases n
  | .int _, _, h, _ => by cases h; exact .int _
  | .str x, _, h, _ => by cases h; exact .str x
  | .list _, _, _, n => by cases n
  | .dict _, _, _, n => by cases n
  | .tuple ds, _, h, n => by cases h with | tup hs ha => exact .tup (sqt_upd hs hD) (dps_upd hD ds _ ha n.inn)
theorem dps_upd {K : PySem.W.Frag} {G : Hp} {D : Addr} {l : List V} {o : HO} (hD : G D = some (.lst l)) : ∀ (ds : List PyData) (vs : List V), DpAll K G vs ds → (∀ d ∈ ds, NoL d) → DpAll K (upd G D o) vs ds
  | [], _, h, _ => by cases h; exact .nil
  | d :: ds, _, h, n => by
    cases h with
    | cons h1 h2 => exact .cons (dp_upd hD d _ h1 (n d List.mem_cons_self)) (dps_upd hD ds _ h2 fun e he => n e (List.mem_cons_of_mem _ he))
end
theorem hid_upd {pl a : Addr} {H : Hp} {o : HO} (h : a ≠ pl) : hid pl (upd H a o) = upd (hid pl H) a o := by
  funext b
  by_cases e : b = pl
  · subst e
    rw [upd_ne (fun z => h z.symm)]
    unfold hid; rw [if_pos rfl, if_pos rfl]
  · rw [hid_at e]
    by_cases e2 : b = a
    · subst e2; rw [upd_same, upd_same]
    · rw [upd_ne e2, upd_ne e2, hid_at e]
theorem hid_none {pl a : Addr} {H : Hp} (h : H a = none) : hid pl H a = none := by
  by_cases e : a = pl
  · unfold hid; rw [if_pos e]
  · rw [hid_at e]; exact h
theorem But.upd_new {pl D : Addr} {H1 H : Hp} {o : HO} (b : But pl H1 H) (h : H1 D = none) (n : D ≠ pl) : But pl H1 (upd H D o) := by
  unfold But
  rw [hid_upd n]
  exact Same.upd_new b (hid_none h)
theorem num_noL {cs : List Nat} {i e : Nat} {d : PyData} (h : numN cs i = some (d, e)) : NoL d := by
  unfold numN at h
  split at h
  · injection h with h; injection h with h _; rw [← h]; exact .int _
  · cases h
theorem many_noL {v : Nat → Option (PyData × Nat)} {cs : List Nat} (hv : ∀ i p h, v i = some (p, h) → NoL p) : ∀ (f i : Nat) (acc : List PyData) (d : PyData) (e : Nat), (∀ x ∈ acc, NoL x) → manyN v cs f i acc = some (d, e) → NoL d
  | 0, _, _, _, _, _, h => by cases h
  | f + 1, i, acc, d, e, ha, h => by
    rw [manyN] at h
    cases q : v i with
    | none => rw [q] at h; cases h
    | some r =>
      obtain ⟨p, k⟩ := r
      rw [q] at h
      have hp := hv i p k q
      have ha2 : ∀ x ∈ acc ++ [p], NoL x := fun x hx => by
        rcases List.mem_append.mp hx with hx | hx
        · exact ha x hx
        · rw [List.mem_singleton.mp hx]; exact hp
      dsimp only at h
      split at h
      · injection h with h; injection h with h _; rw [← h]; exact .tup ha2
      · split at h
        · exact many_noL hv f (k + 1) _ d e ha2 h
        · cases h
theorem val_noL {cs : List Nat} : ∀ (n i e : Nat) (d : PyData), valN cs n i = some (d, e) → NoL d
  | 0, i, e, d, h => by
    rw [valN] at h
    split at h
    · injection h with h; injection h with h _; rw [← h]; exact .str _
    · split at h
      · cases h
      · exact num_noL h
  | n + 1, i, e, d, h => by
    rw [valN] at h
    split at h
    · injection h with h; injection h with h _; rw [← h]; exact .str _
    · split at h
      · unfold partsN at h
        split at h
        · injection h with h; injection h with h _; rw [← h]; exact .tup (fun d hd => by simp at hd)
        · exact many_noL (fun i p h => val_noL n i h p) _ _ _ _ _ (fun d hd => by simp at hd) h
      · exact num_noL h
/-- behind a part: the place h, the parts acc -/
def aftN (v : Nat → Option (PyData × Nat)) (cs : List Nat) (f h : Nat) (acc : List PyData) : Option (PyData × Nat) :=
  if cs[h]? = some 93 then some (.tuple acc, h + 1) else if cs[h]? = some 32 then manyN v cs f (h + 1) acc else none
theorem many_aft {cs : List Nat} {n f i : Nat} {acc : List PyData} (h : cs.length < i + f) :
    manyN (valN cs n) cs f i acc = match valN cs n i with | none => none | some (p, h) => aftN (valN cs n) cs (f - 1) h (acc ++ [p]) := many_step (fun z => val_end z) h
theorem new_ne {K : PySem.W.Frag} {a dx p : Addr} {t : Str} {i : Nat} {H : Hp} (h : Rd K a dx t i H) (hp : H p = none) : p ≠ a := fun e => by
  unfold Rd at h; rw [e, h] at hp; cases hp
theorem Rd.new {K : PySem.W.Frag} {a dx p : Addr} {t : Str} {i : Nat} {H : Hp} {o : HO} (h : Rd K a dx t i H) (hp : p ≠ a) : Rd K a dx t i (upd H p o) := by
  unfold Rd at h ⊢; rw [upd_ne (fun e => hp e.symm)]; exact h
theorem dec1 (a : Addr) (n : Nat) : [V.ref a, V.int (((n + 1 : Nat) : Int) - 1)] = [V.ref a, V.int (n : Nat)] := by rw [show ((n + 1 : Nat) : Int) - 1 = (n : Nat) from by omega]
theorem hid_self {a : Addr} {H : Hp} {o : HO} : hid a (upd H a o) = hid a H := by
  funext b
  by_cases e : b = a
  · unfold hid; rw [if_pos e, if_pos e]
  · rw [hid_at e, hid_at e, upd_ne e]
structure PInv (K : PySem.W.Frag) (a dx p : Addr) (t : Str) (n : Nat) (H : Hp) (Q : VK) (E : XK) (m h : Nat) (acc : List PyData) (vs : List V) (H' : Hp) : Prop where
  b : But a H H'
  r : Rd K a dx t h H'
  l : H' p = some (.lst vs)
  d : DpAll K (hid a H') vs acc
  nl : ∀ x ∈ acc, NoL x
  f : t.cps.toList.length < h + 1 + m
  s : vs.length ≤ h ∧ h ≤ t.cps.toList.length
  g : Gives K a dx t H Q E (aftN (valN t.cps.toList n) t.cps.toList m h acc)
/-- a part is read and put behind -/
theorem PInv.put {K : PySem.W.Frag} {a dx p : Addr} {t : Str} {n : Nat} {H : Hp} {Q : VK} {E : XK} {m e : Nat} {acc : List PyData} {vs : List V} {H' : Hp} {d : PyData} {v : V}
    (hp : H p = none) (hpa : p ≠ a) (b : But a H H') (r : Rd K a dx t e H') (l : H' p = some (.lst vs)) (da : DpAll K (hid a H') vs acc) (nl : ∀ x ∈ acc, NoL x) (dv : Dp K (hid a H') v d) (nd : NoL d)
    (f : t.cps.toList.length < e + 1 + m) (s : vs.length + 1 ≤ e ∧ e ≤ t.cps.toList.length) (g : Gives K a dx t H Q E (aftN (valN t.cps.toList n) t.cps.toList m e (acc ++ [d]))) :
    PInv K a dx p t n H Q E m e (acc ++ [d]) (vs ++ [v]) (upd H' p (.lst (vs ++ [v]))) := by
  have hl : hid a H' p = some (.lst vs) := by rw [hid_at hpa]; exact l
  have nl2 : ∀ x ∈ acc ++ [d], NoL x := fun x hx => by
    rcases List.mem_append.mp hx with hx | hx
    · exact nl x hx
    · rw [List.mem_singleton.mp hx]; exact nd
  refine ⟨b.upd_new hp hpa, r.new hpa, upd_same, ?_, nl2, f, ⟨by rw [List.length_append]; exact s.1, s.2⟩, g⟩
  rw [hid_upd hpa]
  exact dps_upd hl _ _ (da.app (.cons dv .nil)) nl2
section
variable {P : Program} {w : World} {K : PySem.W.Frag} {mg : Str → Option Value} {base : Heap} (T : Txt K mg)
include T
theorem parts_step (n : Nat) (G_ValueReader_value : FnD P w K mg base (L2.CX P w) (2 * n + 1) (He.ma K (He.ga K "ValueReader") "value") T.d_ValueReader_value ["self", "deep"] (spVal K n)) :
    FnD P w K mg base (L2.CX P w) (2 * (n + 1)) (He.ma K (He.ga K "ValueReader") "parts") T.d_ValueReader_parts ["self", "deep"] (spPar K (n + 1)) := by
  have G_ValueReader_next_sign := ok_sign (P := P) (w := w) (base := base) T
  refine T.F_ValueReader_parts.okD sc_ValueReader_parts (k := 2 * n + 1) (fun vs H Q E h => ?_) (fun cdv A outer s H vs Q E hr h => ?_)
  · obtain ⟨a, dx, t, i, rfl, _⟩ := h; rfl
  · obtain ⟨a, dx, t, i, rfl, ha, ht, g⟩ := h
    refine ⟨_, (pss_cons (ps_set (i := 2) sc_ValueReader_parts.nd rfl (.inl rfl) (pe_lst pa_nil))
    (pss_cons (ps_if (pt_cmpR op_ne (pe_meth0 (pv 0) T.c_ValueReader T.mt_ValueReader_next_sign G_ValueReader_next_sign (hr.room.mono (by omega)) T.b_ValueReader_next_sign .nil pass0) pe_str (nomark _))
    (pss_cons (ps_expr (pe_bm PySem.F.plainAttrs_list PySem.F.slot_list_append PySem.F.type_list_append mt_append (pv 2) (pa_cons (pe_methD (pv 0) T.c_ValueReader T.mt_ValueReader_value G_ValueReader_value (hr.mono (by omega)) T.b_ValueReader_value (fun σ => passAt (takes_of rfl rfl rfl rfl) σ) (pa_cons (pe_op op_sub (pv 1) pe_int) pa_nil)) pa_nil)))
    (pss_one (ps_while (passes_of rfl) (pt_cmpR op_eq (pe_meth0 (pv 0) T.c_ValueReader T.mt_ValueReader_next_sign G_ValueReader_next_sign (hr.room.mono (by omega)) T.b_ValueReader_next_sign .nil pass0) pe_str (nomark _))
    (pss_cons (ps_fldaug (pv 0) pe_int in_add)
    (pss_one (ps_expr (pe_bm PySem.F.plainAttrs_list PySem.F.slot_list_append PySem.F.type_list_append mt_append (pv 2) (pa_cons (pe_methD (pv 0) T.c_ValueReader T.mt_ValueReader_value G_ValueReader_value (hr.mono (by omega)) T.b_ValueReader_value (fun σ => passAt (takes_of rfl rfl rfl rfl) σ) (pa_cons (pe_op op_sub (pv 1) pe_int) pa_nil)) pa_nil))))))))
    pss_nil)
    (pss_cons (ps_if (pt_cmpR op_ne (pe_meth0 (pv 0) T.c_ValueReader T.mt_ValueReader_next_sign G_ValueReader_next_sign (hr.room.mono (by omega)) T.b_ValueReader_next_sign .nil pass0) pe_str (nomark _))
    (pss_one (ps_raise rfl (takes_of rfl rfl rfl rfl) (SkE.pmk_own1 PySem.F.excBase_ValueError T.e_BadText.1 T.g_BadText T.e_BadText.2.1 (raises_own T.e_BadText.2.2.1 T.e_BadText.2.2.2) (by exact rfl) (pe_fld (pv 0) rfl))))
    pss_nil)
    (pss_cons (ps_fldaug (pv 0) pe_int in_add)
    (pss_one (ps_ret (pe_callTy (r := rTupOf K) call_tuple_of (by rfl) T.tuple (by decide +kernel) (pa_cons (pv 2) pa_nil)))))))), ?_⟩
    have hb93 : (Str.ofString "]") = toS [93] := by decide +kernel
    have hb32 : (Str.ofString " ") = toS [32] := by decide +kernel
    refine ⟨(by show 0 ≤ sizeLine; decide), fun p hp => ?_⟩
    have hpa := new_ne ha hp
    have h1 : Rd K a dx t i (upd H p (.lst [])) := ha.new hpa
    have b1 : But a H (upd H p (.lst [])) := (Same.one hp).but a
    have hp1 : (upd H p (.lst [])) p = some (.lst []) := upd_same
    revert h1 b1 hp1
    generalize upd H p (.lst []) = H1
    intro h1 b1 hp1
    refine ⟨_, rfl, a, dx, _, rfl, h1, rfl, a, dx, t, i, rfl, h1, ht, rfl, _, rfl, ?_⟩
    rw [sgn_is _ _ 93 _ hb93]
    unfold partsN at g
    cases hc : decide (t.cps.toList[i]? = some 93) with
    | true =>
      have hc' := of_decide_eq_true hc
      rw [if_pos hc'] at g
      refine iteF ⟨_, rfl, a, dx, _, rfl, h1, rfl, a, dx, t, i, rfl, h1, ht, rfl, _, rfl, ?_⟩
      rw [sgn_is _ _ 93 _ hb93, hc]
      refine iteF ⟨_, rfl, a, _, dx, _, _, rfl, h1, T.c_ValueReader, T.n_ValueReader_at, rfl, _, _, rfl, rfl, dx, _, h1, (by show (2 : Nat) < 1000; decide), ?_⟩
      refine ⟨_, rfl, p, [], rfl, .inl ⟨sql_new (by rw [upd_ne hpa]; exact hp1), fun l hl => ?_⟩⟩
      have h2 := h1.set (H1 := H1) (i + 1)
      have hla : l ≠ a := fun e => by rw [e, upd_same] at hl; cases hl
      refine g.1 _ _ rfl _ _ (b1.trans ((But.set).trans (Same.but (Same.one hl) a))) (h2.new hla) ?_
      rw [hid_upd hla]
      exact .tup (sqt_new upd_same) .nil
    | false =>
      have hc' := of_decide_eq_false hc
      rw [if_neg hc', many_aft (by omega)] at g
      refine iteT ?_
      have hsz : t.cps.toList.length ≤ 100000 := by have e : t.cps.toList.length = t.length := by simp [Str.length]
                                                    omega
      have hline : (100000 : Nat) < sizeLine := by decide
      refine ⟨_, rfl, .inl ⟨rfl, _, sql_new hp1⟩, _, rfl, a, dx, _, rfl, h1, rfl, _, rfl, _, _, rfl, rfl, a, dx, t, i, dec1 a n, h1, ht, fun d e hv H2 v b2 r2 dv => ?_, fun hv H2 b2 => g.2 (by rw [hv]) H2 (b1.trans b2)⟩
      rw [hv] at g
      have hle := val_le _ _ _ _ hv
      have hp2 : H2 p = some (.lst []) := b2.at hp1 hpa
      refine ⟨p, [], v, rfl, rfl, hp2, by decide, ?_⟩
      have I0 := PInv.put (n := n) (m := t.cps.toList.length + 1 - 1) (E := E) hp hpa (b1.trans b2) r2 hp2 .nil (fun x hx => by simp at hx) dv (val_noL _ _ _ _ hv) (by omega) ⟨by simp; omega, by omega⟩ g
      refine ⟨fun m σ H' => σ = [some (.ref a), some (.int ((n + 1 : Nat) : Int)), some (.ref p)] ∧ ∃ h acc vs, PInv K a dx p t n H Q E m h acc vs H', ⟨_, rfl, _, _, _, I0⟩, ?_⟩
      rintro m σ H' ⟨rfl, h, acc, vs, I⟩
      refine ⟨_, rfl, a, dx, _, rfl, I.r, rfl, a, dx, t, h, rfl, I.r, ht, rfl, _, rfl, ?_⟩
      rw [sgn_is _ _ 32 _ hb32]
      have gI := I.g
      unfold aftN at gI
      cases h32 : decide (t.cps.toList[h]? = some 32) with
      | true =>
        have h32' := of_decide_eq_true h32
        have hmf := I.f
        have hms := I.s
        rw [if_neg (by rw [h32']; simp), if_pos h32', many_aft (by omega)] at gI
        refine iteT ⟨fun σ' H' => ∃ m', m' < m ∧ σ' = [some (.ref a), some (.int ((n + 1 : Nat) : Int)), some (.ref p)] ∧ ∃ h acc vs, PInv K a dx p t n H Q E m' h acc vs H', fun _ _ w => w, ?_⟩
        refine ⟨_, rfl, a, _, dx, _, _, rfl, I.r, T.c_ValueReader, T.n_ValueReader_at, rfl, _, _, rfl, rfl, dx, _, I.r, (by show (2 : Nat) < 1000; decide), ?_⟩
        have r3 := I.r.set (H1 := H') (h + 1)
        have b3 : But a H (upd H' a (.ins (He.ga K "ValueReader") dx (putF "at" (.int ((h + 1 : Nat) : Int)) [("text", .str t), ("at", .int h)]))) := I.b.trans But.set
        have l3 : (upd H' a (.ins (He.ga K "ValueReader") dx (putF "at" (.int ((h + 1 : Nat) : Int)) [("text", .str t), ("at", .int h)]))) p = some (.lst vs) := by rw [upd_ne hpa]; exact I.l
        have d3 : DpAll K (hid a (upd H' a (.ins (He.ga K "ValueReader") dx (putF "at" (.int ((h + 1 : Nat) : Int)) [("text", .str t), ("at", .int h)])))) vs acc := by rw [hid_self]; exact I.d
        refine ⟨_, rfl, .inl ⟨rfl, _, sql_new l3⟩, _, rfl, a, dx, _, rfl, r3, rfl, _, rfl, _, _, rfl, rfl, a, dx, t, h + 1, dec1 a n, r3, ht, fun d e hv H4 v b4 r4 dv => ?_, fun hv H4 b4 => gI.2 (by rw [hv]) H4 (b3.trans b4)⟩
        rw [hv] at gI
        have hle := val_le _ _ _ _ hv
        have l4 : H4 p = some (.lst vs) := b4.at l3 hpa
        refine ⟨p, vs, v, rfl, rfl, l4, by omega, ?_⟩
        exact ⟨m - 1, by omega, rfl, e, _, _, PInv.put (n := n) hp hpa (b3.trans b4) r4 l4 (d3.same b4) I.nl dv (val_noL _ _ _ _ hv) (by omega) ⟨by omega, by omega⟩ gI⟩
      | false =>
        have h32' := of_decide_eq_false h32
        refine iteF ⟨_, rfl, a, dx, _, rfl, I.r, rfl, a, dx, t, h, rfl, I.r, ht, rfl, _, rfl, ?_⟩
        rw [sgn_is _ _ 93 _ hb93]
        cases h93 : decide (t.cps.toList[h]? = some 93) with
        | false =>
          have h93' := of_decide_eq_false h93
          rw [if_neg h93', if_neg h32'] at gI
          exact iteT ⟨_, rfl, a, _, dx, _, _, rfl, I.r, T.c_ValueReader, T.n_ValueReader_text, rfl, gI.2 rfl _ I.b⟩
        | true =>
          have h93' := of_decide_eq_true h93
          rw [if_pos h93'] at gI
          refine iteF ⟨_, rfl, a, _, dx, _, _, rfl, I.r, T.c_ValueReader, T.n_ValueReader_at, rfl, _, _, rfl, rfl, dx, _, I.r, (by show (2 : Nat) < 1000; decide), ?_⟩
          refine ⟨_, rfl, p, vs, rfl, .inl ⟨sql_new (by rw [upd_ne hpa]; exact I.l), fun l hl => ?_⟩⟩
          have h2 := I.r.set (H1 := H') (h + 1)
          have hla : l ≠ a := fun e => by rw [e, upd_same] at hl; cases hl
          refine gI.1 _ _ rfl _ _ (I.b.trans ((But.set).trans (Same.but (Same.one hl) a))) (h2.new hla) ?_
          rw [hid_upd hla, hid_self]
          have hl2 : hid a H' l = none := by
            rw [hid_at hla]
            rw [upd_ne hla] at hl; exact hl
          exact .tup (sqt_new upd_same) (I.d.same (Same.one hl2))
theorem ok_value : ∀ n, FnD P w K mg base (L2.CX P w) (2 * n + 1) (He.ma K (He.ga K "ValueReader") "value") T.d_ValueReader_value ["self", "deep"] (spVal K n)
  | 0 => value_step T 0 ⟨fun _ _ _ _ h => h.elim, fun _ _ _ _ _ _ _ _ _ _ _ _ _ h => h.elim⟩
  | n + 1 => value_step T (n + 1) (parts_step T n (ok_value n))
end
end K16

set_option Elab.async false
set_option linter.all false
set_option maxRecDepth 100000
set_option maxHeartbeats 4000000
namespace K16
open PySem PySem.Spec PyProof.Rows L2
theorem but_same {H H1 H2 : Hp} {x : Addr} (hx : H x = none) (s : Same H H1) (b : But x H1 H2) : Same H H2 := fun a o h => b.at (s a o h) (fun e => by rw [e, hx] at h; cases h)
def spInit (K : PySem.W.Frag) : Sp := fun vs H Q _ => ∃ (a dx : Addr) (t : Str), vs = [.ref a, .str t] ∧ H a = some (.ins (He.ga K "ValueReader") dx []) ∧ ∀ H', But a H H' → Rd K a dx t 0 H' → Q .non H'
/-- the value of a whole text -/
def wholeN (t : Str) : Option PyData := match valN t.cps.toList 310 0 with | some (d, e) => if e = t.cps.toList.length then some d else none | none => none
def spRead (K : PySem.W.Frag) : Sp := fun vs H Q E => ∃ t : Str, vs = [.str t] ∧ t.length ≤ 100000 ∧ (∀ d, wholeN t = some d → ∀ H' v, Same H H' → Dp K H' v d → Q v H') ∧ (wholeN t = none → ∀ H', Same H H' → E (BT K) none H')
def resD (t : Str) : PyData := match wholeN t with | some d => .list [d] | none => .none
def spTold (K : PySem.W.Frag) : Sp := fun vs H Q _ => ∃ t : Str, vs = [.str t] ∧ t.length ≤ 100000 ∧ ∀ H' v, Same H H' → Dp K H' v (resD t) → Q v H'
section
variable {P : Program} {w : World} {K : PySem.W.Frag} {mg : Str → Option Value} {base : Heap} (T : Txt K mg)
include T
theorem ok_init : FnOk P w K mg base CX0 1 (He.ma K (He.ga K "ValueReader") "__init__") T.d_ValueReader___init__ ["self", "text"] (spInit K) := by
  refine T.F_ValueReader___init__.ok sc_ValueReader___init__ (fun vs H Q E h => ?_) (fun cdv A outer s H vs Q E hr h => ?_)
  · obtain ⟨a, dx, t, rfl, _⟩ := h; rfl
  · obtain ⟨a, dx, t, rfl, ha, q⟩ := h
    refine ⟨_, PSs.nox (pss_cons (ps_fld (pv 0) (pv 1) rfl)
    (pss_one (ps_fld (pv 0) pe_int rfl))), ?_⟩
    refine ⟨_, rfl, _, rfl, a, _, dx, _, rfl, ha, T.c_ValueReader, T.n_ValueReader_text, by decide, ?_⟩
    refine ⟨_, rfl, a, _, dx, _, rfl, upd_same, T.c_ValueReader, T.n_ValueReader_at, (by show (1 : Nat) < 1000; decide), ?_⟩
    exact q _ (But.set.trans But.set) upd_same
theorem ok_read : FnD P w K mg base (L2.CX P w) 622 (He.ga K "read_value") T.d_read_value ["text"] (spRead K) := by
  have G_ValueReader := ok_init (P := P) (w := w) (base := base) T
  have G_ValueReader_value := ok_value (P := P) (w := w) (base := base) T 310
  refine T.F_read_value.okD sc_read_value (k := 621) (fun vs H Q E h => ?_) (fun cdv A outer s H vs Q E hr h => ?_)
  · obtain ⟨t, rfl, _⟩ := h; rfl
  · obtain ⟨t, rfl, ht, q1, q2⟩ := h
    refine ⟨_, (pss_cons (ps_if (pt_cmpR op_gt (pe_callB call_len_str (by rfl) T.len (by decide +kernel) (pa_cons (pv 0) pa_nil)) (pe_gi (i := 200000) rfl T.MOST_SIGNS) (nomark _))
    (pss_one (ps_raise rfl (takes_of rfl rfl rfl rfl) (SkE.pmk_own1 PySem.F.excBase_ValueError T.e_BadText.1 T.g_BadText T.e_BadText.2.1 (raises_own T.e_BadText.2.2.1 T.e_BadText.2.2.2) (by exact rfl) (pv 0))))
    pss_nil)
    (pss_cons (ps_set (i := 1) sc_read_value.nd rfl (.inl rfl) (pe_make T.m_ValueReader G_ValueReader (hr.room.mono (by omega)) (by rfl) T.g_ValueReader T.b_ValueReader___init__ .nil pass0 (pa_cons (pv 0) pa_nil)))
    (pss_cons (ps_set (i := 2) sc_read_value.nd rfl (.inl rfl) (pe_methD (pv 1) T.c_ValueReader T.mt_ValueReader_value G_ValueReader_value (hr.mono (by omega)) T.b_ValueReader_value (fun σ => passAt (takes_of rfl rfl rfl rfl) σ) (pa_cons (pe_gi (i := 310) rfl T.DEEPEST) pa_nil)))
    (pss_cons (ps_if (pt_cmpR op_lt (pe_fld (pv 1) rfl) (pe_callB call_len_str (by rfl) T.len (by decide +kernel) (pa_cons (pv 0) pa_nil)) (nomark _))
    (pss_one (ps_raise rfl (takes_of rfl rfl rfl rfl) (SkE.pmk_own1 PySem.F.excBase_ValueError T.e_BadText.1 T.g_BadText T.e_BadText.2.1 (raises_own T.e_BadText.2.2.1 T.e_BadText.2.2.2) (by exact rfl) (pv 0))))
    pss_nil)
    (pss_one (ps_ret (pv 2))))))), ?_⟩
    have hz : t.length ≤ sizeLine := Nat.le_trans ht (by decide)
    have hlen : t.cps.toList.length = t.length := by simp [Str.length]
    refine ⟨_, rfl, t, rfl, hz, _, _, rfl, rfl, _, rfl, ?_⟩
    have e0 : decide ((200000 : Int) < (t.length : Nat)) = false := decide_eq_false (by omega)
    rw [e0]
    refine iteF ⟨_, rfl, fun x dx hx hdx hne => ⟨x, dx, t, rfl, upd_same, fun H1 b1 r1 => ⟨rfl, ?_⟩⟩⟩
    have s1 : Same H H1 := but_same hx (((Same.one hdx).upd_new hx)) b1
    refine ⟨_, rfl, x, dx, _, rfl, r1, rfl, x, dx, t, 0, rfl, r1, ht, fun d e hv H2 v b2 r2 dv => ?_, fun hv H2 b2 => ?_⟩
    · have s2 := but_same hx s1 b2
      refine ⟨_, rfl, x, _, dx, _, _, rfl, r2, T.c_ValueReader, T.n_ValueReader_at, rfl, _, rfl, t, rfl, hz, _, _, rfl, rfl, _, rfl, ?_⟩
      have hle := (val_le _ _ _ _ hv).2
      refine ite2 (fun c => ?_) (fun c => ?_)
      · refine ⟨_, rfl, q2 ?_ _ s2⟩
        have := of_decide_eq_true c
        unfold wholeN; rw [hv]
        exact if_neg (by omega)
      · refine ⟨_, rfl, q1 d ?_ _ _ s2 (dv.same (hid_le x H2))⟩
        have : ¬ (e : Int) < (t.length : Nat) := fun z => c (decide_eq_true z)
        unfold wholeN; rw [hv]
        exact if_pos (by omega)
    · refine q2 ?_ _ (but_same hx s1 b2)
      unfold wholeN; rw [hv]
end
end K16

set_option Elab.async false
set_option linter.all false
set_option maxRecDepth 100000
set_option maxHeartbeats 4000000
namespace K16
open PySem PySem.Spec PyProof.Rows L2
theorem takes0 {X : Cx} : Takes X (fun _ _ _ _ => False) := fun _ _ x => by
  obtain ⟨_, _, _, _, _, _, _, _, _, _, _, _, _, _, _, _, z⟩ := x
  exact z.elim
section
variable {P : Program} {w : World} {K : PySem.W.Frag} {mg : Str → Option Value} {base : Heap} (T : Txt K mg)
include T
theorem ok_told : FnD P w K mg base CX0 623 (He.ga K "_law_told") T.d__law_told ["text"] (spTold K) := by
  have G_read_value := ok_read (P := P) (w := w) (base := base) T
  refine T.F__law_told.okD sc_law_told (k := 622) (fun vs H Q E h => ?_) (fun cdv A outer s H vs Q E hr h => ?_)
  · obtain ⟨t, rfl, _⟩ := h; rfl
  · obtain ⟨t, rfl, ht, q⟩ := h
    refine ⟨_, PSs.nox (pss_one (ps_try_only (tb := fun W => tRet (tLst (tCons (tCallS (spRead K) (WE W) (tCons (tVar 0) tNil)) tNil))) (ts := fun _ _ _ => tRet (tC .non)) (Wout := fun _ _ _ _ => False) rfl rfl ⟨rfl, by decide, Or.inl T.g_BadText⟩ takes0
   (fun W pn xe tk _ => pss_one (ps_ret (pe_lst (pa_cons (pe_callD G_read_value (hr.mono (by omega)) (by rfl) T.g_read_value T.F_read_value.kp T.b_read_value (fun σ => passAt tk σ) (pa_cons (pv 0) pa_nil)) pa_nil))))
   (fun _ _ _ _ _ _ _ => pss_one (ps_ret pe_non)))), ?_⟩
    refine ⟨_, rfl, t, rfl, ht, fun d hd H1 v s1 dv => ⟨(by show 1 ≤ sizeLine; decide), fun p hp => ?_⟩, fun hn H1 s1 => ⟨true, T.x_BadText, fun _ a ha => ?_, fun z => nomatch z⟩⟩
    · have e : resD t = .list [d] := by unfold resD; rw [hd]
      refine q _ _ (s1.upd_new (s1.free hp)) ?_
      rw [e]
      exact .lst (sql_new upd_same) (.cons (dv.same (Same.one hp)) .nil)
    · have e : resD t = .none := by unfold resD; rw [hn]
      refine q _ _ s1 ?_
      rw [e]; exact .non
end
end K16

set_option Elab.async false
set_option linter.all false
set_option maxRecDepth 100000
set_option maxHeartbeats 4000000
namespace K16
open PySem PySem.Spec PyProof.Rows L2
theorem dI (a b : Int) : decide (V.int a = V.int b) = decide (a = b) := by
  by_cases h : a = b
  · subst h; simp
  · have : V.int a ≠ V.int b := fun z => h (V.int.inj z)
    simp [h]
theorem list_is (b c : List Nat) (z : Str) (hz : z = toS c) : decide (V.str (toS b) = V.str z) = decide (b = c) := by
  rw [vS, hz]
  by_cases h : b = c
  · subst h; rw [decide_eq_true rfl, decide_eq_true rfl]
  · rw [decide_eq_false h, decide_eq_false]; exact fun q => h (toS_inj.mp q)
def isWl : List Nat → Bool
  | [c] => isW c
  | _ => false
def spWs : Sp := fun vs H Q _ => ∃ l : List Nat, vs = [.str (toS l)] ∧ l.length ≤ 1 ∧ Q (.bl (isWl l)) H
def bodyOf (tk : List Nat) : List Nat := if tk.head? = some 45 then tk.drop 1 else tk
def wt (tk : List Nat) : Bool := (bodyOf tk).all isD && numOk (decide (tk.head? = some 45)) (bodyOf tk)
def spWt : Sp := fun vs H Q _ => ∃ tk : List Nat, vs = [.str (toS tk)] ∧ tk.length ≤ 100000 ∧ ∀ H', Same H H' → Q (.bl (wt tk)) H'
theorem cut_to1 (tk : List Nat) : cutS (toS tk) none (some 1) = toS (tk.take 1) := by
  have e1 : HT.sIx (toS tk).length 0 none = 0 := rfl
  have e2 : HT.sIx (toS tk).length (toS tk).length (some 1) = min 1 (toS tk).length := HT.sIx_nat _ _ 1
  unfold cutS
  rw [e1, e2, toS_list, toS_len, List.drop_zero, Nat.sub_zero]
  cases tk with
  | nil => rfl
  | cons c l => rw [List.length_cons, Nat.min_eq_left (by omega)]; rfl
theorem cut_from1 (tk : List Nat) : cutS (toS tk) (some 1) none = toS (tk.drop 1) := by
  have e1 : HT.sIx (toS tk).length 0 (some 1) = min 1 (toS tk).length := HT.sIx_nat _ _ 1
  have e2 : HT.sIx (toS tk).length (toS tk).length none = (toS tk).length := rfl
  unfold cutS
  rw [e1, e2, toS_list, toS_len]
  cases tk with
  | nil => rfl
  | cons c l =>
    rw [List.length_cons, Nat.min_eq_left (by omega), List.drop_succ_cons, List.drop_zero, Nat.add_sub_cancel, List.take_length]
    rfl
theorem head_is (tk : List Nat) (z : Str) (hz : z = toS [45]) : decide (V.str (toS (tk.take 1)) = V.str z) = decide (tk.head? = some 45) := by
  rw [list_is _ [45] _ hz]
  cases tk with
  | nil => rfl
  | cons c l => simp
section
variable {P : Program} {w : World} {K : PySem.W.Frag} {mg : Str → Option Value} {base : Heap} (T : Txt K mg)
include T
theorem ok_ws : FnOk P w K mg base CX0 1 (He.ga K "_law_word_sign") T.d__law_word_sign ["sign"] spWs := by
  refine T.F__law_word_sign.ok sc_law_word_sign (fun vs H Q E h => ?_) (fun cdv A outer s H vs Q E hr h => ?_)
  · obtain ⟨l, rfl, _⟩ := h; rfl
  · obtain ⟨l, rfl, hl, q⟩ := h
    refine ⟨_, PSs.nox (pss_one (ps_ret (pe_and (pe_cmpR op_ne (pv 0) pe_str (nomark _)) (pe_one (pe_cmpR op_in_sign (pv 0) pe_str (by rfl)))))), ?_⟩
    refine ⟨_, rfl, rfl, ?_⟩
    rw [list_is l [] _ (by decide +kernel)]
    match l, hl with
    | [], _ => exact ⟨_, rfl, iteF q⟩
    | [c], _ => exact ⟨_, rfl, iteT ⟨_, rfl, c, WORDs, rfl, rfl, q⟩⟩
theorem ok_wt : FnOk P w K mg base CX0 1 (He.ga K "_law_whole_text") T.d__law_whole_text ["token"] spWt := by
  refine T.F__law_whole_text.ok sc_law_whole_text (fun vs H Q E h => ?_) (fun cdv A outer s H vs Q E hr h => ?_)
  · obtain ⟨tk, rfl, _⟩ := h; rfl
  · obtain ⟨tk, rfl, hl, q⟩ := h
    refine ⟨_, PSs.nox (pss_cons (ps_set (i := 1) sc_law_whole_text.nd rfl (.inl rfl) (pe_ifExp (pt_cmpR op_eq (pe_slice sl_str (pv 0) po_none (po_some pe_int)) pe_str (nomark _)) (pe_slice sl_str (pv 0) (po_some pe_int) po_none) (pv 0)))
    (pss_cons (ps_if (PW.pt (pw_or (pt_cmpR op_eq (pv 1) pe_str (nomark _)) (pw_or (pt_cmpR op_gt (pe_callB call_len_str (by rfl) T.len (by decide +kernel) (pa_cons (pv 1) pa_nil)) pe_int (nomark _)) (pw_or1 (pt_cmpR op_gt (pe_callB (r := rLenS K) call_len_seq (by rfl) T.len (by decide +kernel) (pa_cons (pe_lc (own := [("one", 2)]) (g := gName 2) (by rfl) sc_law_whole_text.nd (pi_str (pv 1)) (blkOk_by (own := [("one", 2)]) (N := ["token", "body", "one"]) (sc := defScope s_law_whole_text) (by decide +kernel)) (fun _ _ _ _ _ => (pg_name (i := 2) sc_law_whole_text.nd rfl (.inl rfl))) (fun _ _ _ _ _ => pts_one (pt_cmpR op_notIn_sign (pv 2) pe_str (by rfl))) (fun _ _ _ _ _ => (pv 2))) pa_nil)) pe_int (nomark _))))))
    (pss_one (ps_ret pe_bl))
    pss_nil)
    (pss_one (ps_ret (pe_or (pe_cmpR op_ne (pe_ix ix_str (pv 1) pe_int (fun _ _ => rfl)) pe_str (nomark _)) (pe_one (pe_cmpR op_eq (pv 0) pe_str (nomark _)))))))), ?_⟩
    have hline : (100000 : Nat) ≤ sizeLine := by decide
    have hb45 : (Str.ofString "-") = toS [45] := by decide +kernel
    have hb48 : (Str.ofString "0") = toS [48] := by decide +kernel
    have hb0 : (Str.ofString "") = toS [] := by decide +kernel
    refine ⟨_, rfl, ?_⟩
    dsimp only [tNoPart]
    refine ⟨_, rfl, _, rfl, (by rw [toS_len]; omega), rfl, _, rfl, ?_⟩
    rw [cut_to1, head_is _ _ hb45]
    unfold wt bodyOf at q
    cases hn : decide (tk.head? = some 45)
    case' true =>
      have hn' := of_decide_eq_true hn
      refine iteT ⟨_, rfl, 1, rfl, ?_⟩
      dsimp only [tNoPart]
      refine ⟨_, rfl, (by rw [toS_len]; omega), ?_⟩
      rw [cut_from1]
      rw [if_pos hn', hn] at q
      have htk0 : decide (V.str (toS tk) = V.str (Str.ofString "0")) = (!true && decide (tk.drop 1 = [48])) := by
        rw [list_is tk [48] _ hb48]
        refine decide_eq_false fun z => ?_
        rw [z] at hn'; simp at hn'
      have hlb : (tk.drop 1).length ≤ 100000 := by rw [List.length_drop]; omega
      revert q htk0 hlb
      generalize hbt : tk.drop 1 = b
      intro q htk0 hlb
    case' false =>
      have hn' := of_decide_eq_false hn
      refine iteF ⟨_, rfl, ?_⟩
      rw [if_neg hn', hn] at q
      have htk0 : decide (V.str (toS tk) = V.str (Str.ofString "0")) = (!false && decide (tk = [48])) := list_is tk [48] _ hb48
      have hlb : tk.length ≤ 100000 := hl
      obtain ⟨b, hbt⟩ : ∃ b, b = tk := ⟨_, rfl⟩
      subst hbt
    all_goals
      refine ⟨_, rfl, rfl, _, rfl, ?_⟩
      rw [list_is b [] _ hb0]
      cases b with
      | nil => exact iteT (iteT (q H (Same.refl H)))
      | cons c0 rest =>
        refine iteF ⟨_, rfl, _, rfl, (by rw [toS_len]; omega), _, _, rfl, rfl, _, rfl, ?_⟩
        rw [toS_len]
        have h1 : 1 ≤ (c0 :: rest).length := by simp
        revert q htk0 hlb h1
        generalize hbb : c0 :: rest = b
        intro q htk0 hlb h1
        unfold numOk at q
        rw [decide_eq_true h1] at q
        refine ite2 (fun c6 => ?_) (fun c6 => ?_)
        · have : ¬ b.length ≤ 6 := fun z => by have := of_decide_eq_true c6; omega
          rw [decide_eq_false this] at q
          refine iteT ?_
          have q' := q H (Same.refl H)
          simp only [Bool.and_false, Bool.false_and] at q'
          exact q'
        have h6 : b.length ≤ 6 := by
          rcases Nat.lt_or_ge 6 b.length with h | h
          · exact absurd (decide_eq_true (by omega)) c6
          · exact h
        rw [decide_eq_true h6] at q
        refine ⟨_, rfl, toS b, rfl, fun D hD => ?_⟩
        refine lc_it walk_str (LcS H D fun i => if (!decide ((toS b).cps.toList.getD i 0 ∈ DIGs.cps.toList)) then [V.str ⟨#[(toS b).cps.toList.getD i 0]⟩] else []) (LcS.zero hD fun _ => by split <;> simp) (fun _ _ _ _ => trivial) (fun i x H3 H4 hi hP hy => ?_) (fun H3 hP => ?_)
        · obtain ⟨rfl, c, hc, rfl⟩ := hy
          have ec : (toS b).cps.toList.getD i 0 = c := by rw [List.getD_eq_getElem?_getD, Array.getElem?_toList, hc]; rfl
          refine ⟨rfl, _, rfl, c, DIGs, rfl, rfl, _, rfl, ?_⟩
          refine ite2 (fun h1 => ?_) (fun h1 => ?_)
          · exact ⟨_, rfl, hP.yes hD (Same.refl _) (by rw [ec]; exact if_pos h1) (by have : (toS b).cps.size = b.length := toS_len b; omega)⟩
          · exact hP.no (Same.refl _) (by rw [ec]; exact if_neg h1)
        · have e := hP.2.1
          refine ⟨D, _, rfl, .inl (sql_new e), _, _, rfl, rfl, _, rfl, ?_⟩
          have k := flat_nil (fun i => !decide ((toS b).cps.toList.getD i 0 ∈ DIGs.cps.toList)) (fun i => V.str ⟨#[(toS b).cps.toList.getD i 0]⟩) (toS b).cps.size
          have hsz : (toS b).cps.size = b.length := toS_len b
          have eu : b.all isD = decide (((List.range (toS b).cps.size).flatMap fun i => if (!decide ((toS b).cps.toList.getD i 0 ∈ DIGs.cps.toList)) then [V.str ⟨#[(toS b).cps.toList.getD i 0]⟩] else []).length = 0) := by
            rw [Bool.eq_iff_iff, decide_eq_true_eq, k, hsz, toS_list, ← all_ix isD b 0]
            simp only [Bool.not_not]
            exact Iff.rfl
          have q' := q H3 hP.1
          rw [eu] at q'
          refine ite2 (fun c7 => ?_) (fun c7 => ?_)
          · have := of_decide_eq_true c7
            rw [decide_eq_false (by omega)] at q'
            exact q'
          · have : ((List.range (toS b).cps.size).flatMap fun i => if (!decide ((toS b).cps.toList.getD i 0 ∈ DIGs.cps.toList)) then [V.str ⟨#[(toS b).cps.toList.getD i 0]⟩] else []).length = 0 := by
              rcases Nat.eq_zero_or_pos ((List.range (toS b).cps.size).flatMap fun i => if (!decide ((toS b).cps.toList.getD i 0 ∈ DIGs.cps.toList)) then [V.str ⟨#[(toS b).cps.toList.getD i 0]⟩] else []).length with h | h
              · exact h
              · exact absurd (decide_eq_true (by omega)) c7
            rw [decide_eq_true this] at q'
            refine ⟨_, rfl, toS b, 0, c0, rfl, rfl, (by rw [toS_len]; omega), (by rw [toS_list, ← hbb]; exact atI_nat (j := 0) (v := c0) (xs := c0 :: rest) rfl), rfl, ?_⟩
            rw [one_is c0 48 _ hb48]
            have eh : decide (b.head? = some 48) = decide (c0 = 48) := by rw [← hbb]; simp
            rw [eh] at q'
            cases c48 : decide (c0 = 48) with
            | false =>
              rw [c48] at q'
              refine ⟨_, rfl, iteT ?_⟩
              simpa using q'
            | true =>
              rw [c48] at q'
              refine ⟨_, rfl, iteF ⟨_, rfl, rfl, ?_⟩⟩
              rw [htk0]
              have e48 : decide (b = [48]) = !decide (1 < b.length) := by
                rw [← hbb]
                have := of_decide_eq_true c48
                subst this
                cases rest <;> simp
              rw [e48]
              simpa using q'
end
end K16

set_option Elab.async false
set_option linter.all false
set_option maxRecDepth 100000
set_option maxHeartbeats 4000000
namespace K16
open PySem PySem.Spec PyProof.Rows L2
theorem cut_cons {cs : List Nat} {i c e : Nat} (h : cs[i]? = some c) (he : i < e) : cutN cs i e = c :: cutN cs (i + 1) e := by
  obtain ⟨hi, ec⟩ := List.getElem?_eq_some_iff.mp h
  unfold cutN
  have e1 : e - i = (e - (i + 1)) + 1 := by omega
  rw [List.drop_eq_getElem_cons hi, ec, e1, List.take_succ_cons]
theorem ok_nil (b : Bool) : numOk b [] = false := rfl
theorem ok_len {b : Bool} {ds : List Nat} (h : numOk b ds = true) : 1 ≤ ds.length ∧ ds.length ≤ 6 := by
  unfold numOk at h
  simp only [Bool.and_eq_true, decide_eq_true_eq] at h
  exact h.1
theorem dig_all (cs : List Nat) (i : Nat) : (numDs cs i).all isD = true := by
  rw [List.all_eq_true]
  exact fun c hc => isD_iff.mpr (num_dig cs i c hc)
theorem tok_num (cs : List Nat) (i : Nat) : (wt (cutN cs i (runE isD cs (i + 1))) = false → numN cs i = none) ∧
    (wt (cutN cs i (runE isD cs (i + 1))) = true → ∃ z, numN cs i = some (.int z, runE isD cs (i + 1)) ∧ intText? (toS (cutN cs i (runE isD cs (i + 1)))) = some z ∧ (cutN cs i (runE isD cs (i + 1))).length ≤ 7) := by
  have hge : i < runE isD cs (i + 1) := Nat.lt_of_lt_of_le (Nat.lt_succ_self i) runE_ge
  cases hc : cs[i]? with
  | none =>
    have e0 : cutN cs i (runE isD cs (i + 1)) = [] := cut0 hc _
    rw [e0]
    have hb : numB cs i = i := by unfold numB isNeg; rw [hc]; rfl
    have hd : numDs cs i = [] := by unfold numDs; rw [hb]; exact cut0 hc _
    refine ⟨fun _ => ?_, fun h => ?_⟩
    · unfold numN; rw [hd, ok_nil]; rfl
    · have : wt [] = false := rfl
      rw [this] at h; cases h
  | some c =>
    rw [cut_cons hc hge]
    by_cases h45 : c = 45
    · subst h45
      have hn : isNeg cs i = true := by unfold isNeg; rw [hc]; decide
      have hb : numB cs i = i + 1 := by unfold numB; rw [if_pos hn]
      have hE : numE cs i = runE isD cs (i + 1) := by unfold numE; rw [hb]
      have hd : numDs cs i = cutN cs (i + 1) (runE isD cs (i + 1)) := by unfold numDs; rw [hb, hE]
      have ew : wt (45 :: cutN cs (i + 1) (runE isD cs (i + 1))) = numOk true (numDs cs i) := by
        rw [← hd]
        have eb : bodyOf (45 :: numDs cs i) = numDs cs i := by unfold bodyOf; exact if_pos rfl
        unfold wt
        rw [eb, dig_all, Bool.true_and]
        rfl
      rw [ew]
      refine ⟨fun h => ?_, fun h => ?_⟩
      · unfold numN; rw [hn, h]; rfl
      · have hl := ok_len h
        refine ⟨-((NumText.digitsVal (numDs cs i) : Nat) : Int), ?_, ?_, ?_⟩
        · unfold numN numV; rw [hn, if_pos h, hE]; rfl
        · rw [← hd]
          refine intText_neg (cs := numDs cs i) (by rw [toS_list]) (num_dig cs i) (fun z => by rw [z] at hl; simp at hl) ?_
          rw [toS_len, List.length_cons]; omega
        · rw [← hd, List.length_cons]; omega
    · have hn : isNeg cs i = false := by unfold isNeg; rw [hc]; exact decide_eq_false fun z => h45 (Option.some.inj z)
      have hb : numB cs i = i := by unfold numB; rw [if_neg (by rw [hn]; decide)]
      have eb : bodyOf (c :: cutN cs (i + 1) (runE isD cs (i + 1))) = c :: cutN cs (i + 1) (runE isD cs (i + 1)) := by
        unfold bodyOf; rw [if_neg (fun z => h45 (by simpa using z))]
      have eh : decide ((c :: cutN cs (i + 1) (runE isD cs (i + 1))).head? = some 45) = false := decide_eq_false (fun z => h45 (by simpa using z))
      cases hdg : isD c with
      | true =>
        have hE : numE cs i = runE isD cs (i + 1) := by unfold numE; rw [hb, runE_yes hc hdg]
        have hd : numDs cs i = c :: cutN cs (i + 1) (runE isD cs (i + 1)) := by unfold numDs; rw [hb, hE, cut_cons hc hge]
        have ew : wt (c :: cutN cs (i + 1) (runE isD cs (i + 1))) = numOk false (numDs cs i) := by
          unfold wt; rw [eb, eh, ← hd, dig_all, Bool.true_and]
        rw [ew]
        refine ⟨fun h => ?_, fun h => ?_⟩
        · unfold numN; rw [hn, h]; rfl
        · have hl := ok_len h
          refine ⟨((NumText.digitsVal (numDs cs i) : Nat) : Int), ?_, ?_, ?_⟩
          · unfold numN numV; rw [hn, if_pos h, hE]; rfl
          · rw [← hd]; exact num_text (num_dig cs i) hl.1 (by omega)
          · rw [← hd]; omega
      | false =>
        have hE : numE cs i = i := by unfold numE; rw [hb, runE_no hc hdg]
        have hd : numDs cs i = [] := by unfold numDs cutN; rw [hb, hE, Nat.sub_self, List.take_zero]
        have ew : wt (c :: cutN cs (i + 1) (runE isD cs (i + 1))) = false := by
          unfold wt; rw [eb, List.all_cons, hdg]; rfl
        rw [ew]
        refine ⟨fun _ => ?_, fun h => nomatch h⟩
        unfold numN; rw [hd, ok_nil]; rfl
def spTaken (K : PySem.W.Frag) (n : Nat) : Sp := fun vs H Q _ => ∃ (t : Str) (i : Nat), vs = [.str t, .int (i : Nat), .int (n : Nat)] ∧ t.length ≤ 100000 ∧ (valN t.cps.toList n i = none → ∀ H', Same H H' → Q .non H') ∧
  (∀ d e, valN t.cps.toList n i = some (d, e) → ∀ H' q v, Same H H' → SqT K H' q [v, .int (e : Nat)] → Dp K H' v d → Q (.ref q) H')
theorem rCatA_one {K : PySem.W.Frag} {xs : List V} {v : V} {a b : Addr} {H : Hp} {Q : VK} (ha : SqT K H a xs) (hb : SqT K H b [v]) (hl : xs.length + 1 ≤ sizeLine) (h : ∀ r H', Same H H' → SqT K H' r (xs ++ [v]) → Q (.ref r) H') : rCatA K (.ref a) (.ref b) H Q := by
  refine ⟨a, b, xs, [v], rfl, rfl, ha, hb, hl, fun e => ?_, fun _ e => absurd e (by simp), fun _ _ p hp => h _ _ (Same.one hp) (sqt_new upd_same)⟩
  subst e
  exact h _ _ (Same.refl _) hb
theorem cutS_sgn2 (t : Str) (i : Nat) : cutS t (some ((i : Int) + 1)) (some ((i : Int) + 2)) = toS (sgn t.cps.toList (i + 1)) := by
  have := cutS_sgn t (i + 1)
  rw [Int.natCast_succ] at this
  rw [← this]
  congr 2
theorem dec3 (t : Str) (j n : Nat) : [V.str t, V.int (j : Nat), V.int (((n + 1 : Nat) : Int) - 1)] = [V.str t, V.int (j : Nat), V.int (n : Nat)] := by rw [show ((n + 1 : Nat) : Int) - 1 = (n : Nat) from by omega]
def spTk (K : PySem.W.Frag) : Nat → Sp
  | 0 => fun _ _ _ _ => False
  | m + 1 => spTaken K m
def E00 : L2.St → XK := fun _ _ _ _ => False
theorem pass00 {X : Cx} : ∀ σ, PassesAt CX0 X σ (E00 σ) := fun _ _ _ _ _ _ _ h => h.elim
section
variable {P : Program} {w : World} {K : PySem.W.Frag} {mg : Str → Option Value} {base : Heap} (T : Txt K mg)
include T
theorem taken_step (n : Nat) (G__law_taken : FnD P w K mg base CX0 n (He.ga K "_law_taken") T.d__law_taken ["text", "at", "deep"] (spTk K n)) :
    FnD P w K mg base CX0 (n + 1) (He.ga K "_law_taken") T.d__law_taken ["text", "at", "deep"] (spTaken K n) := by
  have G__law_word_sign := ok_ws (P := P) (w := w) (base := base) T
  have G__law_whole_text := ok_wt (P := P) (w := w) (base := base) T
  refine T.F__law_taken.okD sc_law_taken (fun vs H Q E h => ?_) (fun cdv A outer s H vs Q E hr h => ?_)
  · obtain ⟨t, i, rfl, _⟩ := h; rfl
  · obtain ⟨t, i, rfl, ht, q0, q1⟩ := h
    refine ⟨_, PSs.nox (pss_cons (ps_set (i := 3) sc_law_taken.nd rfl (.inl rfl) (pe_slice sl_str (pv 0) (po_some (pv 1)) (po_some (pe_op op_add (pv 1) pe_int))))
    (pss_cons (ps_if (PW.pt (pw_and (pt_val (pe_call G__law_word_sign (hr.room.mono (by omega)) (by rfl) T.g__law_word_sign T.F__law_word_sign.kp T.b__law_word_sign .nil pass0 (pa_cons (pv 3) pa_nil))) (pw_and1 (pt_cmpR op_notIn_sign (pv 3) pe_str (by rfl)))))
    (pss_cons (ps_set (i := 4) sc_law_taken.nd rfl (.inl rfl) (pv 1))
    (pss_cons (ps_while PassesOwn.never (PW.pt (pw_and (pt_cmpR op_lt (pv 4) (pe_callB call_len_str (by rfl) T.len (by decide +kernel) (pa_cons (pv 0) pa_nil)) (nomark _)) (pw_and1 (pt_val (pe_call G__law_word_sign (hr.room.mono (by omega)) (by rfl) T.g__law_word_sign T.F__law_word_sign.kp T.b__law_word_sign .nil pass0 (pa_cons (pe_ix ix_str (pv 0) (pv 4) (fun _ _ => rfl)) pa_nil))))))
    (pss_one (ps_set (i := 4) sc_law_taken.nd rfl (.inl rfl) (pe_op op_add (pv 4) pe_int))))
    (pss_one (ps_ret (pe_tup (pa_cons (pe_slice sl_str (pv 0) (po_some (pv 1)) (po_some (pv 4))) (pa_cons (pv 4) pa_nil)))))))
    pss_nil)
    (pss_cons (ps_if (pt_cmpR op_ne (pv 3) pe_str (nomark _))
    (pss_cons (ps_set (i := 4) sc_law_taken.nd rfl (.inl rfl) (pe_op op_add (pv 1) pe_int))
    (pss_cons (ps_while PassesOwn.never (PW.pt (pw_and (pt_cmpR op_lt (pv 4) (pe_callB call_len_str (by rfl) T.len (by decide +kernel) (pa_cons (pv 0) pa_nil)) (nomark _)) (pw_and1 (pt_cmpR op_in_sign (pe_ix ix_str (pv 0) (pv 4) (fun _ _ => rfl)) pe_str (by rfl)))))
    (pss_one (ps_set (i := 4) sc_law_taken.nd rfl (.inl rfl) (pe_op op_add (pv 4) pe_int))))
    (pss_one (ps_ret (pe_ifExp (pt_val (pe_call G__law_whole_text (hr.room.mono (by omega)) (by rfl) T.g__law_whole_text T.F__law_whole_text.kp T.b__law_whole_text .nil pass0 (pa_cons (pe_slice sl_str (pv 0) (po_some (pv 1)) (po_some (pv 4))) pa_nil))) (pe_tup (pa_cons (pe_callTy call_int_str (by rfl) T.int (by decide +kernel) (pa_cons (pe_slice sl_str (pv 0) (po_some (pv 1)) (po_some (pv 4))) pa_nil)) (pa_cons (pv 4) pa_nil))) pe_non)))))
    pss_nil)
    (pss_cons (ps_if (pt_cmpR op_eq (pv 2) pe_int (nomark _))
    (pss_one (ps_ret pe_non))
    pss_nil)
    (pss_cons (ps_if (pt_cmpR op_eq (pe_slice sl_str (pv 0) (po_some (pe_op op_add (pv 1) pe_int)) (po_some (pe_op op_add (pv 1) pe_int))) pe_str (nomark _))
    (pss_one (ps_ret (pe_tup (pa_cons (pe_tup pa_nil) (pa_cons (pe_op op_add (pv 1) pe_int) pa_nil)))))
    pss_nil)
    (pss_cons (ps_set (i := 5) sc_law_taken.nd rfl (.inl rfl) (pe_tup pa_nil))
    (pss_cons (ps_set (i := 6) sc_law_taken.nd rfl (.inl rfl) (pe_op op_add (pv 1) pe_int))
    (pss_one (ps_while PassesOwn.never (pt_val pe_bl)
    (pss_cons (ps_set (i := 7) sc_law_taken.nd rfl (.inl rfl) (pe_callD G__law_taken (hr.mono (by omega)) (by rfl) T.g__law_taken T.F__law_taken.kp T.b__law_taken pass00 (pa_cons (pv 0) (pa_cons (pv 6) (pa_cons (pe_op op_sub (pv 2) pe_int) pa_nil)))))
    (pss_cons (ps_if (pt_cmpR op_isN (pv 7) pe_non (nomark _))
    (pss_one (ps_ret pe_non))
    pss_nil)
    (pss_cons (ps_set (i := 5) sc_law_taken.nd rfl (.inl rfl) (pe_op (r := rCatA K) op_catA (pv 5) (pe_tup (pa_cons (pe_ix (r := rIxT K) ix_tup (pv 7) pe_int (fun _ _ => rfl)) pa_nil))))
    (pss_cons (ps_set (i := 6) sc_law_taken.nd rfl (.inl rfl) (pe_ix (r := rIxT K) ix_tup (pv 7) pe_int (fun _ _ => rfl)))
    (pss_cons (ps_if (pt_cmpR op_eq (pe_slice sl_str (pv 0) (po_some (pv 6)) (po_some (pe_op op_add (pv 6) pe_int))) pe_str (nomark _))
    (pss_one (ps_ret (pe_tup (pa_cons (pv 5) (pa_cons (pe_op op_add (pv 6) pe_int) pa_nil)))))
    pss_nil)
    (pss_cons (ps_if (pt_cmpR op_ne (pe_slice sl_str (pv 0) (po_some (pv 6)) (po_some (pe_op op_add (pv 6) pe_int))) pe_str (nomark _))
    (pss_one (ps_ret pe_non))
    pss_nil)
    (pss_one (ps_set (i := 6) sc_law_taken.nd rfl (.inl rfl) (pe_op op_add (pv 6) pe_int)))))))))))))))))), ?_⟩
    have hline : (100000 : Nat) ≤ sizeLine := by decide
    have hz : t.length ≤ sizeLine := Nat.le_trans ht hline
    have hcl : t.cps.toList.length = t.length := by simp [Str.length]
    have hb91 : (Str.ofString "[") = toS [91] := by decide +kernel
    have hb93 : (Str.ofString "]") = toS [93] := by decide +kernel
    have hb32 : (Str.ofString " ") = toS [32] := by decide +kernel
    refine ⟨_, rfl, _, rfl, _, rfl, _, rfl, _, _, rfl, rfl, _, rfl, t, rfl, hz, ?_⟩
    rw [cutS_sgn]
    have hsl : (sgn t.cps.toList i).length ≤ 1 := by unfold sgn; split <;> simp
    refine ⟨_, rfl, sgn t.cps.toList i, rfl, hsl, _, rfl, ?_⟩
    have hwl : isWl (sgn t.cps.toList i) = true → ∃ c, t.cps.toList[i]? = some c ∧ isW c = true := fun z => by
      unfold sgn at z
      cases q : t.cps.toList[i]? with
      | none => rw [q] at z; cases z
      | some c => rw [q] at z; exact ⟨c, rfl, z⟩
    cases hw : wordAt t.cps.toList i with
    | true =>
      obtain ⟨c, hc, hcw, hcd⟩ : ∃ c, t.cps.toList[i]? = some c ∧ isW c = true ∧ isD c = false := by
        unfold wordAt at hw
        cases q : t.cps.toList[i]? with
        | none => rw [q] at hw; cases hw
        | some c =>
          rw [q] at hw
          have := Bool.and_eq_true _ _ ▸ hw
          exact ⟨c, rfl, this.1, by simpa using this.2⟩
      have hs : sgn t.cps.toList i = [c] := by unfold sgn; rw [hc]
      rw [val_word hw] at q1
      have e0 : isWl (sgn t.cps.toList i) = true := by rw [hs]; exact hcw
      rw [e0]
      refine iteT ⟨_, rfl, c, DIGs, ?_, rfl, _, rfl, ?_⟩
      · rw [hs]; rfl
      have e2 : decide (c ∈ DIGs.cps.toList) = false := hcd
      rw [e2]
      refine iteT ⟨_, rfl, ?_⟩
      refine ⟨fun m σ H' => H' = H ∧ ∃ j, i ≤ j ∧ j ≤ t.cps.toList.length ∧ m = t.cps.toList.length - j ∧ σ = [some (.str t), some (.int (i : Nat)), some (.int (n : Nat)), some (.str (toS (sgn t.cps.toList i))), some (.int (j : Nat)), none, none, none] ∧ runE isW t.cps.toList j = runE isW t.cps.toList i, ⟨_, rfl, i, Nat.le_refl _, Nat.le_of_lt (List.getElem?_eq_some_iff.mp hc).1, rfl, rfl, rfl⟩, ?_⟩
      rintro m σ H' ⟨rfl, j, hij, hjl, rfl, rfl, he⟩
      have fin : runE isW t.cps.toList i = j → ∀ q : Addr, H' q = none → Q (.ref q) (upd H' q (.tup [.str (cutS t (some ((i : Nat) : Int)) (some ((j : Nat) : Int))), .int (j : Nat)])) := fun e q hq => by
        refine q1 _ _ rfl _ q (.str (cutS t (some ((i : Nat) : Int)) (some ((j : Nat) : Int)))) (Same.one hq) (by rw [e]; exact sqt_new upd_same) ?_
        rw [cutS_nat, e]; exact .str _
      refine ⟨_, rfl, _, rfl, t, rfl, hz, _, _, rfl, rfl, _, rfl, ?_⟩
      refine ite2 (fun c1 => ?_) (fun c1 => ?_)
      · have hj : j < t.cps.toList.length := by have := of_decide_eq_true c1; omega
        have hcj : t.cps.toList[j]? = some t.cps.toList[j] := List.getElem?_eq_getElem hj
        refine ⟨_, rfl, _, rfl, t, _, t.cps.toList[j], rfl, rfl, hz, atI_nat hcj, [t.cps.toList[j]], rfl, Nat.le_refl 1, _, rfl, ?_⟩
        have ew : isWl [t.cps.toList[j]] = isW t.cps.toList[j] := rfl
        rw [ew]
        cases hwj : isW t.cps.toList[j] with
        | true =>
          refine iteT ⟨fun σ' H1 => H1 = H' ∧ σ' = [some (.str t), some (.int (i : Nat)), some (.int (n : Nat)), some (.str (toS (sgn t.cps.toList i))), some (.int ((j + 1 : Nat) : Int)), none, none, none], fun σ' H1 w => ⟨_, by omega, w.1, j + 1, by omega, by omega, rfl, w.2, by rw [← runE_yes hcj hwj]; exact he⟩, ?_⟩
          exact ⟨_, rfl, _, _, rfl, rfl, rfl, rfl⟩
        | false =>
          refine iteF ⟨_, rfl, _, rfl, _, rfl, _, rfl, _, rfl, t, rfl, hz, _, rfl, (by show 2 ≤ sizeLine; decide), fun q hq => fin ?_ q hq⟩
          rw [← he]; exact runE_no hcj hwj
      · have hj : j = t.cps.toList.length := by
          rcases Nat.lt_or_ge j t.cps.toList.length with h | h
          · exact absurd (decide_eq_true (by omega)) c1
          · omega
        refine iteF ⟨_, rfl, _, rfl, _, rfl, _, rfl, _, rfl, t, rfl, hz, _, rfl, (by show 2 ≤ sizeLine; decide), fun q hq => fin ?_ q hq⟩
        rw [← he]; exact runE_end (List.getElem?_eq_none_iff.mpr (by omega))
    | false =>
      have hnw : isWl (sgn t.cps.toList i) = false ∨ (isWl (sgn t.cps.toList i) = true ∧ ∃ c, t.cps.toList[i]? = some c ∧ isD c = true) := by
        cases q : isWl (sgn t.cps.toList i) with
        | false => exact .inl rfl
        | true =>
          obtain ⟨c, hc, hcw⟩ := hwl q
          refine .inr ⟨rfl, c, hc, ?_⟩
          have hw2 : (isW c && !isD c) = false := by
            have := hw
            unfold wordAt at this; rw [hc] at this; exact this
          rw [hcw] at hw2
          cases q2 : isD c
          · rw [q2] at hw2; cases hw2
          · rfl
      rcases hnw with hnw | ⟨hnw, c, hc, hcd⟩
      case' inl =>
        rw [hnw]
        refine iteF (iteF ?_)
      case' inr =>
        rw [hnw]
        have hs : sgn t.cps.toList i = [c] := by unfold sgn; rw [hc]
        refine iteT ⟨_, rfl, c, DIGs, (by rw [hs]; rfl), rfl, _, rfl, ?_⟩
        have e2 : decide (c ∈ DIGs.cps.toList) = true := hcd
        rw [e2]
        refine iteF ?_
      all_goals
        refine ⟨_, rfl, rfl, _, rfl, ?_⟩
        rw [sgn_is _ _ 91 _ hb91]
        cases h91 : decide (t.cps.toList[i]? = some 91)
      case' inl.false | inr.false =>
        have h91' := of_decide_eq_false h91
        rw [val_num hw h91'] at q0 q1
        have hn := tok_num t.cps.toList i
        refine iteT ⟨_, rfl, _, _, rfl, rfl, ?_⟩
        refine ⟨fun m σ H' => H' = H ∧ ∃ j, i ≤ j ∧ m = t.cps.toList.length - j ∧ σ = [some (.str t), some (.int (i : Nat)), some (.int (n : Nat)), some (.str (toS (sgn t.cps.toList i))), some (.int (j : Nat)), none, none, none] ∧ runE isD t.cps.toList j = runE isD t.cps.toList (i + 1), ⟨_, rfl, i + 1, by omega, rfl, rfl, rfl⟩, ?_⟩
        rintro m σ H' ⟨rfl, j, hij, rfl, rfl, he⟩
        refine ⟨_, rfl, _, rfl, t, rfl, hz, _, _, rfl, rfl, _, rfl, ?_⟩
        refine ite2 (fun c1 => ?_) (fun c1 => ?_)
        · have hj : j < t.cps.toList.length := by have := of_decide_eq_true c1; omega
          have hcj : t.cps.toList[j]? = some t.cps.toList[j] := List.getElem?_eq_getElem hj
          refine ⟨_, rfl, _, rfl, t, _, t.cps.toList[j], rfl, rfl, hz, atI_nat hcj, t.cps.toList[j], DIGs, rfl, rfl, _, rfl, ?_⟩
          have ew : decide (t.cps.toList[j] ∈ DIGs.cps.toList) = isD t.cps.toList[j] := rfl
          rw [ew]
          cases hwj : isD t.cps.toList[j] with
          | true =>
            refine iteT ⟨fun σ' H1 => H1 = H' ∧ σ' = [some (.str t), some (.int (i : Nat)), some (.int (n : Nat)), some (.str (toS (sgn t.cps.toList i))), some (.int ((j + 1 : Nat) : Int)), none, none, none], fun σ' H1 w => ⟨_, by omega, w.1, j + 1, by omega, rfl, w.2, by rw [← runE_yes hcj hwj]; exact he⟩, ?_⟩
            exact ⟨_, rfl, _, _, rfl, rfl, rfl, rfl⟩
          | false =>
            have he2 : runE isD t.cps.toList (i + 1) = j := by rw [← he]; exact runE_no hcj hwj
            refine iteF ?_
            refine ⟨_, rfl, _, rfl, _, rfl, _, rfl, _, rfl, t, rfl, hz, cutN t.cps.toList i j, (by rw [cutS_nat]; rfl), (by unfold cutN; rw [List.length_take, List.length_drop]; omega), fun H1 s1 => ⟨_, rfl, ?_⟩⟩
            rw [he2] at hn
            cases hwt : wt (cutN t.cps.toList i j) with
            | false => exact iteF (q0 (hn.1 hwt) _ s1)
            | true =>
              obtain ⟨z, hz1, hz2, hz3⟩ := hn.2 hwt
              refine iteT ⟨_, rfl, _, rfl, _, rfl, _, rfl, _, rfl, t, rfl, hz, _, z, rfl, (by rw [cutS_nat]; exact hz2), (by rw [cutS_nat, toS_len]; omega), _, rfl, (by show 2 ≤ sizeLine; decide), fun q hq => q1 _ _ hz1 _ q _ (s1.upd_new (s1.free hq)) (sqt_new upd_same) (.int z)⟩
        · have hj : t.cps.toList.length ≤ j := by
            rcases Nat.lt_or_ge j t.cps.toList.length with h | h
            · exact absurd (decide_eq_true (by omega)) c1
            · exact h
          have he2 : runE isD t.cps.toList (i + 1) = j := by rw [← he]; exact runE_end (List.getElem?_eq_none_iff.mpr hj)
          refine iteF ?_
          refine ⟨_, rfl, _, rfl, _, rfl, _, rfl, _, rfl, t, rfl, hz, cutN t.cps.toList i j, (by rw [cutS_nat]; rfl), (by unfold cutN; rw [List.length_take, List.length_drop]; omega), fun H1 s1 => ⟨_, rfl, ?_⟩⟩
          rw [he2] at hn
          cases hwt : wt (cutN t.cps.toList i j) with
          | false => exact iteF (q0 (hn.1 hwt) _ s1)
          | true =>
            obtain ⟨z, hz1, hz2, hz3⟩ := hn.2 hwt
            refine iteT ⟨_, rfl, _, rfl, _, rfl, _, rfl, _, rfl, t, rfl, hz, _, z, rfl, (by rw [cutS_nat]; exact hz2), (by rw [cutS_nat, toS_len]; omega), _, rfl, (by show 2 ≤ sizeLine; decide), fun q hq => q1 _ _ hz1 _ q _ (s1.upd_new (s1.free hq)) (sqt_new upd_same) (.int z)⟩
      all_goals
        have hc9 := of_decide_eq_true h91
        refine iteF ⟨_, rfl, rfl, _, rfl, ?_⟩
        cases n with
        | zero =>
          refine iteT (q0 ?_ H (Same.refl H))
          rw [valN, if_neg (by rw [hw]; decide), if_pos hc9]
        | succ n =>
          have e0 : decide (V.int ((n + 1 : Nat) : Int) = V.int 0) = false := decide_eq_false fun z => by have := V.int.inj z; omega
          rw [e0]
          have hv : valN t.cps.toList (n + 1) i = partsN (valN t.cps.toList n) t.cps.toList (i + 1) := by rw [valN, if_neg (by rw [hw]; decide), if_pos hc9]
          rw [hv] at q0 q1
          refine iteF ⟨_, rfl, _, rfl, _, _, rfl, rfl, _, rfl, _, rfl, _, _, rfl, rfl, _, rfl, t, rfl, hz, rfl, _, rfl, ?_⟩
          rw [cutS_sgn2, sgn_is _ _ 93 _ hb93]
          unfold partsN at q0 q1
          cases h93 : decide (t.cps.toList[i + 1]? = some 93) with
          | true =>
            rw [if_pos (of_decide_eq_true h93)] at q1
            refine iteT ⟨(by show 0 ≤ sizeLine; decide), fun p0 hp0 => ⟨_, rfl, _, _, rfl, rfl, (by show 2 ≤ sizeLine; decide), fun q hq => ?_⟩⟩
            have s0 : Same H (upd H p0 (.tup [])) := Same.one hp0
            refine q1 _ _ rfl _ q (.ref p0) (s0.upd_new (s0.free hq)) ?_ ?_
            · rw [show (((i + 1 + 1 : Nat)) : Int) = (i : Int) + 2 from by omega]
              exact sqt_new upd_same
            · have d0 : Dp K (upd H p0 (.tup [])) (.ref p0) (.tuple []) := .tup (sqt_new upd_same) .nil
              exact d0.same (Same.one hq)
          | false =>
            rw [if_neg (of_decide_eq_false h93)] at q0 q1
            refine iteF ⟨(by show 0 ≤ sizeLine; decide), fun p0 hp0 => ⟨_, rfl, _, _, rfl, rfl, ?_⟩⟩
            refine ⟨fun m σ H' => ∃ (j : Nat) (acc : List PyData) (vs : List V) (p : Addr) (c : Option V), σ = [some (.str t), some (.int (i : Nat)), some (.int (n + 1 : Nat)), some (.str (toS (sgn t.cps.toList i))), none, some (.ref p), some (.int (j : Nat)), c] ∧ Same H H' ∧ SqT K H' p vs ∧ DpAll K H' vs acc ∧
              t.cps.toList.length < j + m ∧ vs.length ≤ j ∧ manyN (valN t.cps.toList n) t.cps.toList m j acc = manyN (valN t.cps.toList n) t.cps.toList (t.cps.toList.length + 1) (i + 1) [], ⟨t.cps.toList.length + 1, i + 1, [], [], p0, none, rfl, Same.one hp0, sqt_new upd_same, .nil, by omega, Nat.zero_le _, rfl⟩, ?_⟩
            rintro m σ H' ⟨j, acc, vs, p, c, rfl, s1, hp, dv, hm, hvl, hmany⟩
            rw [← hmany] at q0 q1
            refine ⟨_, rfl, iteT ⟨fun σ' H2 => ∃ m', m' < m ∧ ∃ (j : Nat) (acc : List PyData) (vs : List V) (p : Addr) (c : Option V), σ' = [some (.str t), some (.int (i : Nat)), some (.int (n + 1 : Nat)), some (.str (toS (sgn t.cps.toList i))), none, some (.ref p), some (.int (j : Nat)), c] ∧ Same H H2 ∧ SqT K H2 p vs ∧ DpAll K H2 vs acc ∧
              t.cps.toList.length < j + m' ∧ vs.length ≤ j ∧ manyN (valN t.cps.toList n) t.cps.toList m' j acc = manyN (valN t.cps.toList n) t.cps.toList (t.cps.toList.length + 1) (i + 1) [], fun _ _ w => w, ?_⟩⟩
            refine ⟨_, rfl, _, rfl, _, rfl, _, _, rfl, rfl, t, j, dec3 t j n, ht, fun hv H2 s2 => ?_, fun d e hv H2 q v s2 hq dd => ?_⟩
            · have hman : manyN (valN t.cps.toList n) t.cps.toList m j acc = none := by rw [many_aft hm, hv]
              refine ⟨_, rfl, rfl, _, rfl, ?_⟩
              rw [decide_eq_true rfl]
              exact iteT (q0 hman _ (s1.trans s2))
            · have hman : manyN (valN t.cps.toList n) t.cps.toList m j acc = aftN (valN t.cps.toList n) t.cps.toList (m - 1) e (acc ++ [d]) := by rw [many_aft hm, hv]
              rw [hman] at q0 q1
              have hle := val_le _ _ _ _ hv
              refine ⟨_, rfl, rfl, _, rfl, ?_⟩
              have e7 : decide (V.ref q = V.non) = false := decide_eq_false (fun z => nomatch z)
              rw [e7]
              refine iteF ⟨_, rfl, _, rfl, _, _, 0, v, rfl, rfl, hq, atI_nat (j := 0) rfl, (by show 1 ≤ sizeLine; decide), fun b hb => ?_⟩
              have s3 : Same H2 (upd H2 b (.tup [v])) := Same.one hb
              refine rCatA_one (s3.sqt (s2.sqt hp)) (sqt_new upd_same) (by omega) (fun r H5 s5 hr => ?_)
              have hq5 := s5.sqt (s3.sqt hq)
              have dall : DpAll K H5 (vs ++ [v]) (acc ++ [d]) := ((dv.same s2).app (.cons dd .nil)).same (s3.trans s5)
              have sH : Same H H5 := s1.trans (s2.trans (s3.trans s5))
              refine ⟨_, rfl, _, _, 1, _, rfl, rfl, hq5, atI_nat (j := 1) rfl, ?_⟩
              refine ⟨_, rfl, _, rfl, _, rfl, _, rfl, _, _, rfl, rfl, _, rfl, t, rfl, hz, rfl, _, rfl, ?_⟩
              rw [cutS_sgn, sgn_is _ _ 93 _ hb93]
              unfold aftN at q0 q1
              cases g93 : decide (t.cps.toList[e]? = some 93) with
              | true =>
                rw [if_pos (of_decide_eq_true g93)] at q1
                refine iteT ⟨_, rfl, _, rfl, _, _, rfl, rfl, (by show 2 ≤ sizeLine; decide), fun q' hq' => ?_⟩
                refine q1 _ _ rfl _ q' (.ref r) (sH.trans (Same.one hq')) (sqt_new upd_same) ?_
                exact Dp.same (.tup hr dall) (Same.one hq')
              | false =>
                rw [if_neg (of_decide_eq_false g93)] at q0 q1
                refine iteF ⟨_, rfl, _, rfl, _, rfl, _, rfl, _, _, rfl, rfl, _, rfl, t, rfl, hz, rfl, _, rfl, ?_⟩
                rw [cutS_sgn, sgn_is _ _ 32 _ hb32]
                cases g32 : decide (t.cps.toList[e]? = some 32) with
                | false =>
                  rw [if_neg (of_decide_eq_false g32)] at q0
                  exact iteT (q0 rfl _ sH)
                | true =>
                  refine iteF ⟨_, rfl, _, _, rfl, rfl, ?_⟩
                  refine ⟨m - 1, by omega, e + 1, _, _, r, _, rfl, sH, hr, dall, by omega, by rw [List.length_append]; simp; omega, ?_⟩
                  rw [← hmany, hman]
                  unfold aftN
                  rw [if_neg (of_decide_eq_false g93), if_pos (of_decide_eq_true g32)]
theorem ok_taken : ∀ n, FnD P w K mg base CX0 (n + 1) (He.ga K "_law_taken") T.d__law_taken ["text", "at", "deep"] (spTaken K n)
  | 0 => taken_step T 0 ⟨fun _ _ _ _ h => h.elim, fun _ _ _ _ _ _ _ _ _ _ _ _ _ h => h.elim⟩
  | n + 1 => taken_step T (n + 1) (ok_taken n)
end
end K16

set_option Elab.async false
set_option linter.all false
set_option maxRecDepth 100000
set_option maxHeartbeats 4000000
namespace K16
open PySem PySem.Spec PyProof.Rows L2
def rIxA (K : PySem.W.Frag) : R2 := fun x y H Q => ∃ p xs i v, x = .ref p ∧ y = .int i ∧ (SqL K H p xs ∨ SqT K H p xs) ∧ atI xs i = some v ∧ Q v H
theorem ix_any {X : Cx} : IxR X (rIxA X.K) := by
  intro value slice pins s σ H x y v u Q I rx ry h hs
  obtain ⟨p, xs, i, z, e1, e2, hq, he, q⟩ := h
  rcases hq with hq | hq
  · exact ix_list value slice pins s σ H x y v u Q I rx ry ⟨p, xs, i, z, e1, e2, hq, he, q⟩ hs
  · exact ix_tup value slice pins s σ H x y v u Q I rx ry ⟨p, xs, i, z, e1, e2, hq, he, q⟩ hs
/-- its texts are short and sound -/
inductive Sml : PyData → Prop where
  | non : Sml .none
  | bl (b : Bool) : Sml (.bool b)
  | int (i : Int) : Sml (.int i)
  | str {x : Str} (o : PyData.strOk x = true) : Sml (.str x)
  | lst {ds : List PyData} (l : ds.length ≤ 100000) (h : ∀ d ∈ ds, Sml d) : Sml (.list ds)
  | tup {ds : List PyData} (l : ds.length ≤ 100000) (h : ∀ d ∈ ds, Sml d) : Sml (.tuple ds)
  | dict (k : List (PyData × PyData)) : Sml (.dict k)
theorem Sml.tupIn {ds : List PyData} (h : Sml (.tuple ds)) : ∀ d ∈ ds, Sml d := by cases h; assumption
theorem Sml.tupLen {ds : List PyData} (h : Sml (.tuple ds)) : ds.length ≤ 100000 := by cases h; assumption
theorem Sml.lstIn {ds : List PyData} (h : Sml (.list ds)) : ∀ d ∈ ds, Sml d := by cases h; assumption
mutual
theorem lay0 {K : PySem.W.Frag} {H : Hp} : ∀ (d : PyData) (v : V), Dp K H v d → Sml d → d.canLay0 = true
  | .none, _, _, _ => by rw [PyData.canLay0]
  | .bool b, _, _, _ => by rw [PyData.canLay0]
  | .int i, _, _, _ => by rw [PyData.canLay0]
  | .str x, _, _, s => by rw [PyData.canLay0]; cases s; assumption
  | .list ds, _, h, s => by cases h with | lst hs ha => rw [PyData.canLay0]; exact lay0s ds _ ha s.lstIn
  | .tuple ds, _, h, s => by cases h with | tup hs ha => rw [PyData.canLay0]; exact lay0s ds _ ha s.tupIn
  | .dict _, _, h, _ => by cases h
theorem lay0s {K : PySem.W.Frag} {H : Hp} : ∀ (ds : List PyData) (vs : List V), DpAll K H vs ds → (∀ d ∈ ds, Sml d) → PyData.canLayAll0 ds = true
  | [], _, _, _ => by rw [PyData.canLayAll0]
  | d :: ds, _, h, s => by
    cases h with
    | cons h1 h2 => rw [PyData.canLayAll0, lay0 d _ h1 (s d List.mem_cons_self), lay0s ds _ h2 fun e he => s e (List.mem_cons_of_mem _ he)]; rfl
end
theorem dp_cons {d : PyData} {l : List PyData} : PyData.depthAll (d :: l) = max d.depth (PyData.depthAll l) := by rw [PyData.depthAll]
mutual
theorem eqv_refl : ∀ (d : PyData), d.canLay0 = true → PyData.eqv d d = true
  | .none, _ => by rw [PyData.eqv]
  | .bool b, _ => by rw [PyData.eqv]; simp
  | .int i, _ => by rw [PyData.eqv]; simp
  | .str x, _ => by rw [PyData.eqv]; simp
  | .list ds, h => by rw [PyData.eqv]; exact eqvs_refl ds (by rwa [PyData.canLay0] at h)
  | .tuple ds, h => by rw [PyData.eqv]; exact eqvs_refl ds (by rwa [PyData.canLay0] at h)
  | .dict _, h => by rw [PyData.canLay0] at h; cases h
theorem eqvs_refl : ∀ (ds : List PyData), PyData.canLayAll0 ds = true → PyData.eqvAll ds ds = true
  | [], _ => by rw [PyData.eqvAll]
  | d :: ds, h => by
    rw [PyData.canLayAll0, Bool.and_eq_true] at h
    rw [PyData.eqvAll, eqv_refl d h.1, eqvs_refl ds h.2]; rfl
end
theorem depth_in : ∀ {ds : List PyData} {d : PyData}, d ∈ ds → d.depth ≤ PyData.depthAll ds
  | e :: ds, d, h => by
    rw [dp_cons]
    rcases List.mem_cons.mp h with h | h
    · subst h; omega
    · have := depth_in h; omega
def spSame (K : PySem.W.Frag) (n : Nat) : Sp := fun vs H Q _ => ∃ (v1 v2 : V) (d : PyData), vs = [v1, v2] ∧ d.depth < n ∧ Sml d ∧ Dp K H v1 d ∧ Dp K H v2 d ∧ ∀ H', Same H H' → Q (.bl true) H'
theorem nat_pos_flat {α : Type} (n : Nat) (c : Nat → List α) (h : ∀ i, i < n → c i = []) : (List.range n).flatMap c = [] := by
  rw [List.flatMap_eq_nil_iff]
  exact fun i hi => h i (List.mem_range.mp hi)
section
variable {P : Program} {w : World} {K : PySem.W.Frag} {mg : Str → Option Value} {base : Heap} (T : Txt K mg)
include T
theorem same_step (n : Nat) (G__law_same : FnD P w K mg base CX0 (n + 1) (He.ga K "_law_same") T.d__law_same ["actual", "due"] (spSame K n)) :
    FnD P w K mg base CX0 (n + 2) (He.ga K "_law_same") T.d__law_same ["actual", "due"] (spSame K (n + 1)) := by
  refine T.F__law_same.okD sc_law_same (fun vs H Q E h => ?_) (fun cdv A outer s H vs Q E hr h => ?_)
  · obtain ⟨v1, v2, d, rfl, _⟩ := h; rfl
  · obtain ⟨v1, v2, d, rfl, hdep, hs, d1, d2, q⟩ := h
    refine ⟨_, PSs.nox (pss_cons (ps_if (PW.pt (pw_or (pt_val (pe_callB (r := rIsi K) call_isi (by rfl) T.isinstance (by decide +kernel) (pa_cons (pv 1) (pa_cons (pe_bltn (v := .ty "tuple") rfl T.tuple (by decide +kernel) rfl) pa_nil)))) (pw_or1 (pt_val (pe_callB (r := rIsi K) call_isi (by rfl) T.isinstance (by decide +kernel) (pa_cons (pv 1) (pa_cons (pe_bltn (v := .ty "list") rfl T.list (by decide +kernel) rfl) pa_nil)))))))
    (pss_cons (ps_if (PW.pt (pw_or (pt_cmpR op_ne (pe_callB (r := rIsi K) call_isi (by rfl) T.isinstance (by decide +kernel) (pa_cons (pv 1) (pa_cons (pe_bltn (v := .ty "tuple") rfl T.tuple (by decide +kernel) rfl) pa_nil))) (pe_callB (r := rIsi K) call_isi (by rfl) T.isinstance (by decide +kernel) (pa_cons (pv 0) (pa_cons (pe_bltn (v := .ty "tuple") rfl T.tuple (by decide +kernel) rfl) pa_nil))) (nomark _)) (pw_or (pt_cmpR op_ne (pe_callB (r := rIsi K) call_isi (by rfl) T.isinstance (by decide +kernel) (pa_cons (pv 1) (pa_cons (pe_bltn (v := .ty "list") rfl T.list (by decide +kernel) rfl) pa_nil))) (pe_callB (r := rIsi K) call_isi (by rfl) T.isinstance (by decide +kernel) (pa_cons (pv 0) (pa_cons (pe_bltn (v := .ty "list") rfl T.list (by decide +kernel) rfl) pa_nil))) (nomark _)) (pw_or1 (pt_cmpR op_ne (pe_callB (r := rLenS K) call_len_seq (by rfl) T.len (by decide +kernel) (pa_cons (pv 0) pa_nil)) (pe_callB (r := rLenS K) call_len_seq (by rfl) T.len (by decide +kernel) (pa_cons (pv 1) pa_nil)) (nomark _))))))
    (pss_one (ps_ret pe_bl))
    pss_nil)
    (pss_one (ps_ret (pe_cmpR op_eq (pe_callB (r := rLenS K) call_len_seq (by rfl) T.len (by decide +kernel) (pa_cons (pe_lc (own := [("k", 2)]) (g := gName 2) (by rfl) sc_law_same.nd (pi_range1 (by rfl) T.range (pa_cons (pe_callB (r := rLenS K) call_len_seq (by rfl) T.len (by decide +kernel) (pa_cons (pv 1) pa_nil)) pa_nil)) (blkOk_by (own := [("k", 2)]) (N := ["actual", "due", "k"]) (sc := defScope s_law_same) (by decide +kernel)) (fun _ _ _ _ _ => (pg_name (i := 2) sc_law_same.nd rfl (.inl rfl))) (fun _ _ _ _ _ => pts_one (pt_not (pt_val (pe_callD G__law_same (hr.mono (by omega)) (by rfl) T.g__law_same T.F__law_same.kp T.b__law_same pass00 (pa_cons (pe_ix (r := rIxA K) ix_any (pv 0) (pv 2) (fun _ _ => rfl)) (pa_cons (pe_ix (r := rIxA K) ix_any (pv 1) (pv 2) (fun _ _ => rfl)) pa_nil)))))) (fun _ _ _ _ _ => (pv 2))) pa_nil)) pe_int (nomark _)))))
    pss_nil)
    (pss_cons (ps_if (pt_cmpR op_isN (pv 1) pe_non (nomark _))
    (pss_one (ps_ret (pe_cmpR op_isN (pv 0) pe_non (nomark _))))
    pss_nil)
    (pss_cons (ps_if (PW.pt (pw_or (pt_val (pe_callB (r := rIsi K) call_isi (by rfl) T.isinstance (by decide +kernel) (pa_cons (pv 1) (pa_cons (pe_bltn (v := .ty "bool") rfl T.bool (by decide +kernel) rfl) pa_nil)))) (pw_or1 (pt_val (pe_callB (r := rIsi K) call_isi (by rfl) T.isinstance (by decide +kernel) (pa_cons (pv 0) (pa_cons (pe_bltn (v := .ty "bool") rfl T.bool (by decide +kernel) rfl) pa_nil)))))))
    (pss_one (ps_ret (pe_and (pe_callB (r := rIsi K) call_isi (by rfl) T.isinstance (by decide +kernel) (pa_cons (pv 1) (pa_cons (pe_bltn (v := .ty "bool") rfl T.bool (by decide +kernel) rfl) pa_nil))) (pe_and (pe_callB (r := rIsi K) call_isi (by rfl) T.isinstance (by decide +kernel) (pa_cons (pv 0) (pa_cons (pe_bltn (v := .ty "bool") rfl T.bool (by decide +kernel) rfl) pa_nil))) (pe_one (pe_cmpR (r := rEqM K) (op_eqM hr.room.units) (pv 0) (pv 1) (nomark _)))))))
    pss_nil)
    (pss_cons (ps_if (pt_val (pe_callB (r := rIsi K) call_isi (by rfl) T.isinstance (by decide +kernel) (pa_cons (pv 1) (pa_cons (pe_bltn (v := .ty "int") rfl T.int (by decide +kernel) rfl) pa_nil))))
    (pss_one (ps_ret (pe_and (pe_callB (r := rIsi K) call_isi (by rfl) T.isinstance (by decide +kernel) (pa_cons (pv 0) (pa_cons (pe_bltn (v := .ty "int") rfl T.int (by decide +kernel) rfl) pa_nil))) (pe_one (pe_cmpR (r := rEqM K) (op_eqM hr.room.units) (pv 0) (pv 1) (nomark _))))))
    pss_nil)
    (pss_one (ps_ret (pe_and (pe_callB (r := rIsi K) call_isi (by rfl) T.isinstance (by decide +kernel) (pa_cons (pv 0) (pa_cons (pe_bltn (v := .ty "str") rfl T.str (by decide +kernel) rfl) pa_nil))) (pe_and (pe_callB (r := rIsi K) call_isi (by rfl) T.isinstance (by decide +kernel) (pa_cons (pv 1) (pa_cons (pe_bltn (v := .ty "str") rfl T.str (by decide +kernel) rfl) pa_nil))) (pe_one (pe_cmpR (r := rEqM K) (op_eqM hr.room.units) (pv 0) (pv 1) (nomark _))))))))))), ?_⟩
    have hl := lay0 d _ d1 hs
    cases d with
    | none =>
      cases d1; cases d2
      exact ⟨_, rfl, _, _, _, _, false, rfl, .ty _, .base .non, ki_tup .none, _, rfl, iteF ⟨_, rfl, _, _, _, _, false, rfl, .ty _, .base .non, ki_lst .none, _, rfl, iteF ⟨_, rfl, rfl, _, rfl, iteT ⟨_, rfl, rfl, q H (Same.refl H)⟩⟩⟩⟩
    | bool b =>
      cases d1; cases d2
      refine ⟨_, rfl, _, _, _, _, false, rfl, .ty _, .base (.bl b), ki_tup (.bool b), _, rfl, iteF ⟨_, rfl, _, _, _, _, false, rfl, .ty _, .base (.bl b), ki_lst (.bool b), _, rfl, iteF ⟨_, rfl, rfl, _, rfl, iteF ⟨_, rfl, _, _, _, _, true, rfl, .ty _, .base (.bl b), ki_bool (.bool b), _, rfl, iteT ?_⟩⟩⟩⟩
      refine ⟨_, rfl, _, _, _, _, true, rfl, .ty _, .base (.bl b), ki_bool (.bool b), _, rfl, iteT ⟨_, rfl, _, _, _, _, true, rfl, .ty _, .base (.bl b), ki_bool (.bool b), _, rfl, iteT ⟨_, rfl, _, rfl, .bool b, .bool b, .bl b, .bl b, hl, hl, (by rw [PyData.depth]; decide), ?_⟩⟩⟩
      rw [eqv_refl _ hl]; exact q H (Same.refl H)
    | int i =>
      cases d1; cases d2
      refine ⟨_, rfl, _, _, _, _, false, rfl, .ty _, .base (.int i), ki_tup (.int i), _, rfl, iteF ⟨_, rfl, _, _, _, _, false, rfl, .ty _, .base (.int i), ki_lst (.int i), _, rfl, iteF ⟨_, rfl, rfl, _, rfl, iteF ⟨_, rfl, _, _, _, _, false, rfl, .ty _, .base (.int i), ki_bool (.int i), _, rfl, iteF ?_⟩⟩⟩⟩
      refine ⟨_, rfl, _, _, _, _, false, rfl, .ty _, .base (.int i), ki_bool (.int i), _, rfl, iteF ⟨_, rfl, _, _, _, _, true, rfl, .ty _, .base (.int i), ki_int (.int i), _, rfl, iteT ?_⟩⟩
      refine ⟨_, rfl, _, _, _, _, true, rfl, .ty _, .base (.int i), ki_int (.int i), _, rfl, iteT ⟨_, rfl, _, rfl, .int i, .int i, .int i, .int i, hl, hl, (by rw [PyData.depth]; decide), ?_⟩⟩
      rw [eqv_refl _ hl]; exact q H (Same.refl H)
    | str z =>
      cases d1; cases d2
      refine ⟨_, rfl, _, _, _, _, false, rfl, .ty _, .base (.str z), ki_tup (.str z), _, rfl, iteF ⟨_, rfl, _, _, _, _, false, rfl, .ty _, .base (.str z), ki_lst (.str z), _, rfl, iteF ⟨_, rfl, rfl, _, rfl, iteF ⟨_, rfl, _, _, _, _, false, rfl, .ty _, .base (.str z), ki_bool (.str z), _, rfl, iteF ?_⟩⟩⟩⟩
      refine ⟨_, rfl, _, _, _, _, false, rfl, .ty _, .base (.str z), ki_bool (.str z), _, rfl, iteF ⟨_, rfl, _, _, _, _, false, rfl, .ty _, .base (.str z), ki_int (.str z), _, rfl, iteF ?_⟩⟩
      refine ⟨_, rfl, _, _, _, _, true, rfl, .ty _, .base (.str z), ki_str (.str z), _, rfl, iteT ⟨_, rfl, _, _, _, _, true, rfl, .ty _, .base (.str z), ki_str (.str z), _, rfl, iteT ⟨_, rfl, _, rfl, .str z, .str z, .str z, .str z, hl, hl, (by rw [PyData.depth]; decide), ?_⟩⟩⟩
      rw [eqv_refl _ hl]; exact q H (Same.refl H)
    | dict k => cases d1
    | tuple ds =>
      cases d1 with
      | tup h1 a1 =>
      cases d2 with
      | tup h2 a2 =>
      have hx1 : Vx K H _ (.tuple ds) := .inl (.tup h1 a1)
      have hx2 : Vx K H _ (.tuple ds) := .inl (.tup h2 a2)
      refine ⟨_, rfl, _, _, _, _, true, rfl, .ty _, tyx hx2, ki_tup (.tuple ds), _, rfl, iteT ?_⟩
      refine ⟨_, rfl, _, _, _, _, true, rfl, .ty _, tyx hx2, ki_tup (.tuple ds), _, rfl, _, _, _, _, true, rfl, .ty _, tyx hx1, ki_tup (.tuple ds), rfl, _, rfl, iteF ?_⟩
      refine ⟨_, rfl, _, _, _, _, false, rfl, .ty _, tyx hx2, ki_lst (.tuple ds), _, rfl, _, _, _, _, false, rfl, .ty _, tyx hx1, ki_lst (.tuple ds), rfl, _, rfl, iteF ?_⟩
      have hy := a1.len
      have hx := a2.len
      have hdd : PyData.depthAll ds < n := by have e : PyData.depth (.tuple ds) = PyData.depthAll ds + 1 := by rw [PyData.depth]
                                              omega
      have hln : ds.length ≤ 100000 := by cases hs; assumption
      refine ⟨_, rfl, _, _, rfl, .inr h1, _, rfl, _, _, rfl, .inr h2, rfl, _, rfl, ?_⟩
      rw [dI, hy, hx, decide_eq_true rfl]
      refine iteF ?_
      refine ⟨_, rfl, _, _, rfl, .inr h2, (ds.length : Nat), by rw [hx], by omega, by omega, fun D hD => ?_⟩
      refine lc_range (lo := 0) (n := ds.length) (LcS H D fun i => []) (LcS.zero hD fun _ => by simp) (fun i H3 hi hP => ?_) (fun H3 hP => ?_)
      · have g : ds[i]? = some ds[i] := List.getElem?_eq_getElem hi
        obtain ⟨x, ex, kx⟩ := a1.at2 g
        obtain ⟨y, ey, ky⟩ := a2.at2 g
        have hm : ds[i] ∈ ds := List.getElem_mem hi
        have hdi := depth_in hm
        refine ⟨rfl, _, rfl, _, rfl, _, _, _, x, rfl, rfl, .inr (hP.1.sqt h1), at_v ex (by omega), _, rfl, _, rfl, _, _, _, y, rfl, rfl, .inr (hP.1.sqt h2), at_v ey (by omega), x, y, ds[i], rfl, by omega, hs.tupIn _ hm, kx.same hP.1, ky.same hP.1, fun H5 s5 => ⟨_, rfl, iteF ?_⟩⟩
        exact hP.no s5 rfl
      · have e := hP.2.1
        rw [nat_pos_flat _ _ fun _ _ => rfl] at e
        refine ⟨D, _, rfl, .inl (sql_new e), rfl, ?_⟩
        exact q H3 hP.1
    | list ds =>
      cases d1 with
      | lst h1 a1 =>
      cases d2 with
      | lst h2 a2 =>
      have hx1 : Vx K H _ (.list ds) := .inl (.lst h1 a1)
      have hx2 : Vx K H _ (.list ds) := .inl (.lst h2 a2)
      refine ⟨_, rfl, _, _, _, _, false, rfl, .ty _, tyx hx2, ki_tup (.list ds), _, rfl, iteF ⟨_, rfl, _, _, _, _, true, rfl, .ty _, tyx hx2, ki_lst (.list ds), _, rfl, iteT ?_⟩⟩
      refine ⟨_, rfl, _, _, _, _, false, rfl, .ty _, tyx hx2, ki_tup (.list ds), _, rfl, _, _, _, _, false, rfl, .ty _, tyx hx1, ki_tup (.list ds), rfl, _, rfl, iteF ?_⟩
      refine ⟨_, rfl, _, _, _, _, true, rfl, .ty _, tyx hx2, ki_lst (.list ds), _, rfl, _, _, _, _, true, rfl, .ty _, tyx hx1, ki_lst (.list ds), rfl, _, rfl, iteF ?_⟩
      have hy := a1.len
      have hx := a2.len
      have hdd : PyData.depthAll ds < n := by have e : PyData.depth (.list ds) = PyData.depthAll ds + 1 := by rw [PyData.depth]
                                              omega
      have hln : ds.length ≤ 100000 := by cases hs; assumption
      refine ⟨_, rfl, _, _, rfl, .inl h1, _, rfl, _, _, rfl, .inl h2, rfl, _, rfl, ?_⟩
      rw [dI, hy, hx, decide_eq_true rfl]
      refine iteF ?_
      refine ⟨_, rfl, _, _, rfl, .inl h2, (ds.length : Nat), by rw [hx], by omega, by omega, fun D hD => ?_⟩
      refine lc_range (lo := 0) (n := ds.length) (LcS H D fun i => []) (LcS.zero hD fun _ => by simp) (fun i H3 hi hP => ?_) (fun H3 hP => ?_)
      · have g : ds[i]? = some ds[i] := List.getElem?_eq_getElem hi
        obtain ⟨x, ex, kx⟩ := a1.at2 g
        obtain ⟨y, ey, ky⟩ := a2.at2 g
        have hm : ds[i] ∈ ds := List.getElem_mem hi
        have hdi := depth_in hm
        refine ⟨rfl, _, rfl, _, rfl, _, _, _, x, rfl, rfl, .inl (hP.1.seq h1), at_v ex (by omega), _, rfl, _, rfl, _, _, _, y, rfl, rfl, .inl (hP.1.seq h2), at_v ey (by omega), x, y, ds[i], rfl, by omega, hs.lstIn _ hm, kx.same hP.1, ky.same hP.1, fun H5 s5 => ⟨_, rfl, iteF ?_⟩⟩
        exact hP.no s5 rfl
      · have e := hP.2.1
        rw [nat_pos_flat _ _ fun _ _ => rfl] at e
        refine ⟨D, _, rfl, .inl (sql_new e), rfl, ?_⟩
        exact q H3 hP.1
theorem ok_same : ∀ n, FnD P w K mg base CX0 (n + 1) (He.ga K "_law_same") T.d__law_same ["actual", "due"] (spSame K n)
  | 0 => by
    refine T.F__law_same.okD sc_law_same (fun vs H Q E h => ?_) (fun cdv A outer s H vs Q E hr h => ?_)
    · obtain ⟨v1, v2, d, rfl, _⟩ := h; rfl
    · obtain ⟨v1, v2, d, _, hm, _⟩ := h; exact absurd hm (by omega)
  | n + 1 => same_step T n (ok_same n)
end
end K16

set_option Elab.async false
set_option linter.all false
set_option maxRecDepth 100000
set_option maxHeartbeats 4000000
namespace K16
open PySem PySem.Spec PyProof.Rows L2
/-- data that is written: short texts, small numbers, tuples -/
inductive WOk : Nat → PyData → Prop where
  | int {n : Nat} {i : Int} (h : i.natAbs < 10000000) : WOk n (.int i)
  | str {n : Nat} {x : Str} (h : x.length ≤ 100) : WOk n (.str x)
  | tup {n : Nat} {ds : List PyData} (l : ds.length ≤ 1000) (h : ∀ d ∈ ds, WOk n d) : WOk (n + 1) (.tuple ds)
mutual
def wb : PyData → Nat
  | .int _ => 8
  | .str x => x.length
  | .tuple ds => wbs ds + 2
  | _ => 0
def wbs : List PyData → Nat
  | [] => 0
  | d :: ds => wb d + 1 + wbs ds
end
theorem str_app (a b : Str) : (a ++ b).length = a.length + b.length := by
  show (a.cps ++ b.cps).size = _
  rw [Array.size_append]; rfl
theorem join_len (sep : Str) : ∀ ys : List Str, (Str.join sep ys).length ≤ (ys.map (·.length)).sum + ys.length * sep.length
  | [] => by show 0 ≤ _; exact Nat.zero_le _
  | [x] => by show x.length ≤ _; simp
  | x :: y :: r => by
    have ih := join_len sep (y :: r)
    show (x ++ sep ++ Str.join sep (y :: r)).length ≤ _
    rw [str_app, str_app]
    have e1 : ((x :: y :: r).map (·.length)).sum = x.length + ((y :: r).map (·.length)).sum := by rw [List.map_cons, List.sum_cons]
    have e2 : (x :: y :: r).length * sep.length = sep.length + (y :: r).length * sep.length := by rw [List.length_cons, Nat.add_mul]; omega
    omega
theorem int_len {i : Int} (h : i.natAbs < 10000000) : (Str.ofString (toString i)).length ≤ 8 := by
  have e := int_text_length_le10 (a := i) (k := 7) (by decide) h
  rw [Str.ofString_eq_toList]
  show ((toString i).toList.map Char.toNat).toArray.size ≤ 8
  rw [List.size_toArray, List.length_map, String.length_toList]
  omega
theorem int_log {i : Int} (h : i.natAbs < 10000000) : i.natAbs.log2 < 1920 := by
  by_cases h0 : i.natAbs = 0
  · rw [h0]; decide
  · rw [Nat.log2_lt h0]
    exact Nat.lt_of_lt_of_le h (by decide +kernel)
theorem wbs_take : ∀ (ds : List PyData) (i : Nat), i < ds.length → wbs (ds.take (i + 1)) = wbs (ds.take i) + wb (ds.getD i .none) + 1
  | [], i, h => absurd h (Nat.not_lt_zero _)
  | d :: ds, 0, _ => by simp [wbs]
  | d :: ds, i + 1, h => by
    have ih := wbs_take ds i (by simpa using h)
    rw [List.take_succ_cons, List.take_succ_cons, wbs, wbs, ih]
    simp only [List.getD_cons_succ]
    omega
theorem wbs_in : ∀ {ds : List PyData} {d : PyData}, d ∈ ds → wb d ≤ wbs ds
  | e :: ds, d, h => by
    rw [wbs]
    rcases List.mem_cons.mp h with h | h
    · subst h; omega
    · have := wbs_in h; omega
def spWrite (K : PySem.W.Frag) (n : Nat) : Sp := fun vs H Q _ => ∃ (v : V) (d : PyData), vs = [v] ∧ WOk n d ∧ wb d ≤ 100000 ∧ Dp K H v d ∧ ∀ H' x, Same H H' → x.length ≤ wb d → Q (.str x) H'
section
variable {P : Program} {w : World} {K : PySem.W.Frag} {mg : Str → Option Value} {base : Heap} (T : Txt K mg)
include T
theorem write_step (n : Nat) (sp : Sp) (hsp : ∀ vs H Q E m, n = m + 1 → spWrite K m vs H Q E → sp vs H Q E) (G_write_value : FnOk P w K mg base CX0 n (He.ga K "write_value") T.d_write_value ["value"] sp) :
    FnOk P w K mg base CX0 (n + 1) (He.ga K "write_value") T.d_write_value ["value"] (spWrite K n) := by
  refine T.F_write_value.ok sc_write_value (fun vs H Q E h => ?_) (fun cdv A outer s H vs Q E hr h => ?_)
  · obtain ⟨v, d, rfl, _⟩ := h; rfl
  · obtain ⟨v, d, rfl, hw, hb, dv, q⟩ := h
    refine ⟨_, PSs.nox (pss_cons (ps_if (pt_val (pe_callB (r := rIsi K) call_isi (by rfl) T.isinstance (by decide +kernel) (pa_cons (pv 0) (pa_cons (pe_bltn (v := .ty "tuple") rfl T.tuple (by decide +kernel) rfl) pa_nil))))
    (pss_one (ps_ret (pe_op op_add_str (pe_op op_add_str pe_str (pe_join pe_str (pe_lc (own := [("part", 1)]) (g := gName 1) (tt := tYes) (by rfl) sc_write_value.nd (pi_tup (pv 0)) (blkOk_by (own := [("part", 1)]) (N := ["value", "part"]) (sc := defScope s_write_value) (by decide +kernel)) (fun _ _ _ _ _ => (pg_name (i := 1) sc_write_value.nd rfl (.inl rfl))) (fun _ _ _ _ _ => pts_nil) (fun _ _ _ _ _ => (pe_call G_write_value (hr.mono (by omega)) (by rfl) T.g_write_value T.F_write_value.kp T.b_write_value .nil pass0 (pa_cons (pv 1) pa_nil)))))) pe_str)))
    pss_nil)
    (pss_one (ps_ret (pe_callTy (CallR.or call_str_int SkE.call_str_str) (by rfl) T.str (by decide +kernel) (pa_cons (pv 0) pa_nil))))), ?_⟩
    cases hw with
    | @int _ i hi =>
      cases dv
      refine ⟨_, rfl, _, _, _, _, false, rfl, .ty _, .base (.int i), ki_tup (.int i), _, rfl, iteF ⟨_, rfl, .inl ⟨_, rfl, int_log hi, q H _ (Same.refl H) (int_len hi)⟩⟩⟩
    | @str _ z hx =>
      cases dv
      refine ⟨_, rfl, _, _, _, _, false, rfl, .ty _, .base (.str z), ki_tup (.str z), _, rfl, iteF ⟨_, rfl, .inr ⟨_, rfl, q H _ (Same.refl H) (Nat.le_refl _)⟩⟩⟩
    | @tup m ds hl hds =>
      cases dv with
      | tup h1 a1 =>
      have hx1 : Vx K H _ (.tuple ds) := .inl (.tup h1 a1)
      refine ⟨_, rfl, _, _, _, _, true, rfl, .ty _, tyx hx1, ki_tup (.tuple ds), _, rfl, iteT ?_⟩
      have hb' : wbs ds + 2 ≤ 100000 := by rw [wb] at hb; exact hb
      have q' : ∀ H' x, Same H H' → x.length ≤ wbs ds + 2 → Q (.str x) H' := by rw [wb] at q; exact q
      refine ⟨⟨_, rfl⟩, _, rfl, _, rfl, ⟨_, h1⟩, fun D hD => ?_⟩
      have hal := a1.len
      refine lc_tup (fun i H' => Same H H' ∧ ∃ ys : List Str, ys.length = i ∧ H' D = some (.lst (ys.map V.str)) ∧ (ys.map (·.length)).sum + i ≤ wbs (ds.take i)) ⟨Same.one hD, [], rfl, upd_same, Nat.zero_le _⟩ (fun i H3 _ hP => hP.1.sqt h1) (fun i x H3 hi hP => ?_) (fun H3 hP => ?_)
      · obtain ⟨s3, ys, hyl, hyD, hys⟩ := hP
        obtain ⟨di, hdi, hxd⟩ := a1.at hi
        have hil := (List.getElem?_eq_some_iff.mp hdi).1
        have hm : di ∈ ds := List.mem_of_getElem? hdi
        have hbi := wbs_in hm
        refine ⟨rfl, _, rfl, ?_⟩
        refine hsp _ _ _ _ m rfl ⟨x, di, rfl, hds _ hm, by omega, hxd.same s3, fun H4 y s4 hy => ?_⟩
        refine ⟨ys.map V.str, s4 _ _ hyD, by rw [List.length_map, hyl]; exact Nat.lt_of_lt_of_le hil (Nat.le_trans hl (by decide)), (s3.trans s4).upd_new hD, ys ++ [y], by rw [List.length_append, hyl]; rfl, ?_, ?_⟩
        · rw [upd_same, List.map_append]; rfl
        · have ei : ds.getD i .none = di := by rw [List.getD_eq_getElem?_getD, hdi]; rfl
          rw [wbs_take ds i hil, ei, List.map_append, List.sum_append]
          simp only [List.map_cons, List.map_nil, List.sum_cons, List.sum_nil]
          omega
      · obtain ⟨s3, ys, hyl, hyD, hys⟩ := hP
        rw [hal, List.take_length] at hys
        have jl := join_len " " ys
        have e1 : (" " : Str).length = 1 := by decide +kernel
        have e2 : (Str.ofString "[").length = 1 := by decide +kernel
        have e3 : (Str.ofString "]").length = 1 := by decide +kernel
        rw [e1] at jl
        have ej : Txt.join (Str.ofString " ") ys = Str.join (Str.ofString " ") ys := TL.join_eq _ _
        have hline : (100000 : Nat) < sizeLine := by decide
        refine ⟨_, D, ys, rfl, rfl, .inl (sql_new hyD), ?_, _, _, rfl, rfl, ?_, _, _, rfl, rfl, ?_, q' _ _ s3 ?_⟩
        · rw [e1]; omega
        · rw [ej, e2]; omega
        · rw [str_app, ej, e2, e3]; omega
        · rw [str_app, str_app, ej, e2, e3]; omega
theorem ok_write : ∀ n, FnOk P w K mg base CX0 (n + 1) (He.ga K "write_value") T.d_write_value ["value"] (spWrite K n)
  | 0 => write_step T 0 (fun vs _ _ _ => False ∧ vs.length = 1) (fun _ _ _ _ _ e => nomatch e) ⟨fun _ _ _ _ h => h.1.elim, fun _ _ _ _ _ _ _ _ _ _ _ _ _ h => h.1.elim⟩
  | n + 1 => write_step T (n + 1) (spWrite K n) (fun _ _ _ _ m e h => by have : n = m := by omega
                                                                         subst this; exact h) (ok_write n)
end
end K16

set_option Elab.async false
set_option linter.all false
set_option maxRecDepth 100000
set_option maxHeartbeats 4000000
namespace K16
open PySem PySem.Spec PyProof.Rows L2
theorem Pool.ne {pl sc : Addr} {H : Hp} (h : Pool pl sc H) {a : Addr} (ha : H a = none) : a ≠ pl := fun e => by
  obtain ⟨_, _, _, _, _, h1, _⟩ := h
  rw [e, h1] at ha; cases ha
theorem Pool.sc_at {pl sc : Addr} {H : Hp} (h : Pool pl sc H) : sc ≠ pl ∧ ∃ l, H sc = some (.lst l) := by
  obtain ⟨_, _, _, _, _, _, h2, h3, _⟩ := h
  exact ⟨h2, _, h3⟩
theorem Pool.nes {pl sc : Addr} {H : Hp} (h : Pool pl sc H) {a : Addr} (ha : H a = none) : sc ≠ a := fun e => by
  obtain ⟨_, l, hl⟩ := h.sc_at
  rw [e, ha] at hl; cases hl
theorem Pool.upd {pl sc D : Addr} {H : Hp} {o : HO} (h : Pool pl sc H) (n : D ≠ pl) (nd : sc ≠ D) : Pool pl sc (L2.upd H D o) := by
  obtain ⟨xs, i, q, m, t, h1, h2, h3, h4⟩ := h
  exact ⟨xs, i, q, m, t, by rw [upd_ne (fun e => n e.symm)]; exact h1, h2, by rw [upd_ne nd]; exact h3, h4⟩
def rIx3 (K : PySem.W.Frag) : R2 := fun x y H Q => rIxA K x y H Q ∨ rIxS x y H Q
theorem ix_3 {X : Cx} : IxR X (rIx3 X.K) := by
  intro value slice pins s σ H x y v u Q I rx ry h hs
  rcases h with h | h
  · exact ix_any value slice pins s σ H x y v u Q I rx ry h hs
  · exact ix_str value slice pins s σ H x y v u Q I rx ry h hs
def spPick (K : PySem.W.Frag) : Sp := fun vs H Q _ => ∃ (pl sc : Addr) (v : V) (n : Nat), vs = [.ref pl, v] ∧ Pool pl sc H ∧ 0 < n ∧ n < 1000000 ∧
  ((∃ (a : Addr) (ys : List V), v = .ref a ∧ (SqL K (hid pl H) a ys ∨ SqT K (hid pl H) a ys) ∧ ys.length = n ∧ ∀ (H' : Hp) (i : Nat) (x : V), But pl H H' → Pool pl sc H' → ys[i]? = some x → Q x H') ∨
   (∃ z : Str, v = .str z ∧ z.length = n ∧ ∀ (H' : Hp) (i c : Nat), But pl H H' → Pool pl sc H' → z.cps.toList[i]? = some c → Q (.str ⟨#[c]⟩) H'))
def spGarb : Sp := fun vs H Q _ => ∃ (pl sc : Addr) (t z : Str), vs = [.ref pl, .str t, .str z] ∧ Pool pl sc H ∧ t.length ≤ 20000 ∧ 0 < z.length ∧ z.length < 1000 ∧ ∀ H' x, But pl H H' → Pool pl sc H' → x.length ≤ 3 * t.length + 1 → Q (.str x) H'
theorem lap {a b : Str} {m n : Nat} (ha : a.length ≤ m) (hb : b.length ≤ n) : (a ++ b).length ≤ m + n := by rw [str_app]; omega
theorem cutS_le (t : Str) (lo hi : Option Int) : (cutS t lo hi).length ≤ t.length := cutS_length t lo hi
section
variable {P : Program} {w : World} {K : PySem.W.Frag} {mg : Str → Option Value} {base : Heap} (T : Txt K mg)
include T
theorem ok_pick : FnOk P w K mg base CX0 3 (He.ga K "_law_pick") T.d__law_pick ["pool", "items"] (spPick K) := by
  have G__law_draw := ok_draw (P := P) (w := w) (base := base) T
  refine T.F__law_pick.ok sc_law_pick (fun vs H Q E h => ?_) (fun cdv A outer s H vs Q E hr h => ?_)
  · obtain ⟨a, sc, b, xs, rfl, _⟩ := h; rfl
  · obtain ⟨pl, sc, v, n, rfl, hp, h0, h1, q⟩ := h
    refine ⟨_, PSs.nox (pss_one (ps_ret (pe_ix (r := rIx3 K) ix_3 (pv 1) (pe_call G__law_draw (hr.mono (by omega)) (by rfl) T.g__law_draw T.F__law_draw.kp T.b__law_draw .nil pass0 (pa_cons (pv 0) (pa_cons (pe_callB (CallR.or call_len_seq call_len_str) (by rfl) T.len (by decide +kernel) (pa_cons (pv 1) pa_nil)) pa_nil))) (fun _ _ => rfl)))), ?_⟩
    rcases q with ⟨a, ys, rfl, ha, hl, q⟩ | ⟨z, rfl, hl, q⟩
    · have ha1 : SqL K H a ys ∨ SqT K H a ys := by
        rcases ha with ha | ha
        · exact .inl ((hid_le pl H).seq ha)
        · exact .inr ((hid_le pl H).sqt ha)
      refine ⟨_, rfl, _, rfl, _, rfl, .inl ⟨a, _, rfl, ha1, pl, sc, ys.length, rfl, hp, by omega, by omega, fun H' r b p hr' => ?_⟩⟩
      have hx : ys[r]? = some ys[r] := List.getElem?_eq_getElem hr'
      refine .inl ⟨a, ys, _, _, rfl, rfl, ?_, atI_nat hx, q H' _ _ b p hx⟩
      rcases ha with ha | ha
      · exact .inl ((hid_le pl H').seq (L2.Same.seq b ha))
      · exact .inr ((hid_le pl H').sqt (L2.Same.sqt b ha))
    · have hz : z.length ≤ sizeLine := Nat.le_trans (by omega : z.length ≤ 1000000) (by decide)
      refine ⟨_, rfl, _, rfl, _, rfl, .inr ⟨z, rfl, hz, pl, sc, z.length, rfl, hp, by omega, by omega, fun H' r b p hr' => ?_⟩⟩
      have hzl : z.cps.toList.length = z.length := by simp [Str.length]
      have hx : z.cps.toList[r]? = some (z.cps.toList[r]'(by omega)) := List.getElem?_eq_getElem (by omega)
      exact .inr ⟨z, _, _, rfl, rfl, hz, atI_nat hx, q H' _ _ b p hx⟩
theorem ok_garbled : FnOk P w K mg base CX0 4 (He.ga K "_law_garbled") T.d__law_garbled ["pool", "text", "signs"] spGarb := by
  have G__law_draw := ok_draw (P := P) (w := w) (base := base) T
  have G__law_pick := ok_pick (P := P) (w := w) (base := base) T
  refine T.F__law_garbled.ok sc_law_garbled (fun vs H Q E h => ?_) (fun cdv A outer s H vs Q E hr h => ?_)
  · obtain ⟨a, sc, t, z, rfl, _⟩ := h; rfl
  · obtain ⟨pl, sc, t, z, rfl, hp, ht, hz0, hz1, q⟩ := h
    refine ⟨_, PSs.nox (pss_cons (ps_set (i := 3) sc_law_garbled.nd rfl (.inl rfl) (pe_call G__law_draw (hr.mono (by omega)) (by rfl) T.g__law_draw T.F__law_draw.kp T.b__law_draw .nil pass0 (pa_cons (pv 0) (pa_cons (pe_op op_add (pe_callB call_len_str (by rfl) T.len (by decide +kernel) (pa_cons (pv 1) pa_nil)) pe_int) pa_nil))))
    (pss_cons (ps_set (i := 4) sc_law_garbled.nd rfl (.inl rfl) (pe_call G__law_draw (hr.mono (by omega)) (by rfl) T.g__law_draw T.F__law_draw.kp T.b__law_draw .nil pass0 (pa_cons (pv 0) (pa_cons pe_int pa_nil))))
    (pss_cons (ps_set (i := 5) sc_law_garbled.nd rfl (.inl rfl) (pe_call G__law_pick (hr.mono (by omega)) (by rfl) T.g__law_pick T.F__law_pick.kp T.b__law_pick .nil pass0 (pa_cons (pv 0) (pa_cons (pv 2) pa_nil))))
    (pss_cons (ps_if (pt_cmpR op_eq (pv 4) pe_int (nomark _))
    (pss_one (ps_ret (pe_op op_add_str (pe_op op_add_str (pe_slice sl_str (pv 1) po_none (po_some (pv 3))) (pv 5)) (pe_slice sl_str (pv 1) (po_some (pv 3)) po_none))))
    pss_nil)
    (pss_cons (ps_if (pt_cmpR op_eq (pv 4) pe_int (nomark _))
    (pss_one (ps_ret (pe_op op_add_str (pe_slice sl_str (pv 1) po_none (po_some (pv 3))) (pe_slice sl_str (pv 1) (po_some (pe_op op_add (pv 3) pe_int)) po_none))))
    pss_nil)
    (pss_cons (ps_if (pt_cmpR op_eq (pv 4) pe_int (nomark _))
    (pss_one (ps_ret (pe_op op_add_str (pe_op op_add_str (pe_slice sl_str (pv 1) po_none (po_some (pv 3))) (pv 5)) (pe_slice sl_str (pv 1) (po_some (pe_op op_add (pv 3) pe_int)) po_none))))
    pss_nil)
    (pss_one (ps_ret (pe_op op_add_str (pe_op op_add_str (pe_slice sl_str (pv 1) po_none (po_some (pv 3))) (pe_slice sl_str (pv 1) (po_some (pv 3)) (po_some (pe_op op_add (pv 3) pe_int)))) (pe_slice sl_str (pv 1) (po_some (pv 3)) po_none)))))))))), ?_⟩
    have hzt : t.length ≤ sizeLine := Nat.le_trans ht (by decide)
    have hline : (100000 : Nat) ≤ sizeLine := by decide
    refine ⟨_, rfl, _, rfl, t, rfl, hzt, _, _, rfl, rfl, pl, sc, t.length + 1, rfl, hp, by omega, by omega, fun H1 r1 b1 p1 _ => ?_⟩
    refine ⟨_, rfl, pl, sc, 4, rfl, p1, by decide, by decide, fun H2 r2 b2 p2 _ => ?_⟩
    refine ⟨_, rfl, _, rfl, pl, sc, .str z, z.length, rfl, p2, hz0, by omega, .inr ⟨z, rfl, rfl, fun H3 i c b3 p3 _ => ?_⟩⟩
    have e1 : (⟨#[c]⟩ : Str).length = 1 := rfl
    have qq : ∀ x, x.length ≤ 3 * t.length + 1 → Q (.str x) H3 := fun x hx => q H3 x ((b1.trans b2).trans b3) p3 hx
    have cl : ∀ lo hi, (cutS t lo hi).length ≤ t.length := cutS_le t
    refine ⟨_, rfl, rfl, _, rfl, ?_⟩
    refine ite2 (fun c1 => ?_) (fun c1 => ?_)
    · dsimp only [tNoPart, tRet, tOp, tSl]
      refine ⟨_, rfl, _, rfl, _, rfl, t, rfl, hzt, _, rfl, _, _, rfl, rfl, Nat.le_trans (Nat.add_le_add (cl _ _) (Nat.le_of_eq e1)) (by omega), ?_⟩
      exact ⟨_, rfl, _, rfl, _, rfl, t, rfl, hzt, _, _, rfl, rfl, Nat.le_trans (Nat.add_le_add (lap (cl _ _) (Nat.le_of_eq e1)) (cl _ _)) (by omega), qq _ (Nat.le_trans (lap (lap (cl _ _) (Nat.le_of_eq e1)) (cl _ _)) (by omega))⟩
    refine ⟨_, rfl, rfl, _, rfl, ?_⟩
    refine ite2 (fun c1 => ?_) (fun c1 => ?_)
    · dsimp only [tNoPart, tRet, tOp, tSl]
      exact ⟨_, rfl, _, rfl, _, rfl, t, rfl, hzt, _, rfl, _, rfl, _, _, rfl, rfl, _, rfl, t, rfl, hzt, _, _, rfl, rfl, Nat.le_trans (Nat.add_le_add (cl _ _) (cl _ _)) (by omega), qq _ (Nat.le_trans (lap (cl _ _) (cl _ _)) (by omega))⟩
    refine ⟨_, rfl, rfl, _, rfl, ?_⟩
    refine ite2 (fun c1 => ?_) (fun c1 => ?_)
    · dsimp only [tNoPart, tRet, tOp, tSl]
      refine ⟨_, rfl, _, rfl, _, rfl, t, rfl, hzt, _, rfl, _, _, rfl, rfl, Nat.le_trans (Nat.add_le_add (cl _ _) (Nat.le_of_eq e1)) (by omega), ?_⟩
      exact ⟨_, rfl, _, rfl, _, _, rfl, rfl, _, rfl, t, rfl, hzt, _, _, rfl, rfl, Nat.le_trans (Nat.add_le_add (lap (cl _ _) (Nat.le_of_eq e1)) (cl _ _)) (by omega), qq _ (Nat.le_trans (lap (lap (cl _ _) (Nat.le_of_eq e1)) (cl _ _)) (by omega))⟩
    · dsimp only [tNoPart, tRet, tOp, tSl]
      refine ⟨_, rfl, _, rfl, _, rfl, t, rfl, hzt, _, rfl, _, rfl, _, rfl, _, rfl, _, _, rfl, rfl, _, rfl, t, rfl, hzt, _, _, rfl, rfl, Nat.le_trans (Nat.add_le_add (cl _ _) (cl _ _)) (by omega), ?_⟩
      exact ⟨_, rfl, _, rfl, _, rfl, t, rfl, hzt, _, _, rfl, rfl, Nat.le_trans (Nat.add_le_add (lap (cl _ _) (cl _ _)) (cl _ _)) (by omega), qq _ (Nat.le_trans (lap (lap (cl _ _) (cl _ _)) (cl _ _)) (by omega))⟩
end
end K16

set_option Elab.async false
set_option linter.all false
set_option maxRecDepth 100000
set_option maxHeartbeats 4000000
/-! k16: displays of constants, read as data -/
namespace K16
open PySem PySem.Spec PyProof.Rows L2
theorem _root_.L2.PE.weak {X : Cx} {e : Expr} {t t' : TE} (h : PE X e t) (w : ∀ σ H Q, t' σ H Q → t σ H Q) : PE X e t' := ⟨fun pins s σ H Q I q => h.run pins s σ H Q I (w σ H Q q)⟩
theorem _root_.L2.PA.weak {X : Cx} {es : List Expr} {t t' : TA} (h : PA X es t) (w : ∀ σ H Q, t' σ H Q → t σ H Q) : PA X es t' := ⟨fun pos pins s σ H Q I q => h.run pos pins s σ H Q I (w σ H Q q)⟩
abbrev Pre := L2.St → Hp → Prop
def Stb (pre : Pre) : Prop := ∀ σ H H', pre σ H → Same H H' → pre σ H'
def tD (K : PySem.W.Frag) (pre : Pre) (d : PyData) : TE := fun σ H Q => pre σ H ∧ ∀ H' v, Same H H' → Dp K H' v d → Q v H'
def tDs (K : PySem.W.Frag) (pre : Pre) (ds : List PyData) : TA := fun σ H Q => pre σ H ∧ ∀ H' vs, Same H H' → DpAll K H' vs ds → Q vs H'
section
variable {X : Cx} {pre : Pre}
theorem pe_dstr {x j pos} : PE X (.Constant (.str x) j pos) (tD X.K pre (.str x)) := pe_str.weak fun σ H Q ⟨_, k⟩ => k H _ (Same.refl H) (.str x)
theorem pe_dint {x j pos} : PE X (.Constant (.int x) j pos) (tD X.K pre (.int x)) := pe_int.weak fun σ H Q ⟨_, k⟩ => k H _ (Same.refl H) (.int x)
theorem pe_dvar {i : Nat} {d : PyData} {x : Str} {pos : Pos} (hv : ∀ σ H, pre σ H → ∃ v, σ[i]? = some (some v) ∧ Dp X.K H v d) (h : PE X (.Name x pos) (tVar i)) : PE X (.Name x pos) (tD X.K pre d) := h.weak fun σ H Q ⟨p, k⟩ => by
  obtain ⟨v, e, dv⟩ := hv σ H p
  exact ⟨v, e, k H v (Same.refl H) dv⟩
theorem pa_dnil : PA X [] (tDs X.K pre []) := pa_nil.weak fun σ H Q ⟨_, k⟩ => k H [] (Same.refl H) .nil
theorem pa_dcons {e : Expr} {es : List Expr} {d : PyData} {ds : List PyData} (hp : Stb pre) (ha : PE X e (tD X.K pre d)) (hr : PA X es (tDs X.K pre ds)) (hs : starEach (e :: es) X.env = (false, eval e X.env) :: starEach es X.env := by rfl) : PA X (e :: es) (tDs X.K pre (d :: ds)) :=
  (pa_cons ha hr hs).weak fun σ H Q ⟨p, k⟩ => ⟨p, fun H1 v s1 dv => ⟨hp _ _ _ p s1, fun H2 vs s2 da => k H2 (v :: vs) (s1.trans s2) (.cons (dv.same s2) da)⟩⟩
theorem pe_dtup {es : List Expr} {x1 : Nat} {pos : Pos} {ds : List PyData} (h : PA X es (tDs X.K pre ds)) (hl : ds.length ≤ sizeLine := by decide) : PE X (.Tuple es x1 pos) (tD X.K pre (.tuple ds)) :=
  (pe_tup h).weak fun σ H Q ⟨p, k⟩ => ⟨p, fun H1 vs s1 da => ⟨by rw [da.len]; exact hl, fun q hq => k _ _ (s1.upd_new (s1.free hq)) (.tup (sqt_new upd_same) (da.same (Same.one hq)))⟩⟩
end
def preT : Pre := fun _ _ => True
def preV (K : PySem.W.Frag) (i : Nat) (d : PyData) : Pre := fun σ H => ∃ v, σ[i]? = some (some v) ∧ Dp K H v d
theorem stb_V {K : PySem.W.Frag} {i : Nat} {d : PyData} : Stb (preV K i d) := fun _ _ _ ⟨v, e, dv⟩ s => ⟨v, e, dv.same s⟩
theorem stb_T : Stb preT := fun _ _ _ _ _ => trivial
end K16

set_option Elab.async false
set_option linter.all false
set_option maxRecDepth 100000
set_option maxHeartbeats 4000000
namespace K16
open PySem PySem.Spec PyProof.Rows L2
theorem WOk.noL : ∀ {n : Nat} {d : PyData}, WOk n d → NoL d
  | _, _, .int _ => .int _
  | _, _, .str _ => .str _
  | _, _, .tup _ h => .tup fun d hd => WOk.noL (h d hd)
mutual
def wokB : Nat → PyData → Bool
  | _, .int i => decide (i.natAbs < 10000000)
  | _, .str x => decide (x.length ≤ 100)
  | n + 1, .tuple ds => decide (ds.length ≤ 1000) && wokBs n ds
  | _, _ => false
def wokBs : Nat → List PyData → Bool
  | _, [] => true
  | n, d :: ds => wokB n d && wokBs n ds
end
mutual
theorem wok_of : ∀ (n : Nat) (d : PyData), wokB n d = true → WOk n d
  | n, .int i, h => .int (by rw [wokB] at h; exact of_decide_eq_true h)
  | n, .str x, h => .str (by rw [wokB] at h; exact of_decide_eq_true h)
  | n + 1, .tuple ds, h => by
    rw [wokB, Bool.and_eq_true] at h
    exact .tup (of_decide_eq_true h.1) (woks_of n ds h.2)
  | 0, .tuple ds, h => by unfold wokB at h; cases h
  | n, .none, h => by cases n <;> (unfold wokB at h; cases h)
  | n, .bool _, h => by cases n <;> (unfold wokB at h; cases h)
  | n, .list _, h => by cases n <;> (unfold wokB at h; cases h)
  | n, .dict _, h => by cases n <;> (unfold wokB at h; cases h)
theorem woks_of : ∀ (n : Nat) (ds : List PyData), wokBs n ds = true → ∀ d ∈ ds, WOk n d
  | _, [], _, d, hd => by simp at hd
  | n, e :: ds, h, d, hd => by
    rw [wokBs, Bool.and_eq_true] at h
    rcases List.mem_cons.mp hd with q | q
    · rw [q]; exact wok_of n e h.1
    · exact woks_of n ds h.2 d q
end
def bnd : Nat → Nat
  | 0 => 8
  | n + 1 => 3 * (bnd n + 1) + 2
theorem bnd_up : ∀ n, 8 ≤ bnd n
  | 0 => Nat.le_refl 8
  | n + 1 => by have := bnd_up n; rw [bnd]; omega
theorem wbs_le {B : Nat} : ∀ (ds : List PyData), (∀ d ∈ ds, wb d ≤ B) → wbs ds ≤ ds.length * (B + 1)
  | [], _ => by rw [wbs]; exact Nat.zero_le _
  | d :: ds, h => by
    have ih := wbs_le ds fun e he => h e (List.mem_cons_of_mem _ he)
    have hd := h d List.mem_cons_self
    rw [wbs, List.length_cons, Nat.add_mul]; omega
theorem wok_up {n : Nat} {d : PyData} (h : WOk n d) : WOk (n + 1) d := by
  induction h with
  | int h => exact .int h
  | str h => exact .str h
  | tup l _ ih => exact .tup l ih
def spSome (K : PySem.W.Frag) (n : Nat) : Sp := fun vs H Q _ => ∃ (pl sc : Addr), vs = [.ref pl, .int (n : Nat)] ∧ Pool pl sc H ∧ ∀ H' v d, But pl H H' → Pool pl sc H' → Dp K (hid pl H') v d → WOk n d → wb d ≤ bnd n → Q v H'
def spSm (K : PySem.W.Frag) : Nat → Sp
  | 0 => fun vs _ _ _ => vs.length = 2 ∧ False
  | n + 1 => spSome K n
theorem But.upd_new' {pl D : Addr} {H1 H : Hp} {o : HO} (b : But pl H1 H) (h : H D = none) (n : D ≠ pl) : But pl H1 (upd H D o) := b.trans ((But.refl pl H).upd_new h n)
section
variable {P : Program} {w : World} {K : PySem.W.Frag} {mg : Str → Option Value} {base : Heap} (T : Txt K mg)
include T
theorem some_step (n : Nat) (G__law_some_value : FnOk P w K mg base CX0 (n + 3) (He.ga K "_law_some_value") T.d__law_some_value ["pool", "deep"] (spSm K n)) :
    FnOk P w K mg base CX0 (n + 4) (He.ga K "_law_some_value") T.d__law_some_value ["pool", "deep"] (spSome K n) := by
  have G__law_draw := ok_draw (P := P) (w := w) (base := base) T
  have G__law_pick := ok_pick (P := P) (w := w) (base := base) T
  refine T.F__law_some_value.ok sc_law_some_value (fun vs H Q E h => ?_) (fun cdv A outer s H vs Q E hr h => ?_)
  · obtain ⟨a, sc, rfl, _⟩ := h; rfl
  · obtain ⟨pl, sc, rfl, hp, q⟩ := h
    refine ⟨_, PSs.nox (pss_cons (ps_set (i := 2) sc_law_some_value.nd rfl (.inl rfl) (pe_call G__law_draw (hr.mono (by omega)) (by rfl) T.g__law_draw T.F__law_draw.kp T.b__law_draw .nil pass0 (pa_cons (pv 0) (pa_cons pe_int pa_nil))))
    (pss_cons (ps_if (PW.pt (pw_or (pt_cmpR op_lt (pv 2) pe_int (nomark _)) (pw_or1 (pt_cmpR op_eq (pv 1) pe_int (nomark _)))))
    (pss_one (ps_ret (pe_ix (r := rIxT K) ix_tup (pe_tup (pa_cons (pe_op op_sub (pe_call G__law_draw (hr.mono (by omega)) (by rfl) T.g__law_draw T.F__law_draw.kp T.b__law_draw .nil pass0 (pa_cons (pv 0) (pa_cons pe_int pa_nil))) pe_int) (pa_cons pe_int (pa_cons (pe_un un_neg pe_int) (pa_cons pe_int pa_nil))))) (pe_call G__law_draw (hr.mono (by omega)) (by rfl) T.g__law_draw T.F__law_draw.kp T.b__law_draw .nil pass0 (pa_cons (pv 0) (pa_cons pe_int pa_nil))) (fun _ _ => rfl))))
    pss_nil)
    (pss_cons (ps_if (pt_cmpR op_eq (pv 2) pe_int (nomark _))
    (pss_one (ps_ret (pe_call G__law_pick (hr.mono (by omega)) (by rfl) T.g__law_pick T.F__law_pick.kp T.b__law_pick .nil pass0 (pa_cons (pv 0) (pa_cons (pe_tup (pa_cons pe_str (pa_cons pe_str (pa_cons pe_str (pa_cons pe_str pa_nil))))) pa_nil)))))
    pss_nil)
    (pss_one (ps_ret (pe_callTy (r := rTupOf K) call_tuple_of (by rfl) T.tuple (by decide +kernel) (pa_cons (pe_lc (own := [("k", 3)]) (g := gName 3) (tt := tYes) (by rfl) sc_law_some_value.nd (pi_range1 (by rfl) T.range (pa_cons (pe_call G__law_draw (hr.mono (by omega)) (by rfl) T.g__law_draw T.F__law_draw.kp T.b__law_draw .nil pass0 (pa_cons (pv 0) (pa_cons pe_int pa_nil))) pa_nil)) (blkOk_by (own := [("k", 3)]) (N := ["pool", "deep", "turn", "k"]) (sc := defScope s_law_some_value) (by decide +kernel)) (fun _ _ _ _ _ => (pg_name (i := 3) sc_law_some_value.nd rfl (.inl rfl))) (fun _ _ _ _ _ => pts_nil) (fun _ _ _ _ _ => (pe_call G__law_some_value (hr.mono (by omega)) (by rfl) T.g__law_some_value T.F__law_some_value.kp T.b__law_some_value .nil pass0 (pa_cons (pv 0) (pa_cons (pe_op op_sub (pv 1) pe_int) pa_nil))))) pa_nil))))))), ?_⟩
    refine ⟨_, rfl, pl, sc, 5, rfl, hp, by decide, by decide, fun H1 r1 b1 p1 hr1 => ?_⟩
    have hcut : ∀ {G : Prop}, G → G := fun z => z
    have leaf : ∀ (tp : Addr) (H2 H3 : Hp) (r2 r3 : Nat), But pl H1 H2 → r2 < 21 → H2 tp = none → tp ≠ pl → But pl (upd H2 tp (.tup [.int ((r2 : Nat) - 10), .int 999999, .int (-999999), .int 0])) H3 → Pool pl sc H3 → r3 < 4 → rIxT K (.ref tp) (.int (r3 : Nat)) H3 Q := fun tp H2 H3 r2 r3 b2 hr2 htp ntp b3 p3 hr3 => by
      have htp3 : H3 tp = some (.tup [.int ((r2 : Nat) - 10), .int 999999, .int (-999999), .int 0]) := b3.at upd_same ntp
      obtain ⟨i, hi, hs⟩ : ∃ i : Int, ([.int ((r2 : Nat) - 10), .int 999999, .int (-999999), .int 0] : List V)[r3]? = some (.int i) ∧ i.natAbs < 10000000 := by
        rcases (by omega : r3 = 0 ∨ r3 = 1 ∨ r3 = 2 ∨ r3 = 3) with rfl | rfl | rfl | rfl
        · exact ⟨_, rfl, by omega⟩
        · exact ⟨_, rfl, by decide⟩
        · exact ⟨_, rfl, by decide⟩
        · exact ⟨_, rfl, by decide⟩
      exact ⟨tp, _, _, _, rfl, rfl, sqt_new htp3, atI_nat hi, q _ _ (.int i) (b1.trans (b2.trans (((But.refl pl H2).upd_new htp ntp).trans b3))) p3 (.int i) (.int hs) (by rw [wb]; exact bnd_up n)⟩
    refine ⟨_, rfl, _, _, rfl, rfl, _, rfl, ?_⟩
    refine ite2 (fun c1 => ?_) (fun c1 => ⟨_, rfl, rfl, _, rfl, ?_⟩)
    · refine iteT ⟨_, rfl, pl, sc, 21, rfl, p1, by decide, by decide, fun H2 r2 b2 p2 hr2 => ⟨_, _, rfl, rfl, _, rfl, (by show 4 ≤ sizeLine; decide), fun tp htp => ?_⟩⟩
      have ntp := p2.ne htp
      exact ⟨_, rfl, pl, sc, 4, rfl, p2.upd ntp (p2.nes htp), by decide, by decide, fun H3 r3 b3 p3 hr3 => leaf tp H2 H3 r2 r3 b2 hr2 htp ntp b3 p3 hr3⟩
    cases n with
    | zero =>
      refine iteT ⟨_, rfl, pl, sc, 21, rfl, p1, by decide, by decide, fun H2 r2 b2 p2 hr2 => ⟨_, _, rfl, rfl, _, rfl, (by show 4 ≤ sizeLine; decide), fun tp htp => ?_⟩⟩
      have ntp := p2.ne htp
      exact ⟨_, rfl, pl, sc, 4, rfl, p2.upd ntp (p2.nes htp), by decide, by decide, fun H3 r3 b3 p3 hr3 => leaf tp H2 H3 r2 r3 b2 hr2 htp ntp b3 p3 hr3⟩
    | succ m =>
      have e0 : decide (V.int ((m + 1 : Nat) : Int) = V.int 0) = false := decide_eq_false fun z => by have := V.int.inj z; omega
      rw [e0]
      refine iteF ⟨_, rfl, rfl, _, rfl, ?_⟩
      refine ite2 (fun c2 => ?_) (fun c2 => ?_)
      · refine ⟨_, rfl, (by show 4 ≤ sizeLine; decide), fun tp htp => ?_⟩
        have ntp := p1.ne htp
        refine ⟨pl, sc, .ref tp, 4, rfl, p1.upd ntp (p1.nes htp), by decide, by decide, .inl ⟨tp, [.str "row", .str "letter", .str "x", .str "z9z"], rfl, .inr (by rw [hid_upd ntp]; exact sqt_new upd_same), rfl, fun H3 i x b3 p3 hx => ?_⟩⟩
        have bb : But pl H H3 := b1.trans (((But.refl pl H1).upd_new htp ntp).trans b3)
        obtain ⟨z, rfl, hz⟩ : ∃ z : Str, x = .str z ∧ z.length ≤ 6 := by
          match i, hx with
          | 0, hx => cases hx; exact ⟨_, rfl, by decide +kernel⟩
          | 1, hx => cases hx; exact ⟨_, rfl, by decide +kernel⟩
          | 2, hx => cases hx; exact ⟨_, rfl, by decide +kernel⟩
          | 3, hx => cases hx; exact ⟨_, rfl, by decide +kernel⟩
        exact q _ _ (.str z) bb p3 (.str z) (.str (by omega)) (by rw [wb]; have := bnd_up (m + 1); omega)
      · refine ⟨_, rfl, pl, sc, 4, rfl, p1, by decide, by decide, fun H2 r2 b2 p2 hr2 => ⟨(r2 : Nat), rfl, by omega, by omega, fun D hD => ?_⟩⟩
        have nD := p2.ne hD
        refine lc_range (lo := 0) (n := r2) (fun i H' => But pl H2 H' ∧ Pool pl sc H' ∧ ∃ (vs : List V) (ds : List PyData), vs.length = i ∧ H' D = some (.lst vs) ∧ DpAll K (hid pl H') vs ds ∧ ∀ d ∈ ds, WOk m d ∧ wb d ≤ bnd m)
          ⟨(But.refl pl H2).upd_new hD nD, p2.upd nD (p2.nes hD), [], [], rfl, upd_same, .nil, fun d hd => by simp at hd⟩ (fun i H3 hi hP => ?_) (fun H3 hP => ?_)
        · obtain ⟨b3, p3, vs, ds, hvl, hvD, hda, hds⟩ := hP
          refine ⟨rfl, _, rfl, _, rfl, _, _, rfl, rfl, pl, sc, ?_, p3, fun H4 v d b4 p4 dv hw hb => ?_⟩
          · exact dec1 pl m
          · have hv4 : H4 D = some (.lst vs) := b4.at hvD nD
            have hnl : ∀ x ∈ ds ++ [d], NoL x := fun x hx => by
              rcases List.mem_append.mp hx with hx | hx
              · exact (hds x hx).1.noL
              · rw [List.mem_singleton.mp hx]; exact hw.noL
            refine ⟨vs, hv4, by rw [hvl]; exact Nat.lt_of_lt_of_le (by omega : i < 4) (by decide), (b3.trans b4).upd_new hD nD, p4.upd nD (fun e => by obtain ⟨_, l, hl⟩ := p2.sc_at; rw [e, hD] at hl; cases hl), vs ++ [v], ds ++ [d], by rw [List.length_append, hvl]; rfl, upd_same, ?_, fun x hx => ?_⟩
            · rw [hid_upd nD]
              exact dps_upd (l := vs) (by rw [hid_at nD]; exact hv4) _ _ ((L2.DpAll.same hda b4).app (.cons dv .nil)) hnl
            · rcases List.mem_append.mp hx with hx | hx
              · exact hds x hx
              · rw [List.mem_singleton.mp hx]; exact ⟨hw, hb⟩
        · obtain ⟨b3, p3, vs, ds, hvl, hvD, hda, hds⟩ := hP
          refine ⟨D, vs, rfl, .inl ⟨sql_new hvD, fun t ht => ?_⟩⟩
          have nt := p3.ne ht
          have hl : ds.length = r2 := by rw [← hda.len, hvl]
          refine q _ _ (.tuple ds) (b1.trans (b2.trans (b3.upd_new' ht nt))) (p3.upd nt (p3.nes ht)) ?_ (.tup (by omega) fun d hd => (hds d hd).1) ?_
          · rw [hid_upd nt]
            exact .tup (sqt_new upd_same) (hda.same (Same.one (hid_none ht)))
          · have := wbs_le ds (B := bnd m) fun d hd => (hds d hd).2
            rw [wb, bnd]
            have h3 : ds.length * (bnd m + 1) ≤ 3 * (bnd m + 1) := Nat.mul_le_mul_right _ (by omega)
            omega
theorem ok_some : ∀ n, FnOk P w K mg base CX0 (n + 4) (He.ga K "_law_some_value") T.d__law_some_value ["pool", "deep"] (spSome K n)
  | 0 => some_step T 0 ⟨fun _ _ _ _ h => h.1, fun _ _ _ _ _ _ _ _ _ _ _ _ _ h => h.2.elim⟩
  | n + 1 => some_step T (n + 1) (ok_some n)
end
end K16

set_option Elab.async false
set_option linter.all false
set_option maxRecDepth 100000
set_option maxHeartbeats 4000000
/-! k16: a text repeated -/
namespace K16
open PySem PySem.Spec PyProof.Rows L2
theorem rep_size (x : Array Nat) : ∀ (n : Nat) (acc : Array Nat), ((List.replicate n x).foldl (· ++ ·) acc).size = acc.size + n * x.size
  | 0, acc => by simp
  | n + 1, acc => by
    rw [List.replicate_succ, List.foldl_cons, rep_size x n, Array.size_append, Nat.add_mul]; omega
def rMulS : R2 := fun x y H Q => ∃ (z : Str) (n : Nat), x = .str z ∧ y = .int (n : Nat) ∧ 1 < n ∧ n ≤ 1000 ∧ z.length = 1 ∧ ∀ r : Str, r.length = n → Q (.str r) H
theorem op_mul_str {X : Cx} : OpR X (binaryOp .Mult) rMulS := by
  intro pins s σ H x y v u Q I rx ry h
  obtain ⟨z, n, rfl, rfl, h1, h2, hz, q⟩ := h
  obtain ⟨t, rfl⟩ := rx
  obtain ⟨t', rfl⟩ := ry
  have hl : (⟨(List.replicate ((n : Nat) : Int).toNat z.cps).foldl (· ++ ·) #[]⟩ : Str).length = n := by
    show ((List.replicate ((n : Nat) : Int).toNat z.cps).foldl (· ++ ·) #[]).size = n
    rw [rep_size, Int.toNat_natCast]
    have : z.cps.size = 1 := hz
    rw [this]; simp
  refine PySem.P.mul_str (by rw [decide_eq_false (by omega), decide_eq_false (by omega)]; rfl) (fun _ _ => ?_) (fun _ _ => ?_) ?_
  · rw [hz]
    have : ((1 : Nat) : Int) ≤ (2 ^ 63 - 1) / ((n : Nat) : Int) := Int.le_ediv_of_mul_le (by omega) (by omega)
    omega
  · rw [hz, Int.toNat_natCast, Nat.one_mul]
    unfold Builtin.Str.tooLong
    have : n ≤ sizeLine := Nat.le_trans h2 (by decide)
    exact decide_eq_false (by omega)
  · rw [if_neg (by omega), if_neg (by rw [hz]; simp; omega)]
    refine ⟨by rw [hl]; exact Nat.le_trans h2 (by decide), ?_⟩
    exact ⟨.str _, H, I.tok _, ⟨_, rfl⟩, q _ hl⟩
end K16

set_option Elab.async false
set_option linter.all false
set_option maxRecDepth 100000
set_option maxHeartbeats 4000000
namespace K16
open PySem PySem.Spec PyProof.Rows L2
abbrev dI1 : PyData := .tuple [.str "int"]
abbrev dTree : PyData := .tuple [.str "named", .str "main", .str "tree"]
def dTypes : PyData := .tuple [.tuple [.str "pair", .str "record", .tuple [.tuple [.str "one", dI1], .tuple [.str "two", dI1]]], .tuple [.str "tree", .str "sum", .tuple [.tuple [.str "leaf", .tuple [dI1]], .tuple [.str "node", .tuple [dTree, dTree]]]]]
def tbl1 : List PyData := [.tuple [.str "lib", .str "inc", dI1, .tuple [dI1]], .tuple [.str "lib", .str "odd", .tuple [.str "bool"], .tuple [dI1]]]
def tbl2 : List PyData := [.tuple [.str "main", .str "go", dI1, .tuple [dI1]], .tuple [.str "main", .str "sub", dI1, .tuple [dI1, dI1]], .tuple [.str "main", .str "mk", dTree, .tuple [dI1]]]
theorem wok_types : wokB 7 dTypes = true := by decide +kernel
theorem wb_types : wb dTypes ≤ 2000 := by decide +kernel
theorem wok_table : wokB 7 (.tuple (tbl1 ++ tbl2)) = true := by decide +kernel
theorem wb_table : wb (.tuple (tbl1 ++ tbl2)) ≤ 2000 := by decide +kernel
def dLast : PyData := .tuple [.tuple [.int 3, .int 4], .tuple [.str "give", .int 7]]
theorem wok_last : wokB 7 dLast = true := by decide +kernel
theorem wb_last : wb dLast ≤ 2000 := by decide +kernel
def spTypes (K : PySem.W.Frag) : Sp := fun vs H Q _ => vs = [] ∧ ∀ H' v, Same H H' → Dp K H' v dTypes → Q v H'
def spTable (K : PySem.W.Frag) : Sp := fun vs H Q _ => vs = [] ∧ ∀ (H' : Hp) (l : Addr) (xs : List V), Same H H' → H' l = some (.lst xs) → DpAll K H' xs (tbl1 ++ tbl2) → Q (.ref l) H'
theorem len_le_text (t : Str) (h : t.length ≤ 100000) : t.length ≤ sizeLine := Nat.le_trans h (by decide)
section
variable {P : Program} {w : World} {K : PySem.W.Frag} {mg : Str → Option Value} {base : Heap} (T : Txt K mg)
include T
theorem ok_value_of : FnD P w K mg base CX0 312 (He.ga K "_law_value_of") T.d__law_value_of ["text"] (spTold K) := by
  have G__law_taken := ok_taken (P := P) (w := w) (base := base) T 310
  refine T.F__law_value_of.okD sc_law_value_of (k := 311) (fun vs H Q E h => ?_) (fun cdv A outer s H vs Q E hr h => ?_)
  · obtain ⟨t, rfl, _⟩ := h; rfl
  · obtain ⟨t, rfl, ht, q⟩ := h
    refine ⟨_, PSs.nox (pss_cons (ps_set (i := 1) sc_law_value_of.nd rfl (.inl rfl) (pe_callD G__law_taken (hr.mono (by omega)) (by rfl) T.g__law_taken T.F__law_taken.kp T.b__law_taken pass00 (pa_cons (pv 0) (pa_cons pe_int (pa_cons pe_int pa_nil)))))
    (pss_one (ps_ret (pe_ifExp (PW.pt (pw_and (pt_cmpR op_notN (pv 1) pe_non (nomark _)) (pw_and1 (pt_cmpR op_eq (pe_ix (r := rIxT K) ix_tup (pv 1) pe_int (fun _ _ => rfl)) (pe_callB call_len_str (by rfl) T.len (by decide +kernel) (pa_cons (pv 0) pa_nil)) (nomark _))))) (pe_lst (pa_cons (pe_ix (r := rIxT K) ix_tup (pv 1) pe_int (fun _ _ => rfl)) pa_nil)) pe_non)))), ?_⟩
    have hz := len_le_text t ht
    have hcl : t.cps.toList.length = t.length := by simp [Str.length]
    refine ⟨_, rfl, t, 0, rfl, ht, fun hv H1 s1 => ?_, fun d e hv H1 p v s1 hp dv => ?_⟩
    · have e0 : resD t = .none := by unfold resD wholeN; rw [hv]
      refine ⟨_, rfl, rfl, _, rfl, ?_⟩
      refine iteF (iteF (q _ _ s1 ?_))
      rw [e0]; exact .non
    · refine ⟨_, rfl, rfl, _, rfl, ?_⟩
      have e7 : decide (V.ref p = V.non) = false := decide_eq_false (fun z => nomatch z)
      rw [e7]
      refine iteT ⟨_, rfl, _, _, 1, _, rfl, rfl, hp, atI_nat (j := 1) rfl, _, rfl, t, rfl, hz, rfl, _, rfl, ?_⟩
      rw [dI]
      refine ite2 (fun c => ?_) (fun c => ?_)
      · have he := of_decide_eq_true c
        have e0 : resD t = .list [d] := by
          unfold resD wholeN; rw [hv]
          dsimp only
          rw [if_pos (by omega)]
        refine ⟨_, rfl, _, _, 0, _, rfl, rfl, hp, atI_nat (j := 0) rfl, (by show 1 ≤ sizeLine; decide), fun l hl => q _ _ (s1.upd_new (s1.free hl)) ?_⟩
        rw [e0]
        exact .lst (sql_new upd_same) (.cons (dv.same (Same.one hl)) .nil)
      · have he : ¬ ((e : Nat) : Int) = (t.length : Nat) := fun z => c (decide_eq_true z)
        have e0 : resD t = .none := by
          unfold resD wholeN; rw [hv]
          dsimp only
          rw [if_neg (by omega)]
        refine q _ _ s1 ?_
        rw [e0]; exact .non
theorem ok_types : FnOk P w K mg base CX0 1 (He.ga K "_law_types") T.d__law_types [] (spTypes K) := by
  refine T.F__law_types.ok sc_law_types (fun vs H Q E h => ?_) (fun cdv A outer s H vs Q E hr h => ?_)
  · obtain ⟨rfl, _⟩ := h; rfl
  · obtain ⟨rfl, q⟩ := h
    refine ⟨_, PSs.nox (pss_cons (ps_set (i := 0) sc_law_types.nd rfl (.inl rfl) (pe_dtup (pa_dcons stb_T pe_dstr (pa_dcons stb_T pe_dstr (pa_dcons stb_T pe_dstr pa_dnil)))))
    (pss_one (ps_ret (pe_dtup (pa_dcons stb_V (pe_dtup (pa_dcons stb_V pe_dstr (pa_dcons stb_V pe_dstr (pa_dcons stb_V (pe_dtup (pa_dcons stb_V (pe_dtup (pa_dcons stb_V pe_dstr (pa_dcons stb_V (pe_dtup (pa_dcons stb_V pe_dstr pa_dnil)) pa_dnil))) (pa_dcons stb_V (pe_dtup (pa_dcons stb_V pe_dstr (pa_dcons stb_V (pe_dtup (pa_dcons stb_V pe_dstr pa_dnil)) pa_dnil))) pa_dnil))) pa_dnil)))) (pa_dcons stb_V (pe_dtup (pa_dcons stb_V pe_dstr (pa_dcons stb_V pe_dstr (pa_dcons stb_V (pe_dtup (pa_dcons stb_V (pe_dtup (pa_dcons stb_V pe_dstr (pa_dcons stb_V (pe_dtup (pa_dcons stb_V (pe_dtup (pa_dcons stb_V pe_dstr pa_dnil)) pa_dnil)) pa_dnil))) (pa_dcons stb_V (pe_dtup (pa_dcons stb_V pe_dstr (pa_dcons stb_V (pe_dtup (pa_dcons stb_V (pe_dvar (d := dTree) (fun _ _ z => z) (pv 0)) (pa_dcons stb_V (pe_dvar (d := dTree) (fun _ _ z => z) (pv 0)) pa_dnil))) pa_dnil))) pa_dnil))) pa_dnil)))) pa_dnil)))))), ?_⟩
    exact ⟨trivial, fun H1 v s1 dv => ⟨⟨v, rfl, dv⟩, fun H2 u s2 du => q _ _ (s1.trans s2) du⟩⟩
theorem ok_table : FnOk P w K mg base CX0 1 (He.ga K "_law_table") T.d__law_table [] (spTable K) := by
  refine T.F__law_table.ok sc_law_table (fun vs H Q E h => ?_) (fun cdv A outer s H vs Q E hr h => ?_)
  · obtain ⟨rfl, _⟩ := h; rfl
  · obtain ⟨rfl, q⟩ := h
    refine ⟨_, PSs.nox (pss_cons (ps_set (i := 0) sc_law_table.nd rfl (.inl rfl) (pe_dtup (pa_dcons stb_T pe_dstr pa_dnil)))
    (pss_cons (ps_set (i := 1) sc_law_table.nd rfl (.inl rfl) (pe_lst (pa_cons (pe_dtup (pa_dcons stb_V pe_dstr (pa_dcons stb_V pe_dstr (pa_dcons stb_V (pe_dvar (d := dI1) (fun _ _ z => z) (pv 0)) (pa_dcons stb_V (pe_dtup (pa_dcons stb_V (pe_dvar (d := dI1) (fun _ _ z => z) (pv 0)) pa_dnil)) pa_dnil))))) (pa_cons (pe_dtup (pa_dcons stb_V pe_dstr (pa_dcons stb_V pe_dstr (pa_dcons stb_V (pe_dtup (pa_dcons stb_V pe_dstr pa_dnil)) (pa_dcons stb_V (pe_dtup (pa_dcons stb_V (pe_dvar (d := dI1) (fun _ _ z => z) (pv 0)) pa_dnil)) pa_dnil))))) pa_nil))))
    (pss_one (ps_ret (pe_op op_cat (pv 1) (pe_lst (pa_cons (pe_dtup (pa_dcons stb_V pe_dstr (pa_dcons stb_V pe_dstr (pa_dcons stb_V (pe_dvar (d := dI1) (fun _ _ z => z) (pv 0)) (pa_dcons stb_V (pe_dtup (pa_dcons stb_V (pe_dvar (d := dI1) (fun _ _ z => z) (pv 0)) pa_dnil)) pa_dnil))))) (pa_cons (pe_dtup (pa_dcons stb_V pe_dstr (pa_dcons stb_V pe_dstr (pa_dcons stb_V (pe_dvar (d := dI1) (fun _ _ z => z) (pv 0)) (pa_dcons stb_V (pe_dtup (pa_dcons stb_V (pe_dvar (d := dI1) (fun _ _ z => z) (pv 0)) (pa_dcons stb_V (pe_dvar (d := dI1) (fun _ _ z => z) (pv 0)) pa_dnil))) pa_dnil))))) (pa_cons (pe_dtup (pa_dcons stb_V pe_dstr (pa_dcons stb_V pe_dstr (pa_dcons stb_V (pe_dtup (pa_dcons stb_V pe_dstr (pa_dcons stb_V pe_dstr (pa_dcons stb_V pe_dstr pa_dnil)))) (pa_dcons stb_V (pe_dtup (pa_dcons stb_V (pe_dvar (d := dI1) (fun _ _ z => z) (pv 0)) pa_dnil)) pa_dnil))))) pa_nil))))))))), ?_⟩
    refine ⟨trivial, fun H1 v s1 dv => ?_⟩
    refine ⟨⟨v, rfl, dv⟩, fun H2 a1 s2 d1 => ⟨⟨v, rfl, dv.same s2⟩, fun H3 a2 s3 d2 => ⟨(by show 2 ≤ sizeLine; decide), fun l hl => ?_⟩⟩⟩
    have s4 : Same H3 (upd H3 l (.lst [a1, a2])) := Same.one hl
    have dv4 := dv.same (s2.trans (s3.trans s4))
    refine ⟨_, rfl, ⟨v, rfl, dv4⟩, fun H5 b1 s5 e1 => ⟨⟨v, rfl, dv4.same s5⟩, fun H6 b2 s6 e2 => ⟨⟨v, rfl, dv4.same (s5.trans s6)⟩, fun H7 b3 s7 e3 => ⟨(by show 3 ≤ sizeLine; decide), fun m hm => ?_⟩⟩⟩⟩
    have s8 : Same H7 (upd H7 m (.lst [b1, b2, b3])) := Same.one hm
    have hl8 : (upd H7 m (.lst [b1, b2, b3])) l = some (.lst [a1, a2]) := (s5.trans (s6.trans (s7.trans s8))) _ _ upd_same
    refine ⟨l, m, [a1, a2], [b1, b2, b3], rfl, rfl, hl8, upd_same, (by show 5 ≤ sizeLine; decide), fun r hr => ?_⟩
    have s9 : Same (upd H7 m (.lst [b1, b2, b3])) (upd (upd H7 m (.lst [b1, b2, b3])) r (.lst ([a1, a2] ++ [b1, b2, b3]))) := Same.one hr
    have sB := s8.trans s9
    have s57 := s5.trans (s6.trans s7)
    refine q _ r _ (s1.trans (s2.trans (s3.trans (s4.trans (s57.trans sB))))) upd_same ?_
    refine .cons (d1.same (s3.trans (s4.trans (s57.trans sB)))) (.cons (d2.same (s4.trans (s57.trans sB))) (.cons (e1.same (s6.trans (s7.trans sB))) (.cons (e2.same (s7.trans sB)) (.cons (e3.same sB) .nil))))
end
end K16

set_option Elab.async false
set_option linter.all false
set_option maxRecDepth 100000
set_option maxHeartbeats 4000000
namespace K16
open PySem PySem.Spec PyProof.Rows L2
theorem str_ok (cs : List Nat) (i : Nat) : PyData.strOk (toS (cutN cs i (runE isW cs i))) = true := by
  rw [cut_run]
  show (((cs.drop i).takeWhile isW).toArray).all (· < 0x110000) = true
  rw [← Array.all_toList, List.all_eq_true]
  intro c hc
  have := isW_lt (takeWhile_all _ c (by simpa using hc))
  exact decide_eq_true (by omega)
theorem depth_all {n : Nat} : ∀ (ds : List PyData), (∀ d ∈ ds, d.depth ≤ n) → PyData.depthAll ds ≤ n
  | [], _ => by rw [PyData.depthAll]; exact Nat.zero_le _
  | d :: ds, h => by
    rw [dp_cons]
    exact Nat.max_le.mpr ⟨h d List.mem_cons_self, depth_all ds fun e he => h e (List.mem_cons_of_mem _ he)⟩
def Sd (n : Nat) (d : PyData) : Prop := Sml d ∧ d.depth ≤ n
theorem sd_tup {n : Nat} {ds : List PyData} (h : ∀ d ∈ ds, Sd n d) (l : ds.length ≤ 100000) : Sd (n + 1) (.tuple ds) :=
  ⟨.tup l fun d hd => (h d hd).1, by rw [PyData.depth]; have := depth_all ds fun d hd => (h d hd).2; omega⟩
theorem num_sd {cs : List Nat} {n i e : Nat} {d : PyData} (h : numN cs i = some (d, e)) : Sd n d := by
  unfold numN at h
  split at h
  · injection h with h; injection h with h _; rw [← h]; exact ⟨.int _, by rw [PyData.depth]; exact Nat.zero_le _⟩
  · cases h
theorem many_sd {v : Nat → Option (PyData × Nat)} {cs : List Nat} {n : Nat} (hl : cs.length ≤ 100000) (hv : ∀ i p h, v i = some (p, h) → Sd n p ∧ i < h ∧ h ≤ cs.length) : ∀ (f i : Nat) (acc : List PyData) (d : PyData) (e : Nat), (∀ x ∈ acc, Sd n x) → acc.length ≤ i → manyN v cs f i acc = some (d, e) → Sd (n + 1) d
  | 0, _, _, _, _, _, _, h => by cases h
  | f + 1, i, acc, d, e, ha, hal, h => by
    rw [manyN] at h
    cases q : v i with
    | none => rw [q] at h; cases h
    | some r =>
      obtain ⟨p, k⟩ := r
      rw [q] at h
      have hp := hv i p k q
      have ha2 : ∀ x ∈ acc ++ [p], Sd n x := fun x hx => by
        rcases List.mem_append.mp hx with hx | hx
        · exact ha x hx
        · rw [List.mem_singleton.mp hx]; exact hp.1
      have hl2 : (acc ++ [p]).length ≤ k := by rw [List.length_append, List.length_singleton]; omega
      dsimp only at h
      split at h
      · injection h with h; injection h with h _; rw [← h]; exact sd_tup ha2 (by omega)
      · split at h
        · exact many_sd hl hv f (k + 1) _ d e ha2 (by omega) h
        · cases h
theorem val_sd {cs : List Nat} (hl : cs.length ≤ 100000) : ∀ (n i e : Nat) (d : PyData), valN cs n i = some (d, e) → Sd n d
  | 0, i, e, d, h => by
    rw [valN] at h
    split at h
    · injection h with h; injection h with h _; rw [← h]; exact ⟨.str (str_ok _ _), by rw [PyData.depth]; exact Nat.zero_le _⟩
    · split at h
      · cases h
      · exact num_sd h
  | n + 1, i, e, d, h => by
    rw [valN] at h
    split at h
    · injection h with h; injection h with h _; rw [← h]; exact ⟨.str (str_ok _ _), by rw [PyData.depth]; exact Nat.zero_le _⟩
    · split at h
      · unfold partsN at h
        split at h
        · injection h with h; injection h with h _; rw [← h]; exact sd_tup (fun d hd => by simp at hd) (Nat.zero_le _)
        · exact many_sd hl (fun i p h z => ⟨val_sd hl n i h p z, val_le n i h p z⟩) _ _ _ _ _ (fun d hd => by simp at hd) (Nat.zero_le _) h
      · exact num_sd h
theorem res_sd {t : Str} (h : t.length ≤ 100000) : Sml (resD t) ∧ (resD t).depth < 312 := by
  have hl : t.cps.toList.length ≤ 100000 := by rw [show t.cps.toList.length = t.length from by simp [Str.length]]; exact h
  unfold resD wholeN
  cases q : valN t.cps.toList 310 0 with
  | none => exact ⟨.non, by rw [PyData.depth]; omega⟩
  | some r =>
    obtain ⟨d, e⟩ := r
    have hs := val_sd hl 310 0 e d q
    dsimp only
    split
    · rename_i d' hd'
      split at hd'
      · injection hd' with hd'
        subst hd'
        refine ⟨.lst (by simp) fun x hx => by rw [List.mem_singleton.mp hx]; exact hs.1, ?_⟩
        rw [PyData.depth]
        have := depth_all [d] (n := 310) fun x hx => by rw [List.mem_singleton.mp hx]; exact hs.2
        omega
      · cases hd'
    · exact ⟨.non, by rw [PyData.depth]; omega⟩
/-- texts that are tried -/
def Tried (H : Hp) (l : Addr) : Prop := ∃ ts : List Str, H l = some (.lst (ts.map V.str)) ∧ ts.length ≤ 1000 ∧ ∀ t ∈ ts, t.length ≤ 100000
theorem Tried.same {H H' : Hp} {l : Addr} (h : Tried H l) (s : Same H H') : Tried H' l := by
  obtain ⟨ts, a, b⟩ := h
  exact ⟨ts, s _ _ a, b⟩
abbrev lawN : List Str := ["script", "pool", "tried", "k", "text", "j"]
abbrev lawX (P : Program) (w : World) (K : PySem.W.Frag) (mg : Str → Option Value) (base : Heap) (cdv : Value) (A : Around) (outer : List Env) (s : Shared) (H0 : Hp) (E : XK) : Cx := (cxOf CX0 P w K mg base lawN "law" (defScope s_law) (He.ga K "law") cdv A outer s H0 E).nox
abbrev lawSt (i : Nat) : Stmt := (defBody s_law).getD i (.Pass ⟨0, 0, 0, 0⟩)
abbrev slots (a pl l : Addr) (x3 x4 x5 : Option V) : L2.St := [some (.ref a), some (.ref pl), some (.ref l), x3, x4, x5]
abbrev LRoom (A : Around) (s : Shared) (K : PySem.W.Frag) (cdv : Value) : Prop := Room 229 (A.deeper (envOfC "law" (defScope s_law) s.heap.objs.size (He.ga K "law") cdv))
section
variable {P : Program} {w : World} {K : PySem.W.Frag} {mg : Str → Option Value} {base : Heap} (T : Txt K mg)
include T
theorem bt5 {cdv : Value} {A : Around} {outer : List Env} {s : Shared} {H0 : Hp} {E : XK} (hr : LRoom A s K cdv) :
    ∃ tt : TS, PS (lawX P w K mg base cdv A outer s H0 E) (lawSt 5) tt ∧ ∀ (D : Ends) (H9 : Hp) (a pl l : Addr) (x3 x4 x5 : Option V), Tried H9 l →
      (∀ H x4, Same H9 H → D.nx (slots a pl l x3 x4 x5) H) → tt D (slots a pl l x3 x4 x5) H9 := by
  have G__law_told := ok_told (P := P) (w := w) (base := base) T
  have G__law_value_of := ok_value_of (P := P) (w := w) (base := base) T
  have G__law_same := ok_same (P := P) (w := w) (base := base) T 312
  refine ⟨_, (ps_for PassesOwn.never rfl (pi_list (pv 2)) (pg_name (i := 4) sc_law.nd rfl (.inr rfl))
    (pss_one (ps_if (pt_not (pt_val (pe_callD G__law_same (roomD_of hr (by decide) (by decide)) (by rfl) T.g__law_same T.F__law_same.kp T.b__law_same pass00 (pa_cons (pe_callD G__law_told (roomD_of hr (by decide) (by decide)) (by rfl) T.g__law_told T.F__law_told.kp T.b__law_told pass00 (pa_cons (pv 4) pa_nil)) (pa_cons (pe_callD G__law_value_of (roomD_of hr (by decide) (by decide)) (by rfl) T.g__law_value_of T.F__law_value_of.kp T.b__law_value_of pass00 (pa_cons (pv 4) pa_nil)) pa_nil)))))
    (pss_one (ps_ret pe_bl))
    pss_nil))), ?_⟩
  intro D H9 a pl l x3 x4 x5 hL q
  obtain ⟨ts, eL, hlen, hts⟩ := hL
  refine ⟨_, rfl, l, rfl, ⟨_, sql_new eL⟩, ?_⟩
  refine for_list (K := K) (a := l) (xs := ts.map V.str) (fun _ σ H' => Same H9 H' ∧ ∃ x4, σ = slots a pl l x3 x4 x5) ⟨Same.refl _, _, rfl⟩ (fun _ σ H' _ h => sql_new (h.1 _ _ eL)) (fun i va σ H' hi h => ?_) (fun σ H' h => ?_)
  rotate_left
  · obtain ⟨s1, y4, rfl⟩ := h
    exact q H' y4 s1
  obtain ⟨s1, y4, rfl⟩ := h
  rw [List.getElem?_map] at hi
  obtain ⟨t, ht, rfl⟩ := Option.map_eq_some_iff.mp hi
  have htl := hts t (List.mem_of_getElem? ht)
  have hsd := res_sd htl
  refine ⟨_, rfl, t, rfl, htl, fun H1 v1 s2 d1 => ⟨_, rfl, t, rfl, htl, fun H2 v2 s3 d2 => ⟨v1, v2, resD t, rfl, hsd.2, hsd.1, d1.same s3, d2, fun H3 s4 => ⟨_, rfl, ?_⟩⟩⟩⟩
  exact iteF ⟨s1.trans (s2.trans (s3.trans s4)), _, rfl⟩
end
end K16

set_option Elab.async false
set_option linter.all false
set_option maxRecDepth 100000
set_option maxHeartbeats 4000000
namespace K16
open PySem PySem.Spec PyProof.Rows L2
theorem sqt_hid {K : PySem.W.Frag} {G : Hp} {D a : Addr} {l xs : List V} (h : SqT K G a xs) (hD : G D = some (.lst l)) : SqT K (hid D G) a xs := by
  rcases h with (h | ⟨b, h⟩) | h
  · exact .inl (.inl (by rw [hid_at (fun e => by rw [e, hD] at h; cases h)]; exact h))
  · exact .inl (.inr ⟨b, by rw [hid_at (fun e => by rw [e, hD] at h; cases h)]; exact h⟩)
  · exact .inr h
mutual
theorem dp_hid {K : PySem.W.Frag} {G : Hp} {D : Addr} {l : List V} (hD : G D = some (.lst l)) : ∀ (d : PyData) (v : V), Dp K G v d → NoL d → Dp K (hid D G) v d
  | .none, _, _, n => by cases n
  | .bool _, _, _, n => by cases n
  | .int _, _, h, _ => by cases h; exact .int _
  | .str x, _, h, _ => by cases h; exact .str x
  | .list _, _, _, n => by cases n
  | .dict _, _, _, n => by cases n
  | .tuple ds, _, h, n => by cases h with | tup hs ha => exact .tup (sqt_hid hs hD) (dps_hid hD ds _ ha n.inn)
theorem dps_hid {K : PySem.W.Frag} {G : Hp} {D : Addr} {l : List V} (hD : G D = some (.lst l)) : ∀ (ds : List PyData) (vs : List V), DpAll K G vs ds → (∀ d ∈ ds, NoL d) → DpAll K (hid D G) vs ds
  | [], _, h, _ => by cases h; exact .nil
  | d :: ds, _, h, n => by
    cases h with
    | cons h1 h2 => exact .cons (dp_hid hD d _ h1 (n d List.mem_cons_self)) (dps_hid hD ds _ h2 fun e he => n e (List.mem_cons_of_mem _ he))
end
theorem Pool.lst {pl sc : Addr} {H : Hp} (h : Pool pl sc H) : ∃ l, H pl = some (.lst l) := by
  obtain ⟨_, _, _, _, _, h1, _⟩ := h
  exact ⟨_, h1⟩
/-- a drawn value that is written -/
def Wv (K : PySem.W.Frag) (pl : Addr) (H : Hp) (v : V) : Prop := ∃ d, Dp K (hid pl H) v d ∧ WOk 7 d ∧ wb d ≤ 2000
theorem Wv.but {K : PySem.W.Frag} {pl : Addr} {H H' : Hp} {v : V} (h : Wv K pl H v) (b : But pl H H') : Wv K pl H' v := by
  obtain ⟨d, a, r⟩ := h
  exact ⟨d, Dp.same a b, r⟩
theorem wv_of {K : PySem.W.Frag} {pl sc : Addr} {H : Hp} {v : V} {d : PyData} (p : Pool pl sc H) (h : Dp K H v d) (w : WOk 7 d) (b : wb d ≤ 2000) : Wv K pl H v := by
  obtain ⟨l, hl⟩ := p.lst
  exact ⟨d, dp_hid hl d v h w.noL, w, b⟩
theorem wok_le {n m : Nat} (h : n ≤ m) {d : PyData} (w : WOk n d) : WOk m d := by
  induction h with
  | refl => exact w
  | step _ ih => exact wok_up ih
def TriedN (H : Hp) (l : Addr) (n : Nat) : Prop := ∃ ts : List Str, H l = some (.lst (ts.map V.str)) ∧ ts.length ≤ n ∧ ∀ t ∈ ts, t.length ≤ 100000
theorem app_ok {a b : List Str} (ha : ∀ t ∈ a, t.length ≤ 100000) (hb : ∀ t ∈ b, t.length ≤ 100000) : ∀ t ∈ a ++ b, t.length ≤ 100000 := fun t ht => by
  rcases List.mem_append.mp ht with h | h
  · exact ha t h
  · exact hb t h
section
variable {P : Program} {w : World} {K : PySem.W.Frag} {mg : Str → Option Value} {base : Heap} (T : Txt K mg)
include T
theorem bt4 {cdv : Value} {A : Around} {outer : List Env} {s : Shared} {H0 : Hp} {E : XK} (hr : LRoom A s K cdv) :
    ∃ tt : TS, PS (lawX P w K mg base cdv A outer s H0 E) (lawSt 4) tt ∧ ∀ (D : Ends) (H9 : Hp) (a pl sc l : Addr) (x3 x4 x5 : Option V), Pool pl sc H9 → l ≠ pl → TriedN H9 l 100 →
      (∀ H l x3 x4 x5, Tried H l → D.nx (slots a pl l x3 x4 x5) H) → tt D (slots a pl l x3 x4 x5) H9 := by
  have G_write_value := ok_write (P := P) (w := w) (base := base) T 7
  have G__law_pick := ok_pick (P := P) (w := w) (base := base) T
  have G__law_types := ok_types (P := P) (w := w) (base := base) T
  have G__law_table := ok_table (P := P) (w := w) (base := base) T
  have G__law_some_value := ok_some (P := P) (w := w) (base := base) T 4
  have G__law_garbled := ok_garbled (P := P) (w := w) (base := base) T
  refine ⟨_, (ps_for PassesOwn.never rfl (pi_range1 (by rfl) T.range (pa_cons pe_int pa_nil)) (pg_name (i := 3) sc_law.nd rfl (.inl rfl))
    (pss_cons (ps_set (i := 4) sc_law.nd rfl (.inr rfl) (pe_call G_write_value (hr.mono (by omega)) (by rfl) T.g_write_value T.F_write_value.kp T.b_write_value .nil pass0 (pa_cons (pe_call G__law_pick (hr.mono (by omega)) (by rfl) T.g__law_pick T.F__law_pick.kp T.b__law_pick .nil pass0 (pa_cons (pv 1) (pa_cons (pe_lst (pa_cons (pe_call0 G__law_types (hr.mono (by omega)) (by rfl) T.g__law_types T.F__law_types.kp T.b__law_types .nil pass0) (pa_cons (pe_callTy (r := rTupOf K) call_tuple_of (by rfl) T.tuple (by decide +kernel) (pa_cons (pe_call0 G__law_table (hr.mono (by omega)) (by rfl) T.g__law_table T.F__law_table.kp T.b__law_table .nil pass0) pa_nil)) (pa_cons (pe_call G__law_some_value (hr.mono (by omega)) (by rfl) T.g__law_some_value T.F__law_some_value.kp T.b__law_some_value .nil pass0 (pa_cons (pv 1) (pa_cons pe_int pa_nil))) (pa_cons (pe_dtup (pa_dcons stb_T (pe_dtup (pa_dcons stb_T pe_dint (pa_dcons stb_T pe_dint pa_dnil))) (pa_dcons stb_T (pe_dtup (pa_dcons stb_T pe_dstr (pa_dcons stb_T pe_dint pa_dnil))) pa_dnil))) pa_nil))))) pa_nil))) pa_nil)))
    (pss_one (ps_set (i := 2) sc_law.nd rfl (.inl rfl) (pe_op op_cat (pe_op op_cat (pv 2) (pe_lc (own := [("j", 5)]) (g := gName 5) (tt := tYes) (by rfl) sc_law.nd (pi_range1 (by rfl) T.range (pa_cons pe_int pa_nil)) (blkOk_by (own := [("j", 5)]) (N := ["script", "pool", "tried", "k", "text", "j"]) (sc := defScope s_law) (by decide +kernel)) (fun _ _ _ _ _ => (pg_name (i := 5) sc_law.nd rfl (.inl rfl))) (fun _ _ _ _ _ => pts_nil) (fun _ _ _ _ _ => (pe_call G__law_garbled (hr.mono (by omega)) (by rfl) T.g__law_garbled T.F__law_garbled.kp T.b__law_garbled .nil pass0 (pa_cons (pv 1) (pa_cons (pv 4) (pa_cons pe_str pa_nil))))))) (pe_lst (pa_cons (pv 4) (pa_cons (pe_op op_add_str (pv 4) pe_str) (pa_cons (pe_op op_add_str (pe_op op_add_str pe_str (pv 4)) pe_str) (pa_cons (pe_op op_add_str (pv 4) pe_str) (pa_cons (pe_op op_add_str (pe_op op_add_str pe_str (pv 4)) pe_str) pa_nil))))))))))), ?_⟩
  intro D H9 a pl sc l x3 x4 x5 hp hlp hL q
  refine ⟨6, rfl, by decide, by decide, ?_⟩
  refine for_range (lo := 0) (n := 6) (fun i σ H' => Pool pl sc H' ∧ ∃ l x3 x4 x5, l ≠ pl ∧ TriedN H' l (100 + 9 * i) ∧ σ = slots a pl l x3 x4 x5) ⟨hp, _, _, _, _, hlp, hL, rfl⟩ (fun i σ H1 hi h => ?_) (fun σ H1 h => ?_)
  rotate_left
  · obtain ⟨p1, l, x3, x4, x5, hlp, ⟨ts, e1, e2, e3⟩, rfl⟩ := h
    exact q _ _ _ _ _ ⟨ts, e1, by omega, e3⟩
  clear hL hlp hp q
  obtain ⟨p1, l, x3, x4, x5, hlp, ⟨ts, e1, e2, e3⟩, rfl⟩ := h
  refine ⟨_, rfl, rfl, fun H2 v1 s2 d1 => ?_⟩
  have p2 := p1.same s2
  refine ⟨rfl, fun H3 lt xs s3 hlt dxs => ⟨lt, xs, rfl, .inl ⟨sql_new hlt, fun t2 ht2 => ?_⟩⟩⟩
  have p3 := p2.same s3
  have w3 : Wv K pl H3 v1 := wv_of p3 (d1.same s3) (wok_of 7 _ wok_types) wb_types
  have s4 : Same H3 (upd H3 t2 (.tup xs)) := Same.one ht2
  have p4 := p3.same s4
  have w4 : Wv K pl (upd H3 t2 (.tup xs)) (.ref t2) := wv_of p4 (.tup (sqt_new upd_same) (dxs.same s4)) (wok_of 7 _ wok_table) wb_table
  have w4' := w3.but (s4.but pl)
  have sA : Same H1 (upd H3 t2 (.tup xs)) := s2.trans (s3.trans s4)
  have el4 : (upd H3 t2 (.tup xs)) l = some (.lst (ts.map V.str)) := sA _ _ e1
  revert p4 w4 w4' el4
  generalize upd H3 t2 (.tup xs) = H4
  intro p4 w4 w4' el4
  refine ⟨_, rfl, pl, sc, rfl, p4, fun H5 v5 d5 b5 p5 dv5 hw5 hb5 => ?_⟩
  have w5 : Wv K pl H5 v5 := ⟨d5, dv5, wok_le (by omega) hw5, Nat.le_trans hb5 (by decide)⟩
  refine ⟨trivial, fun H6 v6 s6 d6 => ⟨(by show 4 ≤ sizeLine; decide), fun tl htl => ?_⟩⟩
  have p6 := p5.same s6
  have w6 : Wv K pl H6 v6 := wv_of p6 d6 (wok_of 7 dLast wok_last) wb_last
  have ntl := p6.ne htl
  have p7 := p6.upd (o := .lst [v1, .ref t2, v5, v6]) ntl (p6.nes htl)
  have b7 : But pl H6 (upd H6 tl (.lst [v1, .ref t2, v5, v6])) := (But.refl pl H6).upd_new htl ntl
  have b47 : But pl H4 (upd H6 tl (.lst [v1, .ref t2, v5, v6])) := b5.trans ((s6.but pl).trans b7)
  have wall : ∀ (i : Nat) (x : V), ([v1, .ref t2, v5, v6] : List V)[i]? = some x → Wv K pl (upd H6 tl (.lst [v1, .ref t2, v5, v6])) x := fun i x hx => by
    match i, hx with
    | 0, hx => cases hx; exact w4'.but b47
    | 1, hx => cases hx; exact w4.but b47
    | 2, hx => cases hx; exact w5.but ((s6.but pl).trans b7)
    | 3, hx => cases hx; exact w6.but b7
  refine ⟨pl, sc, .ref tl, 4, rfl, p7, by decide, by decide, .inl ⟨tl, [v1, .ref t2, v5, v6], rfl, .inl (by rw [hid_upd ntl]; exact sql_new upd_same), rfl, fun H8 i x b8 p8 hx => ?_⟩⟩
  obtain ⟨d8, dd8, hw8, hb8⟩ := (wall i x hx).but b8
  have el8 : H8 l = some (.lst (ts.map V.str)) := (b47.trans b8).at el4 hlp
  clear wall w6 w5 w4 w4' w3
  refine ⟨x, d8, rfl, hw8, by omega, dd8.same (hid_le pl H8), fun HA tx sA8 htx => ?_⟩
  have pA := p8.same sA8
  have elA := sA8 _ _ el8
  have htx2 : tx.length ≤ 2000 := by omega
  refine ⟨_, rfl, 4, rfl, by decide, by decide, fun Dn hDn => ?_⟩
  have nDn := pA.ne hDn
  have hline : (100000 : Nat) ≤ sizeLine := by decide
  have sg1 : (Str.ofString "[]0 1-a_9").length = 9 := by decide +kernel
  have g1 : (Str.ofString "]").length ≤ 10 := by decide +kernel
  have g2 : (Str.ofString "[").length ≤ 10 := by decide +kernel
  have g3 : (Str.ofString " 1").length ≤ 10 := by decide +kernel
  have g4 : (Str.ofString " x]").length ≤ 10 := by decide +kernel
  refine lc_range (lo := 0) (n := 4) (fun i H' => But pl HA H' ∧ Pool pl sc H' ∧ ∃ ys : List Str, ys.length = i ∧ H' Dn = some (.lst (ys.map V.str)) ∧ ∀ y ∈ ys, y.length ≤ 100000)
    ⟨(But.refl pl HA).upd_new hDn nDn, pA.upd nDn (pA.nes hDn), [], rfl, upd_same, fun y hy => by simp at hy⟩ (fun j HB hj hP => ?_) (fun HB hP => ?_)
  · obtain ⟨bB, pB, ys, hyl, hyD, hys⟩ := hP
    refine ⟨rfl, _, rfl, _, rfl, pl, sc, tx, _, rfl, pB, by omega, by rw [sg1]; decide, by rw [sg1]; decide, fun HC y bC pC hy => ?_⟩
    refine ⟨ys.map V.str, bC.at hyD nDn, by rw [List.length_map, hyl]; exact Nat.lt_of_lt_of_le (by omega : j < 4) (by decide), (bB.trans bC).upd_new hDn nDn, pC.upd nDn (fun e => by obtain ⟨_, l', hl'⟩ := pA.sc_at; rw [e, hDn] at hl'; cases hl'), ys ++ [y], by rw [List.length_append, hyl]; rfl, ?_, ?_⟩
    · rw [upd_same, List.map_append]; rfl
    · refine app_ok hys fun t ht => ?_
      rw [List.mem_singleton.mp ht]; omega
  obtain ⟨bB, pB, ys, hyl, hyD, hys⟩ := hP
  have elB := bB.at elA hlp
  refine ⟨l, Dn, _, _, rfl, rfl, elB, hyD, by rw [List.length_map, List.length_map]; omega, fun r hr' => ?_⟩
  have nr := pB.ne hr'
  have pC := pB.upd (o := .lst (ts.map V.str ++ ys.map V.str)) nr (pB.nes hr')
  have hrC : (upd HB r (.lst (ts.map V.str ++ ys.map V.str))) r = some (.lst (ts.map V.str ++ ys.map V.str)) := upd_same
  revert pC hrC
  generalize upd HB r (.lst (ts.map V.str ++ ys.map V.str)) = HC
  intro pC hrC
  refine ⟨_, rfl, _, rfl, _, _, rfl, rfl, by omega, _, rfl, _, _, rfl, rfl, by omega, _, _, rfl, rfl, by rw [str_app]; omega, _, rfl, _, _, rfl, rfl, by omega, _, rfl, _, _, rfl, rfl, by omega, _, _, rfl, rfl, by rw [str_app]; omega, (by show 5 ≤ sizeLine; decide), fun u hu => ?_⟩
  have nu := pC.ne hu
  have pD := pC.upd (o := .lst [.str tx, .str (tx ++ Str.ofString "]"), .str ((Str.ofString "[" ++ tx) ++ Str.ofString "]"), .str (tx ++ Str.ofString " 1"), .str ((Str.ofString "[" ++ tx) ++ Str.ofString " x]")]) nu (pC.nes hu)
  have sD : Same HC (upd HC u (.lst [.str tx, .str (tx ++ Str.ofString "]"), .str ((Str.ofString "[" ++ tx) ++ Str.ofString "]"), .str (tx ++ Str.ofString " 1"), .str ((Str.ofString "[" ++ tx) ++ Str.ofString " x]")])) := Same.one hu
  have hrD := sD _ _ hrC
  refine ⟨r, u, _, _, rfl, rfl, hrD, upd_same, by rw [List.length_append, List.length_map, List.length_map]; simp only [List.length_cons, List.length_nil]; omega, fun f hf => ?_⟩
  have nf := pD.ne hf
  refine ⟨pD.upd nf (pD.nes hf), f, _, _, _, nf, ⟨ts ++ ys ++ [tx, tx ++ Str.ofString "]", (Str.ofString "[" ++ tx) ++ Str.ofString "]", tx ++ Str.ofString " 1", (Str.ofString "[" ++ tx) ++ Str.ofString " x]"], ?_, ?_, ?_⟩, rfl⟩
  · rw [upd_same, List.map_append, List.map_append]; rfl
  · rw [List.length_append, List.length_append]; simp only [List.length_cons, List.length_nil]; omega
  · refine app_ok (app_ok e3 hys) fun t ht => ?_
    simp only [List.mem_cons, List.not_mem_nil, or_false] at ht
    rcases ht with rfl | rfl | rfl | rfl | rfl
    · omega
    · rw [str_app]; omega
    · rw [str_app, str_app]; omega
    · rw [str_app]; omega
    · rw [str_app, str_app]; omega
end
end K16

set_option Elab.async false
set_option linter.all false
set_option maxRecDepth 100000
set_option maxHeartbeats 4000000
namespace K16
open PySem PySem.Spec PyProof.Rows L2
def spLaw (K : PySem.W.Frag) : Sp := fun vs H Q _ => ∃ (a : Addr) (ns : List Int), vs = [.ref a] ∧ SqL K H a (ns.map V.int) ∧ ns.length ≤ 63 ∧ ∀ H', Q (.bl true) H'
abbrev x0 (a : Addr) (pl : Option V) (l : Option V) : L2.St := [some (.ref a), pl, l, none, none, none]
theorem ts_ok (ts : List Str) (n : Nat) (h : (ts.all fun t => decide (t.length ≤ 1000)) = true) (hl : ts.length ≤ n) : ts.length ≤ n ∧ ∀ t ∈ ts, t.length ≤ 100000 :=
  ⟨hl, fun t ht => by have := of_decide_eq_true (List.all_eq_true.mp h t ht); omega⟩
abbrev tr1 : List Str := ["", " ", "[", "]", "[]", "[ ]", "[1 ]", "[ 1]", "[1  2]", "[1 2", "1 2", "[1] ", " [1]", "[1][2]", "[[]", "[]]", "-", "-0", "00", "01", "-01", "1000000", "-999999"]
abbrev tr2 : List Str := ["a", "A", "a1", "1a", "[a b]", "[a-1]", "[1,2]", "--1", "+1", "[1[2]]", "[[1]2]", "[[1]a]", "a_", "[a1a 1]"]
theorem tr_all : ((tr1 ++ tr2).all fun t => decide (t.length ≤ 1000)) = true := by decide +kernel
theorem trs {ts : List Str} (h : ts ⊆ tr1 ++ tr2) : ∀ t ∈ ts, t.length ≤ 100000 := fun t ht => by have := of_decide_eq_true (List.all_eq_true.mp tr_all t (h ht)); omega
section
variable {P : Program} {w : World} {K : PySem.W.Frag} {mg : Str → Option Value} {base : Heap} (T : Txt K mg)
include T
theorem bt0 {cdv : Value} {A : Around} {outer : List Env} {s : Shared} {H0 : Hp} {E : XK} (hr : LRoom A s K cdv) :
    ∃ tt : TS, PS (lawX P w K mg base cdv A outer s H0 E) (lawSt 0) tt ∧ ∀ (D : Ends) (H9 : Hp) (a : Addr) (ns : List Int), SqL K H9 a (ns.map V.int) → ns.length ≤ 1000 →
      (∀ H pl sc, Pool pl sc H → D.nx (x0 a (some (.ref pl)) none) H) → tt D (x0 a none none) H9 := by
  have G__law_pool := ok_pool (P := P) (w := w) (base := base) T
  refine ⟨_, (ps_set (i := 1) sc_law.nd rfl (.inr rfl) (pe_call G__law_pool (hr.mono (by omega)) (by rfl) T.g__law_pool T.F__law_pool.kp T.b__law_pool .nil pass0 (pa_cons (pv 0) pa_nil))), ?_⟩
  intro D H9 a ns hs hl q
  exact ⟨_, rfl, a, ns, rfl, hs, hl, fun H' p sc _ _ hp => q H' p sc hp⟩
theorem bt1 {cdv : Value} {A : Around} {outer : List Env} {s : Shared} {H0 : Hp} {E : XK} (hr : LRoom A s K cdv) :
    ∃ tt : TS, PS (lawX P w K mg base cdv A outer s H0 E) (lawSt 1) tt ∧ ∀ (D : Ends) (H9 : Hp) (a pl sc : Addr), Pool pl sc H9 →
      (∀ H l, Pool pl sc H → l ≠ pl → TriedN H l 23 → D.nx (x0 a (some (.ref pl)) (some (.ref l))) H) → tt D (x0 a (some (.ref pl)) none) H9 := by
  refine ⟨_, (ps_set (i := 2) sc_law.nd rfl (.inl rfl) (pe_lst (pa_cons pe_str (pa_cons pe_str (pa_cons pe_str (pa_cons pe_str (pa_cons pe_str (pa_cons pe_str (pa_cons pe_str (pa_cons pe_str (pa_cons pe_str (pa_cons pe_str (pa_cons pe_str (pa_cons pe_str (pa_cons pe_str (pa_cons pe_str (pa_cons pe_str (pa_cons pe_str (pa_cons pe_str (pa_cons pe_str (pa_cons pe_str (pa_cons pe_str (pa_cons pe_str (pa_cons pe_str (pa_cons pe_str pa_nil))))))))))))))))))))))))), ?_⟩
  intro D H9 a pl sc hp q
  refine ⟨(by decide), fun l hl => ?_⟩
  have nl := hp.ne hl
  exact q _ l (hp.upd nl (hp.nes hl)) nl ⟨tr1, upd_same, by decide, trs (List.subset_append_left _ _)⟩
theorem bt2 {cdv : Value} {A : Around} {outer : List Env} {s : Shared} {H0 : Hp} {E : XK} (hr : LRoom A s K cdv) :
    ∃ tt : TS, PS (lawX P w K mg base cdv A outer s H0 E) (lawSt 2) tt ∧ ∀ (D : Ends) (H9 : Hp) (a pl sc l : Addr), Pool pl sc H9 → l ≠ pl → TriedN H9 l 23 →
      (∀ H l, Pool pl sc H → l ≠ pl → TriedN H l 37 → D.nx (x0 a (some (.ref pl)) (some (.ref l))) H) → tt D (x0 a (some (.ref pl)) (some (.ref l))) H9 := by
  refine ⟨_, (ps_set (i := 2) sc_law.nd rfl (.inl rfl) (pe_op op_cat (pv 2) (pe_lst (pa_cons pe_str (pa_cons pe_str (pa_cons pe_str (pa_cons pe_str (pa_cons pe_str (pa_cons pe_str (pa_cons pe_str (pa_cons pe_str (pa_cons pe_str (pa_cons pe_str (pa_cons pe_str (pa_cons pe_str (pa_cons pe_str (pa_cons pe_str pa_nil))))))))))))))))), ?_⟩
  intro D H9 a pl sc l hp hlp hL q
  obtain ⟨ts, e1, e2, e3⟩ := hL
  refine ⟨_, rfl, (by decide), fun m hm => ?_⟩
  have nm := hp.ne hm
  have p1 := hp.upd (o := .lst (tr2.map V.str)) nm (hp.nes hm)
  have s1 : Same H9 (upd H9 m (.lst (tr2.map V.str))) := Same.one hm
  refine ⟨l, m, ts.map V.str, tr2.map V.str, rfl, rfl, s1 _ _ e1, upd_same, ?_, fun f hf => ?_⟩
  · rw [List.length_map, List.length_map]
    exact Nat.le_trans (Nat.add_le_add e2 (by decide : tr2.length ≤ 14)) (by decide)
  have nf := p1.ne hf
  refine q _ f (p1.upd nf (p1.nes hf)) nf ⟨ts ++ tr2, ?_, ?_, app_ok e3 (trs (List.subset_append_right _ _))⟩
  · rw [List.map_append]; exact upd_same
  · rw [List.length_append]; exact Nat.add_le_add e2 (by decide : tr2.length ≤ 14)
theorem bt3 {cdv : Value} {A : Around} {outer : List Env} {s : Shared} {H0 : Hp} {E : XK} (hr : LRoom A s K cdv) :
    ∃ tt : TS, PS (lawX P w K mg base cdv A outer s H0 E) (lawSt 3) tt ∧ ∀ (D : Ends) (H9 : Hp) (a pl sc l : Addr), Pool pl sc H9 → l ≠ pl → TriedN H9 l 37 →
      (∀ H l, Pool pl sc H → l ≠ pl → TriedN H l 100 → D.nx (x0 a (some (.ref pl)) (some (.ref l))) H) → tt D (x0 a (some (.ref pl)) (some (.ref l))) H9 := by
  refine ⟨_, (ps_set (i := 2) sc_law.nd rfl (.inl rfl) (pe_op op_cat (pv 2) (pe_lst (pa_cons (pe_op op_add_str (pe_op op_mul_str pe_str pe_int) (pe_op op_mul_str pe_str pe_int)) (pa_cons (pe_op op_add_str (pe_op op_mul_str pe_str pe_int) (pe_op op_mul_str pe_str pe_int)) (pa_cons (pe_op op_mul_str pe_str pe_int) (pa_cons (pe_op op_add_str (pe_op op_add_str (pe_op op_mul_str pe_str pe_int) pe_str) (pe_op op_mul_str pe_str pe_int)) pa_nil))))))), ?_⟩
  intro D H9 a pl sc l hp hlp hL q
  obtain ⟨ts, e1, e2, e3⟩ := hL
  have g1 : (Str.ofString "]").length = 1 := by decide +kernel
  have g2 : (Str.ofString "[").length = 1 := by decide +kernel
  have g3 : (Str.ofString "1").length = 1 := by decide +kernel
  have hline : (100000 : Nat) ≤ sizeLine := by decide
  refine ⟨_, rfl, ?_⟩
  refine ⟨_, 310, rfl, rfl, by decide, by decide, g2, fun r1 h1 => ⟨_, 310, rfl, rfl, by decide, by decide, g1, fun r2 h2 => ⟨_, _, rfl, rfl, by omega, ?_⟩⟩⟩
  refine ⟨_, 311, rfl, rfl, by decide, by decide, g2, fun r3 h3 => ⟨_, 311, rfl, rfl, by decide, by decide, g1, fun r4 h4 => ⟨_, _, rfl, rfl, by omega, ?_⟩⟩⟩
  refine ⟨_, 500, rfl, rfl, by decide, by decide, g2, fun r5 h5 => ?_⟩
  refine ⟨_, 309, rfl, rfl, by decide, by decide, g2, fun r6 h6 => ⟨_, _, rfl, rfl, by omega, ⟨_, 309, rfl, rfl, by decide, by decide, g1, fun r7 h7 => ⟨_, _, rfl, rfl, by rw [str_app]; omega, ?_⟩⟩⟩⟩
  refine ⟨(by show 4 ≤ sizeLine; decide), fun m hm => ?_⟩
  have nm := hp.ne hm
  have p1 := hp.upd (o := .lst [.str (r1 ++ r2), .str (r3 ++ r4), .str r5, .str ((r6 ++ Str.ofString "1") ++ r7)]) nm (hp.nes hm)
  have s1 : Same H9 (upd H9 m (.lst [.str (r1 ++ r2), .str (r3 ++ r4), .str r5, .str ((r6 ++ Str.ofString "1") ++ r7)])) := Same.one hm
  refine ⟨l, m, ts.map V.str, _, rfl, rfl, s1 _ _ e1, upd_same, ?_, fun f hf => ?_⟩
  · rw [List.length_map]; simp only [List.length_cons, List.length_nil]; omega
  have nf := p1.ne hf
  refine q _ f (p1.upd nf (p1.nes hf)) nf ⟨ts ++ [r1 ++ r2, r3 ++ r4, r5, (r6 ++ Str.ofString "1") ++ r7], ?_, ?_, app_ok e3 fun t ht => ?_⟩
  · rw [List.map_append]; exact upd_same
  · rw [List.length_append]; simp only [List.length_cons, List.length_nil]; omega
  · simp only [List.mem_cons, List.not_mem_nil, or_false] at ht
    rcases ht with rfl | rfl | rfl | rfl
    · rw [str_app]; omega
    · rw [str_app]; omega
    · omega
    · rw [str_app, str_app]; omega
theorem ok_law : FnOk P w K mg base CX0 230 (He.ga K "law") T.d_law ["script"] (spLaw K) := by
  refine T.F_law.ok sc_law (fun vs H Q E h => ?_) (fun cdv A outer s H vs Q E hr h => ?_)
  · obtain ⟨a, ns, rfl, _⟩ := h; rfl
  · obtain ⟨a, ns, rfl, hS, hlen, q⟩ := h
    obtain ⟨t0, h0, r0⟩ := bt0 (P := P) (w := w) (base := base) T (outer := outer) (H0 := H) (E := E) hr
    obtain ⟨t1, h1, r1⟩ := bt1 (P := P) (w := w) (base := base) T (outer := outer) (H0 := H) (E := E) hr
    obtain ⟨t2, h2, r2⟩ := bt2 (P := P) (w := w) (base := base) T (outer := outer) (H0 := H) (E := E) hr
    obtain ⟨t3, h3, r3⟩ := bt3 (P := P) (w := w) (base := base) T (outer := outer) (H0 := H) (E := E) hr
    obtain ⟨t4, h4, r4⟩ := bt4 (P := P) (w := w) (base := base) T (outer := outer) (H0 := H) (E := E) hr
    obtain ⟨t5, h5, r5⟩ := bt5 (P := P) (w := w) (base := base) T (outer := outer) (H0 := H) (E := E) hr
    refine ⟨_, PSs.nox (pss_cons h0 (pss_cons h1 (pss_cons h2 (pss_cons h3 (pss_cons h4 (pss_cons h5 (pss_one (ps_ret pe_bl)))))))), ?_⟩
    refine r0 _ _ a ns hS (by omega) fun H1 pl sc hp => ?_
    refine r1 _ _ a pl sc hp fun H2 l2 p2 n2 g2 => ?_
    refine r2 _ _ a pl sc l2 p2 n2 g2 fun H3 l3 p3 n3 g3 => ?_
    refine r3 _ _ a pl sc l3 p3 n3 g3 fun H4 l4 p4 n4 g4 => ?_
    refine r4 _ _ a pl sc l4 none none none p4 n4 g4 fun H5 l5 y3 y4 y5 g5 => ?_
    exact r5 _ _ a pl l5 y3 y4 y5 g5 fun H6 z4 s6 => q H6
end
end K16

set_option Elab.async false
set_option linter.all false
set_option maxRecDepth 100000
set_option maxHeartbeats 0
namespace K16
open PySem PySem.Spec PyProof.Rows L2
theorem law_of {P : Program} {w : World} {K : PySem.W.Frag} {h : Heap} {mg : Str → Option Value} {f : Addr} (X : K.In h) (G : h.Ns mainGlobals mg) (hfa : mg ("law" : Str) = some (.ref f)) (c : He.SaysD faL fnL K) :
    ∃ fd : FuncData, (∀ (s : Shared) (v : Value), BindsTo s fd ⟨[v], []⟩ [("script", v)]) ∧ ∀ base : Heap, K.In base → base.Ns mainGlobals mg → FnOk P w K mg base CX0 230 f fd ["script"] (spLaw K) := by
  obtain ⟨T⟩ := txt_of X G c
  have e := hfa.symm.trans T.g_law
  cases e
  have b := FunD.bindsA (ps := ["script"]) T.F_law fun _ _ _ _ _ _ us hl => match us, hl with | [_], _ => rfl
  exact ⟨T.d_law, fun s v => b s [v] rfl, fun base _ _ => ok_law T⟩
end K16
open PySem PySem.W PySem.Calls PyProof.Rows in
theorem PySem.Challenge.cw_wholedown_k16_faulty_texts_of_values_holds : PySem.Challenge.rw_wholedown_k16_faulty_texts_of_values.Holds := by
  w_on; o_law
  refine HandSHeadRun.head_any (r := OpenLaw.row PySem.Challenge.rw_wholedown_k16_faulty_texts_of_values) (q := view (OpenLaw.row PySem.Challenge.rw_wholedown_k16_faulty_texts_of_values).prog [27]) (H := K16.hk) (ob := K16.ob) (M := 20000) (loose := K16.looseN) (d := HandSHeadRun.topDef (OpenLaw.row PySem.Challenge.rw_wholedown_k16_faulty_texts_of_values).prog 27) (kwd := []) K16.ob_eq
    (by kernel_rfl) (fun s => by kernel_rfl) K16.run (by kernel_rfl) (by kernel_rfl) (by kernel_rfl) (by rfl) (by first | assumption | decide +kernel) (by decide +kernel) ⟨rfl, rfl, rfl, rfl, rfl, by decide +kernel⟩ ?hw ?hc
  case hw => w_witness2
  case hc =>
    refine L2.walk_ofE (l := PySem.Challenge.rw_wholedown_k16_faulty_texts_of_values) (n := 63) (k := 230) (x := "script") (CX := L2.CX0) rfl (by decide) (by kernel_rfl) ⟨rfl, by decide, by decide⟩ ?F (fun _ _ _ _ z => z)
    intro w mg fa h Y G hmg0
    obtain ⟨K, KX, c⟩ := Y
    have hmg : mg ("law" : PySem.Str) = some (.ref fa) := by
      have e : (HandSHeadRun.topDef (OpenLaw.row PySem.Challenge.rw_wholedown_k16_faulty_texts_of_values).prog 27).name = ("law" : PySem.Str) := by kernel_rfl
      rw [← e]
      exact hmg0
    obtain ⟨fd, hb, hF⟩ := K16.law_of (P := (PySem.Challenge.rw_wholedown_k16_faulty_texts_of_values).prog) (w := w) KX G hmg c
    exact ⟨K, fd, K16.spLaw K, KX, hb, fun H a ns hl _ hS => ⟨a, ns, rfl, hS, hl, fun _ => rfl⟩, hF⟩


