import PyProof.Rows.All
import Wide.All
import OpenK.AllK
import Wide.FinOn
import HandS.ForMost
import HandS.HeadHook4
import HandS.HeadNt
import HandS.HeadEnd
import HandS.Head0
import HandS.Head1
import HandS.Head2
import HandS.IsInst
import HandS.Star
import HandS.Deep
import HandS.DictTup
import HandS.Walk
import HandS.TupLe
import HandS.Codes
import HandS.WideBits
import PySem.Challenge.RW_stillroom_k22_whole_whatever_is_read_is
import HandS.ListItems
import PyProof.TupleOfSeq
import PyProof.TupleOfGen
set_option Elab.async false
set_option linter.all false
set_option maxRecDepth 100000
/-! The text of the row by places (printed by gen_txt.py). -/
namespace K22
open PySem PySem.Spec PyProof.Rows L2
def top (i : Nat) : Stmt := PySem.Challenge.pw_stillroom_k22_whole_whatever_is_read_is.main.body.getD i (.Pass ⟨0, 0, 0, 0⟩)
abbrev s_spend : Stmt := top 4
abbrev s_digit_value : Stmt := top 7
abbrev s_to_hex : Stmt := top 8
abbrev s_hex_bytes : Stmt := top 9
abbrev s_is_integer : Stmt := top 15
abbrev s_is_data : Stmt := top 16
abbrev s_are_pairs : Stmt := top 17
abbrev s_is_sound : Stmt := top 18
abbrev s_is_value : Stmt := top 19
abbrev s_is_book : Stmt := top 20
abbrev s_first_pages : Stmt := top 21
abbrev s_find : Stmt := top 22
abbrev s_get : Stmt := top 23
abbrev s_is_digit : Stmt := top 48
abbrev s_is_regular : Stmt := top 49
abbrev s_bounded_number : Stmt := top 50
abbrev s_word_integer : Stmt := top 51
abbrev s_unescape : Stmt := top 52
abbrev m_init : Stmt := inClass (top 53) 0
abbrev m_here : Stmt := inClass (top 53) 1
abbrev m_starts : Stmt := inClass (top 53) 2
abbrev m_skip_white : Stmt := inClass (top 53) 3
abbrev m_skip_space : Stmt := inClass (top 53) 4
abbrev m_word : Stmt := inClass (top 53) 5
abbrev m_mark_end : Stmt := inClass (top 53) 6
abbrev m_take_mark : Stmt := inClass (top 53) 7
abbrev m_is_mark : Stmt := inClass (top 53) 8
abbrev m_value : Stmt := inClass (top 53) 9
abbrev m_word_value : Stmt := inClass (top 53) 10
abbrev m_plain_value : Stmt := inClass (top 53) 11
abbrev m_text : Stmt := inClass (top 53) 12
abbrev m_escape : Stmt := inClass (top 53) 13
abbrev m_list_value : Stmt := inClass (top 53) 14
abbrev m_dict_value : Stmt := inClass (top 53) 15
abbrev m_stream_value : Stmt := inClass (top 53) 16
abbrev m_stream_data : Stmt := inClass (top 53) 17
abbrev s_read_objects : Stmt := top 54
abbrev s_read_book : Stmt := top 55
abbrev s_codes : Stmt := top 59
abbrev s_write_name : Stmt := top 60
abbrev s_write_text : Stmt := top 61
abbrev s_join : Stmt := top 62
abbrev s_write_pairs : Stmt := top 63
abbrev s_write_parts : Stmt := top 64
abbrev s_write_book : Stmt := top 65
abbrev s_law_cell : Stmt := top 67
abbrev s_law_twice : Stmt := top 68
abbrev s_law_piece : Stmt := top 70
abbrev s_law_any : Stmt := top 71
abbrev s_law_deep : Stmt := top 72
abbrev s_law_sound : Stmt := top 73
abbrev s_law : Stmt := top 74
/-- the defs, for the head -/
def fns : List He.DefD := [⟨("spend", none), "spend", "spend", defArgs s_spend, defBody s_spend, defScope s_spend, [], []⟩,
  ⟨("digit_value", none), "digit_value", "digit_value", defArgs s_digit_value, defBody s_digit_value, defScope s_digit_value, [], []⟩,
  ⟨("to_hex", none), "to_hex", "to_hex", defArgs s_to_hex, defBody s_to_hex, defScope s_to_hex, [], []⟩,
  ⟨("hex_bytes", none), "hex_bytes", "hex_bytes", defArgs s_hex_bytes, defBody s_hex_bytes, defScope s_hex_bytes, [], []⟩,
  ⟨("is_integer", none), "is_integer", "is_integer", defArgs s_is_integer, defBody s_is_integer, defScope s_is_integer, [], []⟩,
  ⟨("is_data", none), "is_data", "is_data", defArgs s_is_data, defBody s_is_data, defScope s_is_data, [], []⟩,
  ⟨("are_pairs", none), "are_pairs", "are_pairs", defArgs s_are_pairs, defBody s_are_pairs, defScope s_are_pairs, [], []⟩,
  ⟨("is_sound", none), "is_sound", "is_sound", defArgs s_is_sound, defBody s_is_sound, defScope s_is_sound, [], []⟩,
  ⟨("is_value", none), "is_value", "is_value", defArgs s_is_value, defBody s_is_value, defScope s_is_value, [], []⟩,
  ⟨("is_book", none), "is_book", "is_book", defArgs s_is_book, defBody s_is_book, defScope s_is_book, [], []⟩,
  ⟨("first_pages", none), "first_pages", "first_pages", defArgs s_first_pages, defBody s_first_pages, defScope s_first_pages, [], []⟩,
  ⟨("find", none), "find", "find", defArgs s_find, defBody s_find, defScope s_find, [], []⟩,
  ⟨("get", none), "get", "get", defArgs s_get, defBody s_get, defScope s_get, [], []⟩,
  ⟨("is_digit", none), "is_digit", "is_digit", defArgs s_is_digit, defBody s_is_digit, defScope s_is_digit, [], []⟩,
  ⟨("is_regular", none), "is_regular", "is_regular", defArgs s_is_regular, defBody s_is_regular, defScope s_is_regular, [], []⟩,
  ⟨("bounded_number", none), "bounded_number", "bounded_number", defArgs s_bounded_number, defBody s_bounded_number, defScope s_bounded_number, [], []⟩,
  ⟨("word_integer", none), "word_integer", "word_integer", defArgs s_word_integer, defBody s_word_integer, defScope s_word_integer, [], []⟩,
  ⟨("unescape", none), "unescape", "unescape", defArgs s_unescape, defBody s_unescape, defScope s_unescape, [], []⟩,
  ⟨("Reader", some "__init__"), "__init__", "Reader.__init__", defArgs m_init, defBody m_init, defScope m_init, [], []⟩,
  ⟨("Reader", some "here"), "here", "Reader.here", defArgs m_here, defBody m_here, defScope m_here, [], []⟩,
  ⟨("Reader", some "starts"), "starts", "Reader.starts", defArgs m_starts, defBody m_starts, defScope m_starts, [], []⟩,
  ⟨("Reader", some "skip_white"), "skip_white", "Reader.skip_white", defArgs m_skip_white, defBody m_skip_white, defScope m_skip_white, [], []⟩,
  ⟨("Reader", some "skip_space"), "skip_space", "Reader.skip_space", defArgs m_skip_space, defBody m_skip_space, defScope m_skip_space, [], []⟩,
  ⟨("Reader", some "word"), "word", "Reader.word", defArgs m_word, defBody m_word, defScope m_word, [], []⟩,
  ⟨("Reader", some "mark_end"), "mark_end", "Reader.mark_end", defArgs m_mark_end, defBody m_mark_end, defScope m_mark_end, [], []⟩,
  ⟨("Reader", some "take_mark"), "take_mark", "Reader.take_mark", defArgs m_take_mark, defBody m_take_mark, defScope m_take_mark, [], []⟩,
  ⟨("Reader", some "is_mark"), "is_mark", "Reader.is_mark", defArgs m_is_mark, defBody m_is_mark, defScope m_is_mark, [], []⟩,
  ⟨("Reader", some "value"), "value", "Reader.value", defArgs m_value, defBody m_value, defScope m_value, [], []⟩,
  ⟨("Reader", some "word_value"), "word_value", "Reader.word_value", defArgs m_word_value, defBody m_word_value, defScope m_word_value, [], []⟩,
  ⟨("Reader", some "plain_value"), "plain_value", "Reader.plain_value", defArgs m_plain_value, defBody m_plain_value, defScope m_plain_value, [], []⟩,
  ⟨("Reader", some "text"), "text", "Reader.text", defArgs m_text, defBody m_text, defScope m_text, [], []⟩,
  ⟨("Reader", some "escape"), "escape", "Reader.escape", defArgs m_escape, defBody m_escape, defScope m_escape, [], []⟩,
  ⟨("Reader", some "list_value"), "list_value", "Reader.list_value", defArgs m_list_value, defBody m_list_value, defScope m_list_value, [], []⟩,
  ⟨("Reader", some "dict_value"), "dict_value", "Reader.dict_value", defArgs m_dict_value, defBody m_dict_value, defScope m_dict_value, [], []⟩,
  ⟨("Reader", some "stream_value"), "stream_value", "Reader.stream_value", defArgs m_stream_value, defBody m_stream_value, defScope m_stream_value, [], []⟩,
  ⟨("Reader", some "stream_data"), "stream_data", "Reader.stream_data", defArgs m_stream_data, defBody m_stream_data, defScope m_stream_data, [], []⟩,
  ⟨("read_objects", none), "read_objects", "read_objects", defArgs s_read_objects, defBody s_read_objects, defScope s_read_objects, [], []⟩,
  ⟨("read_book", none), "read_book", "read_book", defArgs s_read_book, defBody s_read_book, defScope s_read_book, [], []⟩,
  ⟨("codes", none), "codes", "codes", defArgs s_codes, defBody s_codes, defScope s_codes, [], []⟩,
  ⟨("write_name", none), "write_name", "write_name", defArgs s_write_name, defBody s_write_name, defScope s_write_name, [], []⟩,
  ⟨("write_text", none), "write_text", "write_text", defArgs s_write_text, defBody s_write_text, defScope s_write_text, [], []⟩,
  ⟨("join", none), "join", "join", defArgs s_join, defBody s_join, defScope s_join, [], []⟩,
  ⟨("write_pairs", none), "write_pairs", "write_pairs", defArgs s_write_pairs, defBody s_write_pairs, defScope s_write_pairs, [], []⟩,
  ⟨("write_parts", none), "write_parts", "write_parts", defArgs s_write_parts, defBody s_write_parts, defScope s_write_parts, [], []⟩,
  ⟨("write_book", none), "write_book", "write_book", defArgs s_write_book, defBody s_write_book, defScope s_write_book, [], []⟩,
  ⟨("_law_cell", none), "_law_cell", "_law_cell", defArgs s_law_cell, defBody s_law_cell, defScope s_law_cell, [], []⟩,
  ⟨("_law_twice", none), "_law_twice", "_law_twice", defArgs s_law_twice, defBody s_law_twice, defScope s_law_twice, [], []⟩,
  ⟨("_law_piece", none), "_law_piece", "_law_piece", defArgs s_law_piece, defBody s_law_piece, defScope s_law_piece, [], []⟩,
  ⟨("_law_any", none), "_law_any", "_law_any", defArgs s_law_any, defBody s_law_any, defScope s_law_any, [], []⟩,
  ⟨("_law_deep", none), "_law_deep", "_law_deep", defArgs s_law_deep, defBody s_law_deep, defScope s_law_deep, [], []⟩,
  ⟨("_law_sound", none), "_law_sound", "_law_sound", defArgs s_law_sound, defBody s_law_sound, defScope s_law_sound, [], []⟩,
  ⟨("law", none), "law", "law", defArgs s_law, defBody s_law, defScope s_law, [], []⟩]
def fas : List He.Fa := [.glo "spend",
  .glo "digit_value",
  .glo "to_hex",
  .glo "hex_bytes",
  .glo "is_integer",
  .glo "is_data",
  .glo "are_pairs",
  .glo "is_sound",
  .glo "is_value",
  .glo "is_book",
  .glo "first_pages",
  .glo "find",
  .glo "get",
  .glo "is_digit",
  .glo "is_regular",
  .glo "bounded_number",
  .glo "word_integer",
  .glo "unescape",
  .meth "Reader" "here",
  .meth "Reader" "starts",
  .meth "Reader" "skip_white",
  .meth "Reader" "skip_space",
  .meth "Reader" "word",
  .meth "Reader" "mark_end",
  .meth "Reader" "take_mark",
  .meth "Reader" "is_mark",
  .meth "Reader" "value",
  .meth "Reader" "word_value",
  .meth "Reader" "plain_value",
  .meth "Reader" "text",
  .meth "Reader" "escape",
  .meth "Reader" "list_value",
  .meth "Reader" "dict_value",
  .meth "Reader" "stream_value",
  .meth "Reader" "stream_data",
  .glo "read_objects",
  .glo "read_book",
  .glo "codes",
  .glo "write_name",
  .glo "write_text",
  .glo "join",
  .glo "write_pairs",
  .glo "write_parts",
  .glo "write_book",
  .glo "_law_cell",
  .glo "_law_twice",
  .glo "_law_piece",
  .glo "_law_any",
  .glo "_law_deep",
  .glo "_law_sound",
  .glo "law",
  .free "abs",
  .free "all",
  .free "bool",
  .free "int",
  .free "isinstance",
  .free "len",
  .free "list",
  .free "max",
  .free "min",
  .free "ord",
  .free "range",
  .free "sorted",
  .free "str",
  .free "tuple",
  .int "MOST_DEEP" 16,
  .int "MOST_NUMBER" 9999,
  .int "GREATEST" 2147483647,
  .int "LONGEST" 999999999,
  .int "TEXT" 40,
  .int "TEXT_END" 41,
  .int "LESS" 60,
  .int "MORE" 62,
  .int "LIST" 91,
  .int "LIST_END" 93,
  .int "OPEN_DATA" 123,
  .int "CLOSE_DATA" 125,
  .int "NAME" 47,
  .int "REMARK" 37,
  .int "OBJECT" 35,
  .int "REFERENCE" 64,
  .int "BACKSLASH" 92,
  .int "TILDE" 126,
  .int "MINUS" 45,
  .int "LINE_FEED" 10,
  .int "SPACE" 32,
  .str "SMALL" "0123456789abcdef",
  .glo "Reader",
  .cls "Reader",
  .noat "Reader" "data",
  .noat "Reader" "at",
  .mkr "Reader",
  .glo "WHITE",
  .glo "SIGNS",
  .glo "LINE_ENDS",
  .glo "ROOT",
  .glo "TRUE",
  .glo "FALSE",
  .glo "NONE",
  .glo "ESCAPES"]
/-- the dict ESCAPES, as the top has left it -/
def escB (K : PySem.W.Frag) : Bool := match K.lookup (He.ga K "ESCAPES") with
  | some ⟨.type c, none, .dict es _, sl⟩ => decide (c = "dict" ∧ sl.size = 0) && (decide ((He.ga K "ESCAPES" == sysModules) = false) && (match es.toList with
    | [⟨h1, .int k1 _, .int v1 _⟩, ⟨h2, .int k2 _, .int v2 _⟩, ⟨h3, .int k3 _, .int v3 _⟩] => decide (h1 = 110 ∧ k1 = 110 ∧ v1 = 10 ∧ h2 = 114 ∧ k2 = 114 ∧ v2 = 13 ∧ h3 = 116 ∧ k3 = 116 ∧ v3 = 9)
    | _ => false))
  | _ => false
def exB (K : PySem.W.Frag) : Bool := He.tupB K "WHITE" [.int 0, .int 9, .int 10, .int 12, .int 13, .int 32] && (He.tupB K "SIGNS" [.int 40, .int 41, .int 60, .int 62, .int 91, .int 93, .int 123, .int 125, .int 47, .int 37, .int 35, .int 64] && (He.tupB K "LINE_ENDS" [.int 10, .int 13] && (He.tupB K "ROOT" [.int 114, .int 111, .int 111, .int 116] && (He.tupB K "TRUE" [.int 116, .int 114, .int 117, .int 101] && (He.tupB K "FALSE" [.int 102, .int 97, .int 108, .int 115, .int 101] && (He.tupB K "NONE" [.int 110, .int 111, .int 110, .int 101] && (escB K)))))))
def loose : List PySem.Str := (["StillroomError", "Malformed", "spend", "SMALL", "digit_value", "to_hex", "hex_bytes", "MOST_DEEP", "MOST_NUMBER", "GREATEST", "LONGEST", "is_integer"] : List PySem.Str) ++ (["is_data", "are_pairs", "is_sound", "is_value", "is_book", "first_pages", "find", "get", "WHITE", "SIGNS", "LINE_ENDS", "TEXT"] : List PySem.Str) ++ (["TEXT_END", "LESS", "MORE", "LIST", "LIST_END", "OPEN_DATA", "CLOSE_DATA", "NAME", "REMARK", "OBJECT", "REFERENCE", "BACKSLASH"] : List PySem.Str) ++ (["TILDE", "MINUS", "ROOT", "TRUE", "FALSE", "NONE", "ESCAPES", "is_digit", "is_regular", "bounded_number", "word_integer", "unescape"] : List PySem.Str) ++ (["Reader", "read_objects", "read_book", "LINE_FEED", "SPACE", "codes", "write_name", "write_text", "join", "write_pairs", "write_parts", "write_book"] : List PySem.Str) ++ (["_law_cell", "_law_twice", "_law_bytes", "_law_piece", "_law_any", "_law_deep", "_law_sound"] : List PySem.Str)
/-- what the walks ask of the program's top -/
structure Tx (K : PySem.W.Frag) (mg : Str → Option Value) : Prop where
  g_spend : mg "spend" = some (.ref (He.ga K "spend"))
  F_spend : ∃ fd, Fun K "spend" "spend" s_spend (He.ga K "spend") fd
  g_digit_value : mg "digit_value" = some (.ref (He.ga K "digit_value"))
  F_digit_value : ∃ fd, Fun K "digit_value" "digit_value" s_digit_value (He.ga K "digit_value") fd
  g_to_hex : mg "to_hex" = some (.ref (He.ga K "to_hex"))
  F_to_hex : ∃ fd, Fun K "to_hex" "to_hex" s_to_hex (He.ga K "to_hex") fd
  g_hex_bytes : mg "hex_bytes" = some (.ref (He.ga K "hex_bytes"))
  F_hex_bytes : ∃ fd, Fun K "hex_bytes" "hex_bytes" s_hex_bytes (He.ga K "hex_bytes") fd
  g_is_integer : mg "is_integer" = some (.ref (He.ga K "is_integer"))
  F_is_integer : ∃ fd, Fun K "is_integer" "is_integer" s_is_integer (He.ga K "is_integer") fd
  g_is_data : mg "is_data" = some (.ref (He.ga K "is_data"))
  F_is_data : ∃ fd, Fun K "is_data" "is_data" s_is_data (He.ga K "is_data") fd
  g_are_pairs : mg "are_pairs" = some (.ref (He.ga K "are_pairs"))
  F_are_pairs : ∃ fd, Fun K "are_pairs" "are_pairs" s_are_pairs (He.ga K "are_pairs") fd
  g_is_sound : mg "is_sound" = some (.ref (He.ga K "is_sound"))
  F_is_sound : ∃ fd, Fun K "is_sound" "is_sound" s_is_sound (He.ga K "is_sound") fd
  g_is_value : mg "is_value" = some (.ref (He.ga K "is_value"))
  F_is_value : ∃ fd, Fun K "is_value" "is_value" s_is_value (He.ga K "is_value") fd
  g_is_book : mg "is_book" = some (.ref (He.ga K "is_book"))
  F_is_book : ∃ fd, Fun K "is_book" "is_book" s_is_book (He.ga K "is_book") fd
  g_first_pages : mg "first_pages" = some (.ref (He.ga K "first_pages"))
  F_first_pages : ∃ fd, Fun K "first_pages" "first_pages" s_first_pages (He.ga K "first_pages") fd
  g_find : mg "find" = some (.ref (He.ga K "find"))
  F_find : ∃ fd, Fun K "find" "find" s_find (He.ga K "find") fd
  g_get : mg "get" = some (.ref (He.ga K "get"))
  F_get : ∃ fd, Fun K "get" "get" s_get (He.ga K "get") fd
  g_is_digit : mg "is_digit" = some (.ref (He.ga K "is_digit"))
  F_is_digit : ∃ fd, Fun K "is_digit" "is_digit" s_is_digit (He.ga K "is_digit") fd
  g_is_regular : mg "is_regular" = some (.ref (He.ga K "is_regular"))
  F_is_regular : ∃ fd, Fun K "is_regular" "is_regular" s_is_regular (He.ga K "is_regular") fd
  g_bounded_number : mg "bounded_number" = some (.ref (He.ga K "bounded_number"))
  F_bounded_number : ∃ fd, Fun K "bounded_number" "bounded_number" s_bounded_number (He.ga K "bounded_number") fd
  g_word_integer : mg "word_integer" = some (.ref (He.ga K "word_integer"))
  F_word_integer : ∃ fd, Fun K "word_integer" "word_integer" s_word_integer (He.ga K "word_integer") fd
  g_unescape : mg "unescape" = some (.ref (He.ga K "unescape"))
  F_unescape : ∃ fd, Fun K "unescape" "unescape" s_unescape (He.ga K "unescape") fd
  FM_init : ∃ fd, Fun K "__init__" "Reader.__init__" m_init (He.ma K (He.ga K "Reader") "__init__") fd
  M_here : Meth K (He.ga K "Reader") "here" (He.ma K (He.ga K "Reader") "here")
  FM_here : ∃ fd, Fun K "here" "Reader.here" m_here (He.ma K (He.ga K "Reader") "here") fd
  M_starts : Meth K (He.ga K "Reader") "starts" (He.ma K (He.ga K "Reader") "starts")
  FM_starts : ∃ fd, Fun K "starts" "Reader.starts" m_starts (He.ma K (He.ga K "Reader") "starts") fd
  M_skip_white : Meth K (He.ga K "Reader") "skip_white" (He.ma K (He.ga K "Reader") "skip_white")
  FM_skip_white : ∃ fd, Fun K "skip_white" "Reader.skip_white" m_skip_white (He.ma K (He.ga K "Reader") "skip_white") fd
  M_skip_space : Meth K (He.ga K "Reader") "skip_space" (He.ma K (He.ga K "Reader") "skip_space")
  FM_skip_space : ∃ fd, Fun K "skip_space" "Reader.skip_space" m_skip_space (He.ma K (He.ga K "Reader") "skip_space") fd
  M_word : Meth K (He.ga K "Reader") "word" (He.ma K (He.ga K "Reader") "word")
  FM_word : ∃ fd, Fun K "word" "Reader.word" m_word (He.ma K (He.ga K "Reader") "word") fd
  M_mark_end : Meth K (He.ga K "Reader") "mark_end" (He.ma K (He.ga K "Reader") "mark_end")
  FM_mark_end : ∃ fd, Fun K "mark_end" "Reader.mark_end" m_mark_end (He.ma K (He.ga K "Reader") "mark_end") fd
  M_take_mark : Meth K (He.ga K "Reader") "take_mark" (He.ma K (He.ga K "Reader") "take_mark")
  FM_take_mark : ∃ fd, Fun K "take_mark" "Reader.take_mark" m_take_mark (He.ma K (He.ga K "Reader") "take_mark") fd
  M_is_mark : Meth K (He.ga K "Reader") "is_mark" (He.ma K (He.ga K "Reader") "is_mark")
  FM_is_mark : ∃ fd, Fun K "is_mark" "Reader.is_mark" m_is_mark (He.ma K (He.ga K "Reader") "is_mark") fd
  M_value : Meth K (He.ga K "Reader") "value" (He.ma K (He.ga K "Reader") "value")
  FM_value : ∃ fd, Fun K "value" "Reader.value" m_value (He.ma K (He.ga K "Reader") "value") fd
  M_word_value : Meth K (He.ga K "Reader") "word_value" (He.ma K (He.ga K "Reader") "word_value")
  FM_word_value : ∃ fd, Fun K "word_value" "Reader.word_value" m_word_value (He.ma K (He.ga K "Reader") "word_value") fd
  M_plain_value : Meth K (He.ga K "Reader") "plain_value" (He.ma K (He.ga K "Reader") "plain_value")
  FM_plain_value : ∃ fd, Fun K "plain_value" "Reader.plain_value" m_plain_value (He.ma K (He.ga K "Reader") "plain_value") fd
  M_text : Meth K (He.ga K "Reader") "text" (He.ma K (He.ga K "Reader") "text")
  FM_text : ∃ fd, Fun K "text" "Reader.text" m_text (He.ma K (He.ga K "Reader") "text") fd
  M_escape : Meth K (He.ga K "Reader") "escape" (He.ma K (He.ga K "Reader") "escape")
  FM_escape : ∃ fd, Fun K "escape" "Reader.escape" m_escape (He.ma K (He.ga K "Reader") "escape") fd
  M_list_value : Meth K (He.ga K "Reader") "list_value" (He.ma K (He.ga K "Reader") "list_value")
  FM_list_value : ∃ fd, Fun K "list_value" "Reader.list_value" m_list_value (He.ma K (He.ga K "Reader") "list_value") fd
  M_dict_value : Meth K (He.ga K "Reader") "dict_value" (He.ma K (He.ga K "Reader") "dict_value")
  FM_dict_value : ∃ fd, Fun K "dict_value" "Reader.dict_value" m_dict_value (He.ma K (He.ga K "Reader") "dict_value") fd
  M_stream_value : Meth K (He.ga K "Reader") "stream_value" (He.ma K (He.ga K "Reader") "stream_value")
  FM_stream_value : ∃ fd, Fun K "stream_value" "Reader.stream_value" m_stream_value (He.ma K (He.ga K "Reader") "stream_value") fd
  M_stream_data : Meth K (He.ga K "Reader") "stream_data" (He.ma K (He.ga K "Reader") "stream_data")
  FM_stream_data : ∃ fd, Fun K "stream_data" "Reader.stream_data" m_stream_data (He.ma K (He.ga K "Reader") "stream_data") fd
  g_read_objects : mg "read_objects" = some (.ref (He.ga K "read_objects"))
  F_read_objects : ∃ fd, Fun K "read_objects" "read_objects" s_read_objects (He.ga K "read_objects") fd
  g_read_book : mg "read_book" = some (.ref (He.ga K "read_book"))
  F_read_book : ∃ fd, Fun K "read_book" "read_book" s_read_book (He.ga K "read_book") fd
  g_codes : mg "codes" = some (.ref (He.ga K "codes"))
  F_codes : ∃ fd, Fun K "codes" "codes" s_codes (He.ga K "codes") fd
  g_write_name : mg "write_name" = some (.ref (He.ga K "write_name"))
  F_write_name : ∃ fd, Fun K "write_name" "write_name" s_write_name (He.ga K "write_name") fd
  g_write_text : mg "write_text" = some (.ref (He.ga K "write_text"))
  F_write_text : ∃ fd, Fun K "write_text" "write_text" s_write_text (He.ga K "write_text") fd
  g_join : mg "join" = some (.ref (He.ga K "join"))
  F_join : ∃ fd, Fun K "join" "join" s_join (He.ga K "join") fd
  g_write_pairs : mg "write_pairs" = some (.ref (He.ga K "write_pairs"))
  F_write_pairs : ∃ fd, Fun K "write_pairs" "write_pairs" s_write_pairs (He.ga K "write_pairs") fd
  g_write_parts : mg "write_parts" = some (.ref (He.ga K "write_parts"))
  F_write_parts : ∃ fd, Fun K "write_parts" "write_parts" s_write_parts (He.ga K "write_parts") fd
  g_write_book : mg "write_book" = some (.ref (He.ga K "write_book"))
  F_write_book : ∃ fd, Fun K "write_book" "write_book" s_write_book (He.ga K "write_book") fd
  g_law_cell : mg "_law_cell" = some (.ref (He.ga K "_law_cell"))
  F_law_cell : ∃ fd, Fun K "_law_cell" "_law_cell" s_law_cell (He.ga K "_law_cell") fd
  g_law_twice : mg "_law_twice" = some (.ref (He.ga K "_law_twice"))
  F_law_twice : ∃ fd, Fun K "_law_twice" "_law_twice" s_law_twice (He.ga K "_law_twice") fd
  g_law_piece : mg "_law_piece" = some (.ref (He.ga K "_law_piece"))
  F_law_piece : ∃ fd, Fun K "_law_piece" "_law_piece" s_law_piece (He.ga K "_law_piece") fd
  g_law_any : mg "_law_any" = some (.ref (He.ga K "_law_any"))
  F_law_any : ∃ fd, Fun K "_law_any" "_law_any" s_law_any (He.ga K "_law_any") fd
  g_law_deep : mg "_law_deep" = some (.ref (He.ga K "_law_deep"))
  F_law_deep : ∃ fd, Fun K "_law_deep" "_law_deep" s_law_deep (He.ga K "_law_deep") fd
  g_law_sound : mg "_law_sound" = some (.ref (He.ga K "_law_sound"))
  F_law_sound : ∃ fd, Fun K "_law_sound" "_law_sound" s_law_sound (He.ga K "_law_sound") fd
  g_law : mg "law" = some (.ref (He.ga K "law"))
  F_law : ∃ fd, Fun K "law" "law" s_law (He.ga K "law") fd
  fr_abs : mg "abs" = none
  fr_all : mg "all" = none
  fr_bool : mg "bool" = none
  fr_int : mg "int" = none
  fr_isinstance : mg "isinstance" = none
  fr_len : mg "len" = none
  fr_list : mg "list" = none
  fr_max : mg "max" = none
  fr_min : mg "min" = none
  fr_ord : mg "ord" = none
  fr_range : mg "range" = none
  fr_sorted : mg "sorted" = none
  fr_str : mg "str" = none
  fr_tuple : mg "tuple" = none
  i_MOST_DEEP : ∃ t, mg "MOST_DEEP" = some (.int 16 t)
  i_MOST_NUMBER : ∃ t, mg "MOST_NUMBER" = some (.int 9999 t)
  i_GREATEST : ∃ t, mg "GREATEST" = some (.int 2147483647 t)
  i_LONGEST : ∃ t, mg "LONGEST" = some (.int 999999999 t)
  i_TEXT : ∃ t, mg "TEXT" = some (.int 40 t)
  i_TEXT_END : ∃ t, mg "TEXT_END" = some (.int 41 t)
  i_LESS : ∃ t, mg "LESS" = some (.int 60 t)
  i_MORE : ∃ t, mg "MORE" = some (.int 62 t)
  i_LIST : ∃ t, mg "LIST" = some (.int 91 t)
  i_LIST_END : ∃ t, mg "LIST_END" = some (.int 93 t)
  i_OPEN_DATA : ∃ t, mg "OPEN_DATA" = some (.int 123 t)
  i_CLOSE_DATA : ∃ t, mg "CLOSE_DATA" = some (.int 125 t)
  i_NAME : ∃ t, mg "NAME" = some (.int 47 t)
  i_REMARK : ∃ t, mg "REMARK" = some (.int 37 t)
  i_OBJECT : ∃ t, mg "OBJECT" = some (.int 35 t)
  i_REFERENCE : ∃ t, mg "REFERENCE" = some (.int 64 t)
  i_BACKSLASH : ∃ t, mg "BACKSLASH" = some (.int 92 t)
  i_TILDE : ∃ t, mg "TILDE" = some (.int 126 t)
  i_MINUS : ∃ t, mg "MINUS" = some (.int 45 t)
  i_LINE_FEED : ∃ t, mg "LINE_FEED" = some (.int 10 t)
  i_SPACE : ∃ t, mg "SPACE" = some (.int 32 t)
  t_SMALL : ∃ t, mg "SMALL" = some (.str "0123456789abcdef" t)
  g_Reader : mg "Reader" = some (.ref (He.ga K "Reader"))
  cl : Cls K (He.ga K "Reader")
  nData : NoAttr K (He.ga K "Reader") "data"
  nAt : NoAttr K (He.ga K "Reader") "at"
  mkr : Mk K (He.ga K "Reader") (He.ma K (He.ga K "Reader") "__init__")
  g_WHITE : mg "WHITE" = some (.ref (He.ga K "WHITE"))
  t_WHITE : ∀ H, SqT K H (He.ga K "WHITE") (([0, 9, 10, 12, 13, 32] : List Int).map V.int)
  g_SIGNS : mg "SIGNS" = some (.ref (He.ga K "SIGNS"))
  t_SIGNS : ∀ H, SqT K H (He.ga K "SIGNS") (([40, 41, 60, 62, 91, 93, 123, 125, 47, 37, 35, 64] : List Int).map V.int)
  g_LINE_ENDS : mg "LINE_ENDS" = some (.ref (He.ga K "LINE_ENDS"))
  t_LINE_ENDS : ∀ H, SqT K H (He.ga K "LINE_ENDS") (([10, 13] : List Int).map V.int)
  g_ROOT : mg "ROOT" = some (.ref (He.ga K "ROOT"))
  t_ROOT : ∀ H, SqT K H (He.ga K "ROOT") (([114, 111, 111, 116] : List Int).map V.int)
  g_TRUE : mg "TRUE" = some (.ref (He.ga K "TRUE"))
  t_TRUE : ∀ H, SqT K H (He.ga K "TRUE") (([116, 114, 117, 101] : List Int).map V.int)
  g_FALSE : mg "FALSE" = some (.ref (He.ga K "FALSE"))
  t_FALSE : ∀ H, SqT K H (He.ga K "FALSE") (([102, 97, 108, 115, 101] : List Int).map V.int)
  g_NONE : mg "NONE" = some (.ref (He.ga K "NONE"))
  t_NONE : ∀ H, SqT K H (He.ga K "NONE") (([110, 111, 110, 101] : List Int).map V.int)
  g_ESCAPES : mg "ESCAPES" = some (.ref (He.ga K "ESCAPES"))
  e_ESCAPES : escB K = true
theorem fun_at {K : PySem.W.Frag} (c : He.SaysD fas fns K) (i : Nat) {x q : Str} {st : Stmt} {p : Str × Option Str} (h : fns[i]? = some ⟨p, x, q, defArgs st, defBody st, defScope st, [], []⟩) : ∃ fd, Fun K x q st (He.fAd K p) fd := by
  obtain ⟨fd, F⟩ := c.def_ i h
  exact ⟨fd, He5.fun_of F⟩
theorem tx_of {w : World} {K : PySem.W.Frag} {h : Heap} {mg : Str → Option Value} (X : K.In h) (G : h.Ns mainGlobals mg) (c : He.SaysX fas fns [] [] exB w h K) : Tx K mg := by
  refine ⟨He.glo_ok X G (c.t.d.fact 0 (f := .glo "spend") rfl),
    fun_at c.t.d 0 rfl,
    He.glo_ok X G (c.t.d.fact 1 (f := .glo "digit_value") rfl),
    fun_at c.t.d 1 rfl,
    He.glo_ok X G (c.t.d.fact 2 (f := .glo "to_hex") rfl),
    fun_at c.t.d 2 rfl,
    He.glo_ok X G (c.t.d.fact 3 (f := .glo "hex_bytes") rfl),
    fun_at c.t.d 3 rfl,
    He.glo_ok X G (c.t.d.fact 4 (f := .glo "is_integer") rfl),
    fun_at c.t.d 4 rfl,
    He.glo_ok X G (c.t.d.fact 5 (f := .glo "is_data") rfl),
    fun_at c.t.d 5 rfl,
    He.glo_ok X G (c.t.d.fact 6 (f := .glo "are_pairs") rfl),
    fun_at c.t.d 6 rfl,
    He.glo_ok X G (c.t.d.fact 7 (f := .glo "is_sound") rfl),
    fun_at c.t.d 7 rfl,
    He.glo_ok X G (c.t.d.fact 8 (f := .glo "is_value") rfl),
    fun_at c.t.d 8 rfl,
    He.glo_ok X G (c.t.d.fact 9 (f := .glo "is_book") rfl),
    fun_at c.t.d 9 rfl,
    He.glo_ok X G (c.t.d.fact 10 (f := .glo "first_pages") rfl),
    fun_at c.t.d 10 rfl,
    He.glo_ok X G (c.t.d.fact 11 (f := .glo "find") rfl),
    fun_at c.t.d 11 rfl,
    He.glo_ok X G (c.t.d.fact 12 (f := .glo "get") rfl),
    fun_at c.t.d 12 rfl,
    He.glo_ok X G (c.t.d.fact 13 (f := .glo "is_digit") rfl),
    fun_at c.t.d 13 rfl,
    He.glo_ok X G (c.t.d.fact 14 (f := .glo "is_regular") rfl),
    fun_at c.t.d 14 rfl,
    He.glo_ok X G (c.t.d.fact 15 (f := .glo "bounded_number") rfl),
    fun_at c.t.d 15 rfl,
    He.glo_ok X G (c.t.d.fact 16 (f := .glo "word_integer") rfl),
    fun_at c.t.d 16 rfl,
    He.glo_ok X G (c.t.d.fact 17 (f := .glo "unescape") rfl),
    fun_at c.t.d 17 rfl,
    fun_at c.t.d 18 rfl,
    He.meth_ok (c.t.d.fact 18 (f := .meth "Reader" "here") rfl),
    fun_at c.t.d 19 rfl,
    He.meth_ok (c.t.d.fact 19 (f := .meth "Reader" "starts") rfl),
    fun_at c.t.d 20 rfl,
    He.meth_ok (c.t.d.fact 20 (f := .meth "Reader" "skip_white") rfl),
    fun_at c.t.d 21 rfl,
    He.meth_ok (c.t.d.fact 21 (f := .meth "Reader" "skip_space") rfl),
    fun_at c.t.d 22 rfl,
    He.meth_ok (c.t.d.fact 22 (f := .meth "Reader" "word") rfl),
    fun_at c.t.d 23 rfl,
    He.meth_ok (c.t.d.fact 23 (f := .meth "Reader" "mark_end") rfl),
    fun_at c.t.d 24 rfl,
    He.meth_ok (c.t.d.fact 24 (f := .meth "Reader" "take_mark") rfl),
    fun_at c.t.d 25 rfl,
    He.meth_ok (c.t.d.fact 25 (f := .meth "Reader" "is_mark") rfl),
    fun_at c.t.d 26 rfl,
    He.meth_ok (c.t.d.fact 26 (f := .meth "Reader" "value") rfl),
    fun_at c.t.d 27 rfl,
    He.meth_ok (c.t.d.fact 27 (f := .meth "Reader" "word_value") rfl),
    fun_at c.t.d 28 rfl,
    He.meth_ok (c.t.d.fact 28 (f := .meth "Reader" "plain_value") rfl),
    fun_at c.t.d 29 rfl,
    He.meth_ok (c.t.d.fact 29 (f := .meth "Reader" "text") rfl),
    fun_at c.t.d 30 rfl,
    He.meth_ok (c.t.d.fact 30 (f := .meth "Reader" "escape") rfl),
    fun_at c.t.d 31 rfl,
    He.meth_ok (c.t.d.fact 31 (f := .meth "Reader" "list_value") rfl),
    fun_at c.t.d 32 rfl,
    He.meth_ok (c.t.d.fact 32 (f := .meth "Reader" "dict_value") rfl),
    fun_at c.t.d 33 rfl,
    He.meth_ok (c.t.d.fact 33 (f := .meth "Reader" "stream_value") rfl),
    fun_at c.t.d 34 rfl,
    He.meth_ok (c.t.d.fact 34 (f := .meth "Reader" "stream_data") rfl),
    fun_at c.t.d 35 rfl,
    He.glo_ok X G (c.t.d.fact 35 (f := .glo "read_objects") rfl),
    fun_at c.t.d 36 rfl,
    He.glo_ok X G (c.t.d.fact 36 (f := .glo "read_book") rfl),
    fun_at c.t.d 37 rfl,
    He.glo_ok X G (c.t.d.fact 37 (f := .glo "codes") rfl),
    fun_at c.t.d 38 rfl,
    He.glo_ok X G (c.t.d.fact 38 (f := .glo "write_name") rfl),
    fun_at c.t.d 39 rfl,
    He.glo_ok X G (c.t.d.fact 39 (f := .glo "write_text") rfl),
    fun_at c.t.d 40 rfl,
    He.glo_ok X G (c.t.d.fact 40 (f := .glo "join") rfl),
    fun_at c.t.d 41 rfl,
    He.glo_ok X G (c.t.d.fact 41 (f := .glo "write_pairs") rfl),
    fun_at c.t.d 42 rfl,
    He.glo_ok X G (c.t.d.fact 42 (f := .glo "write_parts") rfl),
    fun_at c.t.d 43 rfl,
    He.glo_ok X G (c.t.d.fact 43 (f := .glo "write_book") rfl),
    fun_at c.t.d 44 rfl,
    He.glo_ok X G (c.t.d.fact 44 (f := .glo "_law_cell") rfl),
    fun_at c.t.d 45 rfl,
    He.glo_ok X G (c.t.d.fact 45 (f := .glo "_law_twice") rfl),
    fun_at c.t.d 46 rfl,
    He.glo_ok X G (c.t.d.fact 46 (f := .glo "_law_piece") rfl),
    fun_at c.t.d 47 rfl,
    He.glo_ok X G (c.t.d.fact 47 (f := .glo "_law_any") rfl),
    fun_at c.t.d 48 rfl,
    He.glo_ok X G (c.t.d.fact 48 (f := .glo "_law_deep") rfl),
    fun_at c.t.d 49 rfl,
    He.glo_ok X G (c.t.d.fact 49 (f := .glo "_law_sound") rfl),
    fun_at c.t.d 50 rfl,
    He.glo_ok X G (c.t.d.fact 50 (f := .glo "law") rfl),
    fun_at c.t.d 51 rfl,
    He.free_ok X G (c.t.d.fact 51 (f := .free "abs") rfl),
    He.free_ok X G (c.t.d.fact 52 (f := .free "all") rfl),
    He.free_ok X G (c.t.d.fact 53 (f := .free "bool") rfl),
    He.free_ok X G (c.t.d.fact 54 (f := .free "int") rfl),
    He.free_ok X G (c.t.d.fact 55 (f := .free "isinstance") rfl),
    He.free_ok X G (c.t.d.fact 56 (f := .free "len") rfl),
    He.free_ok X G (c.t.d.fact 57 (f := .free "list") rfl),
    He.free_ok X G (c.t.d.fact 58 (f := .free "max") rfl),
    He.free_ok X G (c.t.d.fact 59 (f := .free "min") rfl),
    He.free_ok X G (c.t.d.fact 60 (f := .free "ord") rfl),
    He.free_ok X G (c.t.d.fact 61 (f := .free "range") rfl),
    He.free_ok X G (c.t.d.fact 62 (f := .free "sorted") rfl),
    He.free_ok X G (c.t.d.fact 63 (f := .free "str") rfl),
    He.free_ok X G (c.t.d.fact 64 (f := .free "tuple") rfl),
    He.int_ok X G (c.t.d.fact 65 (f := .int "MOST_DEEP" 16) rfl),
    He.int_ok X G (c.t.d.fact 66 (f := .int "MOST_NUMBER" 9999) rfl),
    He.int_ok X G (c.t.d.fact 67 (f := .int "GREATEST" 2147483647) rfl),
    He.int_ok X G (c.t.d.fact 68 (f := .int "LONGEST" 999999999) rfl),
    He.int_ok X G (c.t.d.fact 69 (f := .int "TEXT" 40) rfl),
    He.int_ok X G (c.t.d.fact 70 (f := .int "TEXT_END" 41) rfl),
    He.int_ok X G (c.t.d.fact 71 (f := .int "LESS" 60) rfl),
    He.int_ok X G (c.t.d.fact 72 (f := .int "MORE" 62) rfl),
    He.int_ok X G (c.t.d.fact 73 (f := .int "LIST" 91) rfl),
    He.int_ok X G (c.t.d.fact 74 (f := .int "LIST_END" 93) rfl),
    He.int_ok X G (c.t.d.fact 75 (f := .int "OPEN_DATA" 123) rfl),
    He.int_ok X G (c.t.d.fact 76 (f := .int "CLOSE_DATA" 125) rfl),
    He.int_ok X G (c.t.d.fact 77 (f := .int "NAME" 47) rfl),
    He.int_ok X G (c.t.d.fact 78 (f := .int "REMARK" 37) rfl),
    He.int_ok X G (c.t.d.fact 79 (f := .int "OBJECT" 35) rfl),
    He.int_ok X G (c.t.d.fact 80 (f := .int "REFERENCE" 64) rfl),
    He.int_ok X G (c.t.d.fact 81 (f := .int "BACKSLASH" 92) rfl),
    He.int_ok X G (c.t.d.fact 82 (f := .int "TILDE" 126) rfl),
    He.int_ok X G (c.t.d.fact 83 (f := .int "MINUS" 45) rfl),
    He.int_ok X G (c.t.d.fact 84 (f := .int "LINE_FEED" 10) rfl),
    He.int_ok X G (c.t.d.fact 85 (f := .int "SPACE" 32) rfl),
    He.str_ok X G (c.t.d.fact 86 (f := .str "SMALL" "0123456789abcdef") rfl),
    He.glo_ok X G (c.t.d.fact 87 (f := .glo "Reader") rfl),
    He.cls_ok (c.t.d.fact 88 (f := .cls "Reader") rfl),
    He.noat_ok (c.t.d.fact 89 (f := .noat "Reader" "data") rfl),
    He.noat_ok (c.t.d.fact 90 (f := .noat "Reader" "at") rfl),
    He.mkr_ok (c.t.d.fact 91 (f := .mkr "Reader") rfl),
    He.glo_ok X G (c.t.d.fact 92 (f := .glo "WHITE") rfl),
    He.tupB_ok (He.ba (c.more)).1,
    He.glo_ok X G (c.t.d.fact 93 (f := .glo "SIGNS") rfl),
    He.tupB_ok (He.ba ((He.ba c.more).2)).1,
    He.glo_ok X G (c.t.d.fact 94 (f := .glo "LINE_ENDS") rfl),
    He.tupB_ok (He.ba ((He.ba (He.ba c.more).2).2)).1,
    He.glo_ok X G (c.t.d.fact 95 (f := .glo "ROOT") rfl),
    He.tupB_ok (He.ba ((He.ba (He.ba (He.ba c.more).2).2).2)).1,
    He.glo_ok X G (c.t.d.fact 96 (f := .glo "TRUE") rfl),
    He.tupB_ok (He.ba ((He.ba (He.ba (He.ba (He.ba c.more).2).2).2).2)).1,
    He.glo_ok X G (c.t.d.fact 97 (f := .glo "FALSE") rfl),
    He.tupB_ok (He.ba ((He.ba (He.ba (He.ba (He.ba (He.ba c.more).2).2).2).2).2)).1,
    He.glo_ok X G (c.t.d.fact 98 (f := .glo "NONE") rfl),
    He.tupB_ok (He.ba ((He.ba (He.ba (He.ba (He.ba (He.ba (He.ba c.more).2).2).2).2).2).2)).1,
    He.glo_ok X G (c.t.d.fact 99 (f := .glo "ESCAPES") rfl),
    (He.ba (He.ba (He.ba (He.ba (He.ba (He.ba (He.ba c.more).2).2).2).2).2).2).2⟩
end K22

/-! The mirror: what the program's defs compute, over plain lists of ints. -/
namespace K22
/-! ### bytes -/
def whites : List Int := [0, 9, 10, 12, 13, 32]
def signs : List Int := [40, 41, 60, 62, 91, 93, 123, 125, 47, 37, 35, 64]
def lends : List Int := [10, 13]
def isWhite (c : Int) : Bool := decide (c ∈ whites)
def isReg (c : Int) : Bool := !decide (c ∈ whites) && !decide (c ∈ signs)
def isDigit (c : Int) : Bool := decide (48 ≤ c ∧ c ≤ 57)
def hexv (c : Int) : Int := if 48 ≤ c ∧ c ≤ 57 then c - 48 else if 97 ≤ c ∧ c ≤ 102 then c - 87 else if 65 ≤ c ∧ c ≤ 70 then c - 55 else -1
def escv (c : Int) : Int := if c = 110 then 10 else if c = 114 then 13 else if c = 116 then 9 else c
def bounded (ds : List Int) : Int := ds.foldl (fun n c => min (10 * n + c - 48) 2147483648) 0
def wROOT : List Int := [114, 111, 111, 116]
def wTRUE : List Int := [116, 114, 117, 101]
def wFALSE : List Int := [102, 97, 108, 115, 101]
def wNONE : List Int := [110, 111, 110, 101]
def wordInt (w : List Int) : Option Int :=
  let ds := if w.take 1 = [45] then w.drop 1 else w
  if ds.length = 0 ∨ ds.all isDigit = false then none
  else some (if ds.length < w.length then -(min (bounded ds) 2147483647) else min (bounded ds) 2147483647)
def unesc : List Int → List Int
  | [] => []
  | c :: a :: b :: r => if c = 126 ∧ 0 ≤ hexv a ∧ 0 ≤ hexv b then (16 * hexv a + hexv b) :: unesc r else c :: unesc (a :: b :: r)
  | c :: r => c :: unesc r
/-! ### values -/
inductive Val where
  | none
  | bool (b : Bool)
  | int (n : Int)
  | name (d : List Int)
  | text (d : List Int)
  | ref (n : Int)
  | list (vs : List Val)
  | dict (ps : List (List Int × Val))
  | stream (ps : List (List Int × Val)) (d : List Int)
def putA {κ β : Type} [DecidableEq κ] (kvs : List (κ × β)) (k : κ) (v : β) : List (κ × β) :=
  if (kvs.any fun kv => decide (kv.1 = k)) = true then kvs.map (fun kv => if kv.1 = k then (kv.1, v) else kv) else kvs ++ [(k, v)]
/-! ### the reader's steps -/
def skipW (s : List Int) : List Int := s.dropWhile isWhite
/-- space: white bytes and remarks; b: within a remark -/
def skipS : Bool → List Int → List Int
  | _, [] => []
  | false, c :: r => if isWhite c = true then skipS false r else if c = 37 then skipS true r else c :: r
  | true, c :: r => if c ∈ lends then skipS false r else skipS true r
def takeR (s : List Int) : List Int := s.takeWhile isReg
def dropR (s : List Int) : List Int := s.dropWhile isReg
def markOf (s : List Int) : Option (Int × List Int) := match s with
  | [] => none
  | c :: r => if (c = 35 ∨ c = 64) ∧ 1 ≤ (r.takeWhile isDigit).length ∧ (r.takeWhile isDigit).length ≤ 9 ∧ 1 ≤ bounded (r.takeWhile isDigit) ∧ bounded (r.takeWhile isDigit) ≤ 9999
    then some (bounded (r.takeWhile isDigit), r.dropWhile isDigit) else none
def isMark (sign : Int) (s : List Int) : Bool := decide (s.head? = some sign) && (markOf s).isSome
def escP : List Int → List Int × List Int
  | [] => ([], [])
  | [a] => ([escv a], [])
  | a :: b :: r => if 0 ≤ hexv a ∧ 0 ≤ hexv b then ([16 * hexv a + hexv b], r) else ([escv a], b :: r)
theorem escP_le (s : List Int) : (escP s).2.length ≤ s.length := by
  match s with
  | [] => simp [escP]
  | [a] => simp [escP]
  | a :: b :: r =>
    by_cases h : 0 ≤ hexv a ∧ 0 ≤ hexv b
    · simp only [escP, if_pos h, List.length_cons]; omega
    · simp only [escP, if_neg h, List.length_cons]; omega
/-- a text behind its first parenthesis; k: how many are open -/
def pText (k : Nat) (s : List Int) : List Int × List Int := match s with
  | [] => ([], [])
  | c :: r => if c = 92 then
      have : (escP r).2.length < r.length + 1 := Nat.lt_succ_of_le (escP_le r)
      ((escP r).1 ++ (pText k (escP r).2).1, (pText k (escP r).2).2)
    else if c = 40 then (c :: (pText (k + 1) r).1, (pText (k + 1) r).2)
    else if c = 41 then (if k = 1 then ([], r) else (c :: (pText (k - 1) r).1, (pText (k - 1) r).2))
    else (c :: (pText k r).1, (pText k r).2)
termination_by s.length
def pairUp : List Int → List Int
  | a :: b :: r => (16 * a + b) :: pairUp r
  | _ => []
def hexBytes (s : List Int) : List Int := pairUp ((s.map hexv).filter fun x => decide (0 ≤ x))
def wordVal (w : List Int) : Option Val :=
  if w = wTRUE then some (.bool true) else if w = wFALSE then some (.bool false) else if w = wNONE then some .none
  else (wordInt w).map .int
/-- a text, a name, a reference or digits, s beginning with c -/
def plainV (c : Int) (s : List Int) : Option Val × List Int :=
  if c = 64 then (if isMark 64 s = true then (match markOf s with
    | some (n, r) => (some (.ref n), r)
    | none => (none, s.drop 1)) else (none, s.drop 1))
  else if c = 47 then (some (.name (unesc (takeR (s.drop 1)))), dropR (s.drop 1))
  else if c = 40 then (some (.text (pText 1 (s.drop 1)).1), (pText 1 (s.drop 1)).2)
  else (some (.text (hexBytes ((s.drop 1).takeWhile fun x => decide (x ≠ 62)))), ((s.drop 1).dropWhile fun x => decide (x ≠ 62)).drop 1)
/-- the data up to the first {} -/
def findC : List Int → List Int × List Int
  | [] => ([], [])
  | c :: r => if (c :: r).take 2 = [123, 125] then ([], r.drop 1) else (c :: (findC r).1, (findC r).2)
def streamD (ps : List (List Int × Val)) (ds : List Int) (r : List Int) : Val × List Int :=
  if 0 < ds.length ∧ (r.drop (bounded ds).toNat).take 2 = [123, 125] then (.stream ps (r.take (bounded ds).toNat), r.drop ((bounded ds).toNat + 2))
  else (.stream ps (findC r).1, (findC r).2)
def streamV (ps : List (List Int × Val)) (s : List Int) : Val × List Int := match skipW s with
  | [] => (.dict ps, s)
  | c :: r => if c = 123 ∧ (r.dropWhile isDigit).take 1 = [125] ∧ (r.takeWhile isDigit).length ≤ 9 then streamD ps (r.takeWhile isDigit) ((r.dropWhile isDigit).drop 1)
    else (.dict ps, s)
/-! ### the reader of values; n: so many calls are allowed; ar: what is around (0 nothing, 1 a list, 2 a dict) -/
mutual
def pVal : Nat → Nat → Nat → List Int → Option (Option Val × List Int)
  | 0, _, _, _ => none
  | n + 1, ar, deep, s => match skipS false s with
    | [] => some (none, [])
    | c :: r =>
      if isMark 35 (c :: r) = true then some (none, c :: r)
      else if (ar = 1 ∧ c = 93) ∨ (ar = 2 ∧ (c :: r).take 2 = [62, 62]) then some (none, c :: r)
      else if isReg c = true then (match wordVal (takeR (c :: r)) with
        | some v => some (some v, dropR (c :: r))
        | none => pVal n ar deep (dropR (c :: r)))
      else if c = 40 ∨ c = 47 ∨ c = 64 ∨ (c = 60 ∧ (c :: r).take 2 ≠ [60, 60]) then (match plainV c (c :: r) with
        | (some v, s2) => some (some v, s2)
        | (none, s2) => pVal n ar deep s2)
      else if deep < 16 ∧ c = 91 then (match pList n deep r with
        | some (vs, s2) => some (some (.list vs), if s2.take 1 = [93] then s2.drop 1 else s2)
        | none => none)
      else if deep < 16 ∧ c = 60 then (match pDict n deep [] (r.drop 1) with
        | some (v, s2) => some (some v, s2)
        | none => none)
      else pVal n ar deep r
def pList : Nat → Nat → List Int → Option (List Val × List Int)
  | 0, _, _ => none
  | n + 1, deep, s => match pVal n 1 (deep + 1) s with
    | none => none
    | some (none, s2) => some ([], s2)
    | some (some v, s2) => (match pList n deep s2 with
      | none => none
      | some (vs, s3) => some (v :: vs, s3))
def pDict : Nat → Nat → List (List Int × Val) → List Int → Option (Val × List Int)
  | 0, _, _, _ => none
  | n + 1, deep, ps, s => match skipS false s with
    | [] => some (.dict ps, [])
    | c :: r =>
      if isMark 35 (c :: r) = true then some (.dict ps, c :: r)
      else if (c :: r).take 2 = [62, 62] then some (streamV ps (r.drop 1))
      else if c = 47 then (match pVal n 2 (deep + 1) (dropR r) with
        | none => none
        | some (v, s2) => pDict n deep (putA ps (unesc (takeR r)) (v.getD .none)) s2)
      else if c = 40 ∨ c = 60 ∨ c = 91 ∨ isReg c = true ∨ isMark 64 (c :: r) = true then (match pVal n 2 (deep + 1) (c :: r) with
        | none => none
        | some (_, s2) => pDict n deep ps s2)
      else pDict n deep ps r
end
/-- the objects, the last noted root; s begins behind space -/
def pObjs : Nat → List (Int × Val) → Int → List Int → Option (List (Int × Val) × Int)
  | 0, _, _, _ => none
  | n + 1, obs, root, s => match s with
    | [] => some (obs, root)
    | c :: r =>
      if isMark 35 (c :: r) = true then (match markOf (c :: r) with
        | none => none
        | some (k, s2) => (match pVal n 0 0 s2 with
          | none => none
          | some (v, s3) => pObjs n (putA obs k (v.getD .none)) root (skipS false s3)))
      else if isReg c = true then
        (if takeR (c :: r) = wROOT ∧ isMark 64 (skipS false (dropR (c :: r))) = true then (match markOf (skipS false (dropR (c :: r))) with
          | none => none
          | some (k, s2) => pObjs n obs k (skipS false s2))
        else pObjs n obs root (skipS false (dropR (c :: r))))
      else pObjs n obs root (skipS false r)
/-! ### the writer -/
def ndig (n : Nat) : List Int := if n < 10 then [48 + (n : Int)] else ndig (n / 10) ++ [48 + ((n % 10 : Nat) : Int)]
def decs (n : Int) : List Int := if n < 0 then 45 :: ndig n.natAbs else ndig n.natAbs
def hexd (n : Int) : Int := if n < 10 then 48 + n else 87 + n
def hex2 (b : Int) : List Int := [hexd (b / 16), hexd (b % 16)]
def wNameB (b : Int) : List Int := if isReg b = false ∨ b < 33 ∨ 126 < b ∨ b = 126 then 126 :: hex2 b else [b]
def wName (d : List Int) : List Int := 47 :: d.flatMap wNameB
def wTextB (b : Int) : List Int := if b = 40 ∨ b = 41 ∨ b = 92 then [92, b] else if b < 32 ∨ 126 < b then 92 :: hex2 b else [b]
def wText (d : List Int) : List Int := (40 :: d.flatMap wTextB) ++ [41]
def joinSp (ps : List (List Int)) : List Int := ps.foldl (fun acc p => (if 0 < acc.length then acc ++ [32] else acc) ++ p) []
mutual
def wVal : Val → List Int
  | .none => wNONE
  | .bool b => if b = true then wTRUE else wFALSE
  | .int n => decs n
  | .name d => wName d
  | .text d => wText d
  | .ref n => 64 :: decs n
  | .list vs => [91] ++ joinSp (wVals vs) ++ [93]
  | .dict ps => [60, 60] ++ joinSp (wParts ps) ++ [62, 62]
  | .stream ps d => ([60, 60] ++ joinSp (wParts ps) ++ [62, 62]) ++ ([123] ++ decs (d.length : Int) ++ [125]) ++ d ++ [123, 125]
def wVals : List Val → List (List Int)
  | [] => []
  | v :: r => wVal v :: wVals r
def wParts : List (List Int × Val) → List (List Int)
  | [] => []
  | (k, v) :: r => (wName k ++ [32] ++ wVal v) :: wParts r
end
def wObj (o : Int × Val) : List Int := (35 :: decs o.1) ++ [10] ++ wVal o.2 ++ [10]
def wBook (obs : List (Int × Val)) (root : Int) : List Int :=
  [37, 70, 79, 76, 10] ++ obs.flatMap wObj ++ (if 0 < root then wROOT ++ [32, 64] ++ decs root ++ [10] else [])
end K22

/-! Short rules for calls; the reader object; heaps. -/
namespace K22
open PySem PySem.Spec PyProof.Rows L2
/-! ### a def that keeps its promise, ready to be called -/
def Cal (P : Program) (w : World) (K : PySem.W.Frag) (mg : Str → Option Value) (base : Heap) (x : Str) (k : Nat) (ps : List Str) (sp : Sp) : Prop :=
  ∃ f fd, FnOk P w K mg base CX0 k f fd ps sp ∧ mg x = some (.ref f) ∧ PySem.W.keepIn K (.ref f) = true ∧ Binds K fd ps []
def CalM (P : Program) (w : World) (K : PySem.W.Frag) (mg : Str → Option Value) (base : Heap) (C : Addr) (m : Str) (k : Nat) (ps : List Str) (sp : Sp) : Prop :=
  ∃ f fd, FnOk P w K mg base CX0 k f fd ps sp ∧ Meth K C m f ∧ Binds K fd ps []
section
variable {X : Cx} {x : Str} {k : Nat} {ps : List Str} {sp : Sp} {e o : Expr} {es : List Expr} {p pos apos : Pos} {t : TA} {ta : TE} {C : Addr} {m : Str}
theorem Cal.imp {P : Program} {w : World} {K : PySem.W.Frag} {mg : Str → Option Value} {base : Heap} {sp' : Sp} (c : Cal P w K mg base x k ps sp) (h : ∀ vs H Q E, sp' vs H Q E → sp vs H Q E) : Cal P w K mg base x k ps sp' := by
  obtain ⟨f, fd, F, g, kp, b⟩ := c
  exact ⟨f, fd, F.imp h, g, kp, b⟩
theorem Cal.mono {P : Program} {w : World} {K : PySem.W.Frag} {mg : Str → Option Value} {base : Heap} {j : Nat} (c : Cal P w K mg base x j ps sp) (h : j ≤ k) : Cal P w K mg base x k ps sp := by
  obtain ⟨f, fd, F, g, kp, b⟩ := c
  exact ⟨f, fd, F.mono h, g, kp, b⟩
theorem CalM.imp {P : Program} {w : World} {K : PySem.W.Frag} {mg : Str → Option Value} {base : Heap} {sp' : Sp} (c : CalM P w K mg base C m k ps sp) (h : ∀ vs H Q E, sp' vs H Q E → sp vs H Q E) : CalM P w K mg base C m k ps sp' := by
  obtain ⟨f, fd, F, g, b⟩ := c
  exact ⟨f, fd, F.imp h, g, b⟩
theorem CalM.mono {P : Program} {w : World} {K : PySem.W.Frag} {mg : Str → Option Value} {base : Heap} {j : Nat} (c : CalM P w K mg base C m j ps sp) (h : j ≤ k) : CalM P w K mg base C m k ps sp := by
  obtain ⟨f, fd, F, g, b⟩ := c
  exact ⟨f, fd, F.mono h, g, b⟩
/-- f(..) -/
theorem pe_cal (c : Cal X.prog X.w X.K X.mg X.base x k ps sp) (hr : Room k X.A) (ha : PA X (e :: es) t) (hg : Gl X x := by rfl) (hdb : (x == ("__debug__" : Str)) = false := by decide)
    (h1 : starEach (e :: es) X.env = (false, eval e X.env) :: starEach es X.env := by rfl) (h2 : (backTo pos (starEach es X.env)).any (·.1) = false := by rfl) : PE X (.Call (.Name x p) (e :: es) [] pos) (tCall sp [] E0 t) := by
  obtain ⟨f, fd, F, g, kp, b⟩ := c
  exact pe_call F hr hg g kp b .nil pass0 ha hdb h1 h2
/-- o.m(..), o.m() -/
theorem pe_mcal {pl : Sem Bool} (cl : Cls X.K C) (c : CalM X.prog X.w X.K X.mg X.base C m k ps sp) (hr : Room k X.A) (he : PE X o ta) (ha : PA X (e :: es) t)
    (h1 : starEach (e :: es) X.env = (false, eval e X.env) :: starEach es X.env := by rfl) (h2 : (backTo pos (starEach es X.env)).any (·.1) = false := by rfl)
    (h3 : eval (.Call (.Attribute o m apos) (e :: es) [] pos) X.env = (do let ov ← eval o X.env; standAt apos.atName; let (f, first) ← holding [ov] (getMethod ov m pl); callWith pos f first (backTo pos (starEach (e :: es) X.env)) (backToKw pos (keywordEach [] X.env))) := by rfl) :
    PE X (.Call (.Attribute o m apos) (e :: es) [] pos) (tMeth C m sp [] E0 ta t) := by
  obtain ⟨f, fd, F, g, b⟩ := c
  exact pe_meth (pl := pl) he cl g F hr b .nil pass0 ha h1 h2 h3
theorem pe_mcal0 {pl : Sem Bool} (cl : Cls X.K C) (c : CalM X.prog X.w X.K X.mg X.base C m k ps sp) (hr : Room k X.A) (he : PE X o ta)
    (h3 : eval (.Call (.Attribute o m apos) [] [] pos) X.env = (do let ov ← eval o X.env; standAt apos.atName; let (f, first) ← holding [ov] (getMethod ov m pl); callWith pos f first (backTo pos (starEach [] X.env)) (backToKw pos (keywordEach [] X.env))) := by rfl) :
    PE X (.Call (.Attribute o m apos) [] [] pos) (tMeth C m sp [] E0 ta tNil) := by
  obtain ⟨f, fd, F, g, b⟩ := c
  exact pe_meth0 (pl := pl) he cl g F hr b .nil pass0 h3
/-- a constant int of the module -/
theorem pe_gi {i : Int} (hm : ∃ t, X.mg x = some (.int i t)) (hg : Gl X x := by rfl) (hdb : (x == ("__debug__" : Str)) = false := by decide) : PE X (.Name x p) (tC (.int i)) := by
  obtain ⟨t, h⟩ := hm
  exact pe_glob hg h ⟨t, rfl⟩ hdb
/-- a constant object of the module -/
theorem pe_gr {a : Addr} (hm : X.mg x = some (.ref a)) (hg : Gl X x := by rfl) (hdb : (x == ("__debug__" : Str)) = false := by decide) : PE X (.Name x p) (tC (.ref a)) :=
  pe_glob (v := .ref a) hg hm rfl hdb
end
/-! ### heaps -/
theorem same_new {H : Hp} {p : Addr} {o : HO} (h : H p = none) : Same H (upd H p o) := fun b x e => by
  rw [upd_ne (ne_of_none e h)]
  exact e
theorem Same.lst {H H' : Hp} {a : Addr} {xs : List V} (s : Same H H') (h : H a = some (.lst xs)) : H' a = some (.lst xs) := s _ _ h
/-- all but the object at p is as it was -/
def Fr (p : Addr) (H H' : Hp) : Prop := ∀ b o, H b = some o → b ≠ p → H' b = some o
theorem Fr.refl (p : Addr) (H : Hp) : Fr p H H := fun _ _ e _ => e
theorem Fr.of {p : Addr} {H H' : Hp} (s : Same H H') : Fr p H H' := fun b o e _ => s b o e
theorem Fr.trans {p : Addr} {H H1 H2 : Hp} (a : Fr p H H1) (b : Fr p H1 H2) : Fr p H H2 := fun c o e n => b c o (a c o e n) n
theorem Fr.free {p : Addr} {H H' : Hp} {o : HO} (s : Fr p H H') (hp : H p = some o) {q : Addr} (hp' : ∃ o', H' p = some o') (h : H' q = none) : H q = none := by
  cases e : H q with
  | none => rfl
  | some u =>
    by_cases hq : q = p
    · obtain ⟨o', h'⟩ := hp'
      rw [hq, h'] at h
      cases h
    · rw [s q u e hq] at h
      cases h
/-! ### the reader object -/
def rf (l : Addr) (i : Int) : List (Str × V) := putF "at" (.int i) (putF "data" (.ref l) [])
theorem ne_da : ¬ (("data" : Str) = "at") := by decide +kernel
theorem rf_eq (l : Addr) (i : Int) : rf l i = ([("data", V.ref l), ("at", V.int i)] : List (Str × V)) := by
  show (if ("data" : Str) = "at" then [(("data" : Str), V.int i)] else (("data" : Str), V.ref l) :: putF "at" (V.int i) []) = _
  rw [if_neg ne_da] <;> rfl
theorem rf_data (l : Addr) (i : Int) : (rf l i).lookup ("data" : Str) = some (.ref l) := by
  unfold rf
  rw [lookup_putF, if_neg ne_da, lookup_putF, if_pos rfl]
theorem rf_at (l : Addr) (i : Int) : (rf l i).lookup ("at" : Str) = some (.int i) := by
  unfold rf
  rw [lookup_putF, if_pos rfl]
theorem rf_no (l : Addr) (i : Int) {m : Str} (h1 : ¬ m = "at") (h2 : ¬ m = "data") : (rf l i).lookup m = none := by
  unfold rf
  rw [lookup_putF, if_neg h1, lookup_putF, if_neg h2] <;> rfl
theorem rf_put (l : Addr) (i j : Int) : putF "at" (.int j) (rf l i) = rf l j := by
  rw [rf_eq, rf_eq]
  show (if ("data" : Str) = "at" then _ else (("data" : Str), V.ref l) :: (if ("at" : Str) = "at" then [(("at" : Str), V.int j)] else _)) = _
  rw [if_neg ne_da, if_pos rfl]
theorem rf_few (l : Addr) (i : Int) : (rf l i).length < 1000 := by
  rw [rf_eq]
  show 2 < 1000
  decide
/-- at p stands a reader of the class C over the list at l that holds data, its rest is s -/
structure RAt (C p l : Addr) (data s : List Int) (H : Hp) : Prop where
  ob : ∃ dx, H p = some (.ins C dx (rf l ((data.length - s.length : Nat) : Int)))
  lst : H l = some (.lst (data.map V.int))
  sfx : ∃ pre, data = pre ++ s
  small : data.length ≤ 100000
  byt : ∀ b ∈ data, 0 ≤ b ∧ b ≤ 255
section
variable {C p l : Addr} {data s : List Int} {H H' : Hp}
theorem RAt.pl (R : RAt C p l data s H) : l ≠ p := by
  obtain ⟨dx, h⟩ := R.ob
  exact ne_of R.lst h (by intro z; cases z)
theorem RAt.same (R : RAt C p l data s H) (h : Same H H') : RAt C p l data s H' := by
  obtain ⟨dx, e⟩ := R.ob
  exact ⟨⟨dx, h _ _ e⟩, h _ _ R.lst, R.sfx, R.small, R.byt⟩
theorem RAt.sb (R : RAt C p l data s H) {b : Int} (h : b ∈ s) : 0 ≤ b ∧ b ≤ 255 := by
  obtain ⟨pre, e⟩ := R.sfx
  exact R.byt b (by rw [e]; exact List.mem_append_right _ h)
theorem RAt.le (R : RAt C p l data s H) : s.length ≤ data.length := by
  obtain ⟨pre, e⟩ := R.sfx
  rw [e, List.length_append]
  omega
/-- self.at = j -/
theorem RAt.move (R : RAt C p l data s H) {dx : Addr} {i j : Int} {t : List Int} (h : H p = some (.ins C dx (rf l i))) (ht : ∃ pre, data = pre ++ t) (hj : j = ((data.length - t.length : Nat) : Int)) : RAt C p l data t (upd H p (.ins C dx (putF "at" (.int j) (rf l i)))) := by
  refine ⟨⟨dx, ?_⟩, ?_, ht, R.small, R.byt⟩
  · rw [upd_same, rf_put, hj]
  · rw [upd_ne R.pl]
    exact R.lst
theorem fr_upd {o : HO} : Fr p H (upd H p o) := fun b u e n => by
  rw [upd_ne n]
  exact e
theorem RAt.any (R : RAt C p l data s H) : ∃ o, H p = some o := let ⟨_, h⟩ := R.ob; ⟨_, h⟩
theorem sfx_tail {c : Int} {r : List Int} (h : ∃ pre, data = pre ++ c :: r) : ∃ pre, data = pre ++ r := by
  obtain ⟨pre, e⟩ := h
  exact ⟨pre ++ [c], by rw [e]; simp⟩
theorem sfx_drop (n : Nat) {r : List Int} (h : ∃ pre, data = pre ++ r) : ∃ pre, data = pre ++ r.drop n := by
  obtain ⟨pre, e⟩ := h
  exact ⟨pre ++ r.take n, by rw [e, List.append_assoc, List.take_append_drop]⟩
theorem sfx_len {r : List Int} (h : ∃ pre, data = pre ++ r) : r.length ≤ data.length := by
  obtain ⟨pre, e⟩ := h
  rw [e, List.length_append]
  omega
/-- the rest is what stands from the place on -/
theorem sfx_at (h : ∃ pre, data = pre ++ s) : data.drop (data.length - s.length) = s := by
  obtain ⟨pre, e⟩ := h
  have : data.length - s.length = pre.length := by rw [e, List.length_append]; omega
  rw [this, e, List.drop_left]
/-- self.at = self.at + 1 over the byte c -/
theorem RAt.step {c : Int} {r : List Int} {dx : Addr} (R : RAt C p l data (c :: r) H) (h : H p = some (.ins C dx (rf l ((data.length - (c :: r).length : Nat) : Int)))) :
    RAt C p l data r (upd H p (.ins C dx (putF "at" (.int (((data.length - (c :: r).length : Nat) : Int) + 1)) (rf l ((data.length - (c :: r).length : Nat) : Int))))) := by
  refine R.move h (sfx_tail R.sfx) ?_
  have := R.le
  simp only [List.length_cons] at this ⊢
  omega
end
end K22

set_option maxHeartbeats 4000000
/-! spend, digit_value, is_digit, is_regular, bounded_number -/
namespace K22
open PySem PySem.Spec PyProof.Rows L2
section
variable {P : Program} {w : World} {K : PySem.W.Frag} {mg : Str → Option Value} {base : Heap}
def spSpend : Sp := fun vs H Q _ => ∃ l c : Int, vs = [.int l, .int c] ∧ 0 ≤ c ∧ (c ≤ l → ∀ t H', Same H H' → H' t = some (.tup [.int (l - c), .bl true]) → Q (.ref t) H') ∧
  (l < c → ∀ t H', Same H H' → H' t = some (.tup [.int 0, .bl false]) → Q (.ref t) H')
theorem sc_spend : FnScope ["left", "cost"] ["left", "cost"] (defScope s_spend) := ⟨rfl, rfl, rfl, by decide +kernel, rfl, by decide +kernel, by decide +kernel⟩
theorem ok_spend (T : Tx K mg) : Cal P w K mg base "spend" 1 ["left", "cost"] spSpend := by
  obtain ⟨fd, F⟩ := T.F_spend
  refine ⟨_, fd, F.ok sc_spend (fun vs H Q E h => ?_) (fun cdv A outer s H vs Q E hr h => ?_), T.g_spend, F.kp, F.binds fun _ _ _ _ _ _ us hl => match us, hl with | [_, _], _ => rfl⟩
  · obtain ⟨l, c, rfl, _⟩ := h
    rfl
  · obtain ⟨l, c, rfl, h0, h1, h2⟩ := h
    refine ⟨_, pss_cons (ps_set (i := 1) sc_spend.nd rfl (.inl rfl) (pe_callB (call_max2 rfl) (by rfl) T.fr_max (by decide +kernel) (pa_cons (pv 1) (pa_cons pe_int pa_nil))))
      (pss_cons (ps_if (pt_cmpR op_gt (pv 1) (pv 0) (nomark _)) (pss_one (ps_ret (pe_tup (pa_cons pe_int (pa_cons pe_bl pa_nil))))) pss_nil)
      (pss_one (ps_ret (pe_tup (pa_cons (pe_op op_sub (pv 0) (pv 1)) (pa_cons pe_bl pa_nil)))))), ?_⟩
    refine ⟨_, rfl, c, 0, rfl, ?_⟩
    rw [if_neg (by omega)]
    refine ⟨_, rfl, _, rfl, _, _, rfl, rfl, _, rfl, ite2 (fun q => ?_) (fun q => ?_)⟩
    · have q' : l < c := of_decide_eq_true q
      exact ⟨by show 2 ≤ sizeLine; decide, fun t nt => h2 q' t _ (same_new nt) upd_same⟩
    · have q' : ¬ l < c := fun z => q (decide_eq_true z)
      exact ⟨_, rfl, _, rfl, _, _, rfl, rfl, by show 2 ≤ sizeLine; decide, fun t nt => h1 (by omega) t _ (same_new nt) upd_same⟩
/-- lo <= c <= hi as a test -/
theorem chain_le {lo c hi : Int} {A B : Prop} (h1 : lo ≤ c ∧ c ≤ hi → A) (h2 : ¬ (lo ≤ c ∧ c ≤ hi) → B) :
    ∃ i j : Int, V.int lo = .int i ∧ V.int c = .int j ∧ ∃ k, V.bl (decide (i ≤ j)) = .bl k ∧ (if k = true then (∃ i j : Int, V.int c = .int i ∧ V.int hi = .int j ∧ ∃ k, V.bl (decide (i ≤ j)) = .bl k ∧ if k = true then A else B)
      else ∃ k, V.bl false = .bl k ∧ if k = true then A else B) := by
  refine ⟨lo, c, rfl, rfl, _, rfl, ite2 (fun a => ⟨c, hi, rfl, rfl, _, rfl, ite2 (fun b => h1 ⟨of_decide_eq_true a, of_decide_eq_true b⟩) fun b => h2 fun z => b (decide_eq_true z.2)⟩) fun a => ⟨false, rfl, iteF (h2 fun z => a (decide_eq_true z.1))⟩⟩
def spDigit : Sp := fun vs H Q _ => ∃ c : Int, vs = [.int c] ∧ Q (.int (hexv c)) H
theorem sc_digit_value : FnScope ["code"] ["code"] (defScope s_digit_value) := ⟨rfl, rfl, rfl, by decide +kernel, rfl, by decide +kernel, by decide +kernel⟩
theorem ok_digit_value (T : Tx K mg) : Cal P w K mg base "digit_value" 1 ["code"] spDigit := by
  obtain ⟨fd, F⟩ := T.F_digit_value
  refine ⟨_, fd, F.ok sc_digit_value (fun vs H Q E h => ?_) (fun cdv A outer s H vs Q E hr h => ?_), T.g_digit_value, F.kp, F.binds fun _ _ _ _ _ _ us hl => match us, hl with | [_], _ => rfl⟩
  · obtain ⟨c, rfl, _⟩ := h
    rfl
  · obtain ⟨c, rfl, q⟩ := h
    refine ⟨_, pss_cons (ps_if (pt_chain op_le op_le pe_int (pv 0) pe_int) (pss_one (ps_ret (pe_op op_sub (pv 0) pe_int))) pss_nil)
      (pss_cons (ps_if (pt_chain op_le op_le pe_int (pv 0) pe_int) (pss_one (ps_ret (pe_op op_sub (pv 0) pe_int))) pss_nil)
      (pss_cons (ps_if (pt_chain op_le op_le pe_int (pv 0) pe_int) (pss_one (ps_ret (pe_op op_sub (pv 0) pe_int))) pss_nil)
      (pss_one (ps_ret (pe_un un_neg pe_int))))), ?_⟩
    refine ⟨_, rfl, chain_le (fun z => ?_) fun z1 => ?_⟩
    · refine ⟨_, rfl, _, _, rfl, rfl, ?_⟩
      rw [show hexv c = c - 48 by unfold hexv; rw [if_pos z]] at q
      exact q
    refine ⟨_, rfl, chain_le (fun z => ?_) fun z2 => ?_⟩
    · refine ⟨_, rfl, _, _, rfl, rfl, ?_⟩
      rw [show hexv c = c - 87 by unfold hexv; rw [if_neg z1, if_pos z]] at q
      exact q
    refine ⟨_, rfl, chain_le (fun z => ?_) fun z3 => ?_⟩
    · refine ⟨_, rfl, _, _, rfl, rfl, ?_⟩
      rw [show hexv c = c - 55 by unfold hexv; rw [if_neg z1, if_neg z2, if_pos z]] at q
      exact q
    refine ⟨1, rfl, ?_⟩
    rw [show hexv c = -1 by unfold hexv; rw [if_neg z1, if_neg z2, if_neg z3]] at q
    exact q
/-- 48 <= code <= 57 as a value -/
theorem chain_leV {lo c hi : Int} {Q : VK} {H : Hp} (h : Q (.bl (decide (lo ≤ c ∧ c ≤ hi))) H) :
    ∃ i j : Int, V.int lo = .int i ∧ V.int c = .int j ∧ ∃ k, V.bl (decide (i ≤ j)) = .bl k ∧ (if k = true then (∃ i j : Int, V.int c = .int i ∧ V.int hi = .int j ∧ Q (.bl (decide (i ≤ j))) H) else Q (.bl false) H) := by
  refine ⟨lo, c, rfl, rfl, _, rfl, ite2 (fun a => ⟨c, hi, rfl, rfl, ?_⟩) fun a => ?_⟩
  · have a' : lo ≤ c := of_decide_eq_true a
    rw [show decide (c ≤ hi) = decide (lo ≤ c ∧ c ≤ hi) by simp [a']]
    exact h
  · have a' : ¬ lo ≤ c := fun z => a (decide_eq_true z)
    rw [show false = decide (lo ≤ c ∧ c ≤ hi) by simp [a']]
    exact h
def spIsDigit : Sp := fun vs H Q _ => ∃ c : Int, vs = [.int c] ∧ Q (.bl (isDigit c)) H
theorem sc_is_digit : FnScope ["code"] ["code"] (defScope s_is_digit) := ⟨rfl, rfl, rfl, by decide +kernel, rfl, by decide +kernel, by decide +kernel⟩
theorem ok_is_digit (T : Tx K mg) : Cal P w K mg base "is_digit" 1 ["code"] spIsDigit := by
  obtain ⟨fd, F⟩ := T.F_is_digit
  refine ⟨_, fd, F.ok sc_is_digit (fun vs H Q E h => ?_) (fun cdv A outer s H vs Q E hr h => ?_), T.g_is_digit, F.kp, F.binds fun _ _ _ _ _ _ us hl => match us, hl with | [_], _ => rfl⟩
  · obtain ⟨c, rfl, _⟩ := h
    rfl
  · obtain ⟨c, rfl, q⟩ := h
    refine ⟨_, pss_one (ps_ret (pe_chain op_le op_le pe_int (pv 0) pe_int)), ?_⟩
    exact ⟨_, rfl, chain_leV q⟩
/-- an int among ints -/
theorem in_ints (c : Int) : ∀ ns : List Int, inV (.int c) (ns.map V.int) = decide (c ∈ ns)
  | [] => rfl
  | n :: ns => by
    show (eqV (.int n) (.int c) || inV (.int c) (ns.map V.int)) = _
    rw [in_ints c ns, show eqV (.int n) (.int c) = (n == c) from rfl]
    by_cases h : n = c
    · subst h
      simp
    · have h' : ¬ c = n := fun z => h z.symm
      simp [h, h']
theorem flat_ints : ∀ ns : List Int, (ns.map V.int).all flatV = true
  | [] => rfl
  | n :: ns => by
    show (flatV (.int n) && (ns.map V.int).all flatV) = true
    rw [flat_ints ns] <;> rfl
/-- the answers of «c not in ns», «c in ns» -/
theorem nin_eq (c : Int) (ns : List Int) : (if true = true then !inV (.int c) (ns.map V.int) else inV (.int c) (ns.map V.int)) = !decide (c ∈ ns) := by
  rw [in_ints, if_pos rfl]
theorem in_eq (c : Int) (ns : List Int) : (if false = true then !inV (.int c) (ns.map V.int) else inV (.int c) (ns.map V.int)) = decide (c ∈ ns) := by
  rw [in_ints, if_neg Bool.false_ne_true]
def spIsReg : Sp := fun vs H Q _ => ∃ c : Int, vs = [.int c] ∧ Q (.bl (isReg c)) H
theorem sc_is_regular : FnScope ["code"] ["code"] (defScope s_is_regular) := ⟨rfl, rfl, rfl, by decide +kernel, rfl, by decide +kernel, by decide +kernel⟩
theorem ok_is_regular (T : Tx K mg) : Cal P w K mg base "is_regular" 1 ["code"] spIsReg := by
  obtain ⟨fd, F⟩ := T.F_is_regular
  refine ⟨_, fd, F.ok sc_is_regular (fun vs H Q E h => ?_) (fun cdv A outer s H vs Q E hr h => ?_), T.g_is_regular, F.kp, F.binds fun _ _ _ _ _ _ us hl => match us, hl with | [_], _ => rfl⟩
  · obtain ⟨c, rfl, _⟩ := h
    rfl
  · obtain ⟨c, rfl, q⟩ := h
    refine ⟨_, pss_one (ps_ret (pe_and (pe_cmpR op_notIn_seq (pv 0) (pe_gr T.g_WHITE) rfl) (pe_one (pe_cmpR op_notIn_seq (pv 0) (pe_gr T.g_SIGNS) rfl)))), ?_⟩
    refine ⟨_, rfl, _, _, rfl, .inr (T.t_WHITE H), rfl, flat_ints _, _, rfl, ?_⟩
    have e1 := nin_eq c whites
    have e2 := nin_eq c signs
    refine ite2 (fun z => ?_) (fun z => ?_)
    · refine ⟨_, rfl, _, _, rfl, .inr (T.t_SIGNS H), rfl, flat_ints _, ?_⟩
      have e : isReg c = (if true = true then !inV (.int c) (signs.map V.int) else inV (.int c) (signs.map V.int)) := by
        have z' : (!decide (c ∈ whites)) = true := e1.symm.trans z
        rw [e2]
        show (!decide (c ∈ whites) && !decide (c ∈ signs)) = !decide (c ∈ signs)
        rw [z'] <;> rfl
      rw [e] at q
      exact q
    · have e : isReg c = false := by
        have z' : ¬ (!decide (c ∈ whites)) = true := fun y => z (e1.trans y)
        show (!decide (c ∈ whites) && !decide (c ∈ signs)) = false
        rw [Bool.eq_false_iff.mpr z'] <;> rfl
      rw [e] at q
      exact q
def spBounded (K : PySem.W.Frag) : Sp := fun vs H Q _ => ∃ (a : Addr) (ns : List Int), vs = [.ref a] ∧ SqL K H a (ns.map V.int) ∧ Q (.int (bounded ns)) H
theorem sc_bounded_number : FnScope ["codes", "number", "code"] ["codes"] (defScope s_bounded_number) := ⟨rfl, rfl, rfl, by decide +kernel, rfl, by decide +kernel, by decide +kernel⟩
theorem ok_bounded_number (T : Tx K mg) : Cal P w K mg base "bounded_number" 1 ["codes"] (spBounded K) := by
  obtain ⟨fd, F⟩ := T.F_bounded_number
  refine ⟨_, fd, F.ok sc_bounded_number (fun vs H Q E h => ?_) (fun cdv A outer s H vs Q E hr h => ?_), T.g_bounded_number, F.kp, F.binds fun _ _ _ _ _ _ us hl => match us, hl with | [_], _ => rfl⟩
  · obtain ⟨a, ns, rfl, _⟩ := h
    rfl
  · obtain ⟨a, ns, rfl, hS, q⟩ := h
    refine ⟨_, pss_cons (ps_set (i := 1) sc_bounded_number.nd rfl (.inl rfl) pe_int)
      (pss_cons (ps_for PassesOwn.never rfl (pi_list (pv 0)) (pg_name (i := 2) sc_bounded_number.nd rfl (.inl rfl))
        (pss_one (ps_set (i := 1) sc_bounded_number.nd rfl (.inl rfl) (pe_callB (call_min2 rfl) (by rfl) T.fr_min (by decide +kernel) (pa_cons (pe_op op_sub (pe_op op_add (pe_op op_mul pe_int (pv 1)) (pv 2)) pe_int) (pa_cons (pe_op op_add (pe_gi T.i_GREATEST) pe_int) pa_nil))))))
      (pss_one (ps_ret (pv 1)))), ?_⟩
    refine ⟨_, rfl, a, rfl, ⟨_, hS⟩, for_list (K := K) (a := a) (xs := ns.map V.int) (fun i σ H' => ∃ v, σ = [some (.ref a), some (.int (bounded (ns.take i))), v] ∧ H' = H) ⟨_, rfl, rfl⟩ (fun i σ H' _ ⟨_, _, e⟩ => by rw [e]; exact hS) ?_ ?_⟩
    · rintro i x σ H' hx ⟨v, rfl, rfl⟩
      rw [List.getElem?_map] at hx
      obtain ⟨c, hc, rfl⟩ := Option.map_eq_some_iff.mp hx
      refine ⟨_, rfl, _, _, rfl, rfl, .inl ⟨by decide, by decide⟩, _, rfl, _, _, rfl, rfl, _, _, rfl, rfl, _, _, rfl, rfl, _, _, rfl, some (.int c), ?_, rfl⟩
      have e : bounded (ns.take (i + 1)) = (if (2147483647 + 1 : Int) < 10 * bounded (ns.take i) + c - 48 then 2147483647 + 1 else 10 * bounded (ns.take i) + c - 48) := by
        rw [List.take_add_one, hc]
        show (ns.take i ++ [c]).foldl _ 0 = _
        rw [List.foldl_append]
        show min (10 * bounded (ns.take i) + c - 48) 2147483648 = _
        split <;> omega
      rw [e] <;> rfl
    · rintro σ H' ⟨v, rfl, rfl⟩
      rw [List.length_map, List.take_length]
      exact ⟨_, rfl, q⟩
end
end K22

set_option maxHeartbeats 4000000
/-! the reader's small methods -/
namespace K22
open PySem PySem.Spec PyProof.Rows L2
abbrev RC (K : PySem.W.Frag) : Addr := He.ga K "Reader"
/-! ### lists of ints -/
theorem cut_nat (xs : List V) (i j : Nat) : cutV xs (some (i : Int)) (some (j : Int)) = (xs.drop i).take (j - i) := by
  unfold cutV
  rw [HT.sIx_nat, HT.sIx_nat]
  by_cases h : i ≤ xs.length
  · rw [Nat.min_eq_left h]
    by_cases h2 : j ≤ xs.length
    · rw [Nat.min_eq_left h2]
    · rw [Nat.min_eq_right (by omega), List.take_of_length_le (by rw [List.length_drop]; exact Nat.le_refl _), List.take_of_length_le (by rw [List.length_drop]; omega)]
  · rw [List.drop_eq_nil_of_le (as := xs) (i := i) (by omega), List.drop_eq_nil_of_le (as := xs) (i := min i xs.length) (by omega)]
    simp
theorem cut_ints (ns : List Int) (i j : Nat) : cutV (ns.map V.int) (some (i : Int)) (some (j : Int)) = ((ns.drop i).take (j - i)).map V.int := by
  rw [cut_nat, List.map_take, List.map_drop]
theorem dp_all_ints {K : PySem.W.Frag} {H : Hp} : ∀ ns : List Int, DpAll K H (ns.map V.int) (ns.map PyData.int)
  | [] => .nil
  | n :: ns => .cons (.int n) (dp_all_ints ns)
theorem lay_ints : ∀ ns : List Int, PyData.canLayAll0 (ns.map PyData.int) = true
  | [] => by simp [PyData.canLayAll0]
  | n :: ns => by simp [PyData.canLayAll0, PyData.canLay0, lay_ints ns]
theorem depth_ints : ∀ ns : List Int, PyData.depthAll (ns.map PyData.int) ≤ 1
  | [] => by simp [PyData.depthAll]
  | n :: ns => by
    have h := depth_ints ns
    simp only [List.map_cons, PyData.depthAll, PyData.depth]
    omega
theorem shaped_list (ns : List Int) : SeqAt.shaped (.list (ns.map PyData.int)) = true := by
  have h := depth_ints ns
  show (PyData.canLay0 (.list (ns.map PyData.int)) && decide (PyData.depth (.list (ns.map PyData.int)) ≤ 64)) = true
  rw [Bool.and_eq_true]
  refine ⟨by simp only [PyData.canLay0]; exact lay_ints ns, decide_eq_true ?_⟩
  simp only [PyData.depth]
  omega
theorem eqv_all_ints : ∀ ns ms : List Int, PyData.eqvAll (ns.map PyData.int) (ms.map PyData.int) = decide (ns = ms)
  | [], [] => by simp [PyData.eqvAll]
  | [], m :: ms => by simp [PyData.eqvAll]
  | n :: ns, [] => by simp [PyData.eqvAll]
  | n :: ns, m :: ms => by
    simp only [List.map_cons, PyData.eqvAll, PyData.eqv, eqv_all_ints ns ms]
    by_cases h : n = m
    · subst h
      simp
    · simp [h]
theorem eqv_list_ints (ns ms : List Int) : PyData.eqv (.list (ns.map PyData.int)) (.list (ms.map PyData.int)) = decide (ns = ms) := by
  simp only [PyData.eqv]
  exact eqv_all_ints ns ms
/-- two lists of ints compared -/
theorem rEq_ints {K : PySem.W.Frag} {H : Hp} {a b : Addr} {ns ms : List Int} (ha : SqL K H a (ns.map V.int)) (hb : SqL K H b (ms.map V.int)) {Q : VK} (q : Q (.bl (decide (ns = ms))) H) :
    ∃ d e, Dp K H (.ref a) d ∧ Dp K H (.ref b) e ∧ SeqAt.shaped d = true ∧ SeqAt.shaped e = true ∧ Q (.bl (PyData.eqv d e)) H :=
  ⟨.list (ns.map PyData.int), .list (ms.map PyData.int), .lst ha (dp_all_ints ns), .lst hb (dp_all_ints ms), shaped_list ns, shaped_list ms, by rw [eqv_list_ints]; exact q⟩
section
variable {P : Program} {w : World} {K : PySem.W.Frag} {mg : Str → Option Value} {base : Heap}
/-! ### here -/
def spHere (C : Addr) : Sp := fun vs H Q _ => ∃ (p l : Addr) (data s : List Int), vs = [.ref p] ∧ RAt C p l data s H ∧ Q (.int (s.headD (-1))) H
theorem sc_here : FnScope ["self"] ["self"] (defScope m_here) := ⟨rfl, rfl, rfl, by decide +kernel, rfl, by decide +kernel, by decide +kernel⟩
theorem ok_here (T : Tx K mg) : CalM P w K mg base (RC K) "here" 1 ["self"] (spHere (RC K)) := by
  obtain ⟨fd, F⟩ := T.FM_here
  refine ⟨_, fd, F.ok sc_here (fun vs H Q E h => ?_) (fun cdv A outer s H vs Q E hr h => ?_), T.M_here, F.binds fun _ _ _ _ _ _ us hl => match us, hl with | [_], _ => rfl⟩
  · obtain ⟨p, l, data, s, rfl, _⟩ := h
    rfl
  · obtain ⟨p, l, data, s, rfl, R, q⟩ := h
    obtain ⟨dx, h1⟩ := R.ob
    have hl := R.le
    refine ⟨_, pss_cons (ps_if (pt_cmpR op_lt (pe_fld (pv 0) rfl) (pe_callB call_len_seq (by rfl) T.fr_len PySem.boot_len (pa_cons (pe_fld (pv 0) rfl) pa_nil)) (nomark _))
        (pss_one (ps_ret (pe_ix ix_list (pe_fld (pv 0) rfl) (pe_fld (pv 0) rfl) (fun _ _ => rfl)))) pss_nil)
      (pss_one (ps_ret (pe_un un_neg pe_int))), ?_⟩
    refine ⟨_, rfl, p, _, dx, _, _, rfl, h1, T.cl, T.nAt, rf_at _ _, _, rfl, p, _, dx, _, _, rfl, h1, T.cl, T.nData, rf_data _ _, l, _, rfl, .inl (SqL.of R.lst), _, _, rfl, rfl, _, rfl, ite2 (fun z => ?_) (fun z => ?_)⟩
    · have z' : ((data.length - s.length : Nat) : Int) < (((data.map V.int).length : Nat) : Int) := of_decide_eq_true z
      rw [List.length_map] at z'
      cases s with
      | nil => simp only [List.length_nil] at z'; omega
      | cons c r =>
        have e := sfx_at R.sfx
        have hc : (data.map V.int)[data.length - (c :: r).length]? = some (.int c) := by
          rw [List.getElem?_map, ← List.head?_drop, e] <;> rfl
        exact ⟨_, rfl, p, _, dx, _, _, rfl, h1, T.cl, T.nData, rf_data _ _, _, rfl, p, _, dx, _, _, rfl, h1, T.cl, T.nAt, rf_at _ _, l, _, _, _, rfl, rfl, SqL.of R.lst, atI_nat hc, q⟩
    · have z' : ¬ ((data.length - s.length : Nat) : Int) < (((data.map V.int).length : Nat) : Int) := fun y => z (decide_eq_true y)
      rw [List.length_map] at z'
      cases s with
      | nil => exact ⟨_, rfl, q⟩
      | cons c r =>
        have := R.le
        simp only [List.length_cons] at z' this
        omega
/-! ### starts -/
def spStarts (C : Addr) : Sp := fun vs H Q _ => ∃ (p l : Addr) (data s : List Int) (a b : Int), vs = [.ref p, .int a, .int b] ∧ RAt C p l data s H ∧ ∀ H', Same H H' → Q (.bl (decide (s.take 2 = [a, b]))) H'
theorem sc_starts : FnScope ["self", "first", "second"] ["self", "first", "second"] (defScope m_starts) := ⟨rfl, rfl, rfl, by decide +kernel, rfl, by decide +kernel, by decide +kernel⟩
theorem ok_starts (T : Tx K mg) : CalM P w K mg base (RC K) "starts" 1 ["self", "first", "second"] (spStarts (RC K)) := by
  obtain ⟨fd, F⟩ := T.FM_starts
  refine ⟨_, fd, F.ok sc_starts (fun vs H Q E h => ?_) (fun cdv A outer s H vs Q E hr h => ?_), T.M_starts, F.binds fun _ _ _ _ _ _ us hl => match us, hl with | [_, _, _], _ => rfl⟩
  · obtain ⟨p, l, data, s, a, b, rfl, _⟩ := h
    rfl
  · obtain ⟨p, l, data, s, a, b, rfl, R, q⟩ := h
    obtain ⟨dx, h1⟩ := R.ob
    refine ⟨_, pss_one (ps_ret (pe_cmpR (op_eqD hr.units) (pe_slice sl_list (pe_fld (pv 0) rfl) (po_some (pe_fld (pv 0) rfl)) (po_some (pe_op op_add (pe_fld (pv 0) rfl) pe_int))) (pe_lst (pa_cons (pv 1) (pa_cons (pv 2) pa_nil))) (nomark _))), ?_⟩
    refine ⟨_, rfl, p, _, dx, _, _, rfl, h1, T.cl, T.nData, rf_data _ _, _, ⟨rfl, p, _, dx, _, _, rfl, h1, T.cl, T.nAt, rf_at _ _, _, rfl, _, rfl, p, _, dx, _, _, rfl, h1, T.cl, T.nAt, rf_at _ _, _, _, rfl, rfl, _, rfl, l, _, rfl, SqL.of R.lst, fun u nu => ?_⟩⟩
    have s1 := same_new (o := .lst (cutV (data.map V.int) (some ((data.length - s.length : Nat) : Int)) (some (((data.length - s.length : Nat) : Int) + 2)))) nu
    refine ⟨_, rfl, _, rfl, by show 2 ≤ sizeLine; decide, fun v nv => ?_⟩
    have s2 := same_new (o := .lst [V.int a, V.int b]) nv
    have ec : cutV (data.map V.int) (some ((data.length - s.length : Nat) : Int)) (some (((data.length - s.length : Nat) : Int) + 2)) = (s.take 2).map V.int := by
      rw [show (((data.length - s.length : Nat) : Int) + 2) = ((data.length - s.length + 2 : Nat) : Int) by omega, cut_ints, sfx_at R.sfx, Nat.add_sub_cancel_left]
    have hu : (upd (upd H u (.lst (cutV (data.map V.int) (some ((data.length - s.length : Nat) : Int)) (some (((data.length - s.length : Nat) : Int) + 2))))) v (.lst [V.int a, V.int b])) u = some (.lst ((s.take 2).map V.int)) := by
      rw [← ec]
      exact s2 u _ upd_same
    exact rEq_ints (ns := s.take 2) (ms := [a, b]) (SqL.of hu) (SqL.of upd_same) (q _ (s1.trans s2))
/-! ### skip_white -/
def spSkipW (C : Addr) : Sp := fun vs H Q _ => ∃ (p l : Addr) (data s : List Int), vs = [.ref p] ∧ RAt C p l data s H ∧ ∀ H', RAt C p l data (skipW s) H' → Fr p H H' → Q .non H'
theorem sc_skip_white : FnScope ["self"] ["self"] (defScope m_skip_white) := ⟨rfl, rfl, rfl, by decide +kernel, rfl, by decide +kernel, by decide +kernel⟩
theorem ok_skip_white (T : Tx K mg) : CalM P w K mg base (RC K) "skip_white" 2 ["self"] (spSkipW (RC K)) := by
  obtain ⟨fd, F⟩ := T.FM_skip_white
  refine ⟨_, fd, F.ok sc_skip_white (fun vs H Q E h => ?_) (fun cdv A outer s H vs Q E hr h => ?_), T.M_skip_white, F.binds fun _ _ _ _ _ _ us hl => match us, hl with | [_], _ => rfl⟩
  · obtain ⟨p, l, data, s, rfl, _⟩ := h
    rfl
  · obtain ⟨p, l, data, s0, rfl, R0, q⟩ := h
    refine ⟨_, pss_one (ps_while PassesOwn.never (pt_cmpR op_in_seq (pe_mcal0 T.cl (ok_here T) hr (pv 0)) (pe_gr T.g_WHITE) rfl)
      (pss_one (ps_fld (pv 0) (pe_op op_add (pe_fld (pv 0) rfl) pe_int) rfl))), ?_⟩
    refine ⟨fun m σ H' => ∃ s, σ = [some (.ref p)] ∧ m = s.length ∧ RAt (RC K) p l data s H' ∧ skipW s = skipW s0 ∧ Fr p H H', ⟨_, s0, rfl, rfl, R0, rfl, Fr.refl _ _⟩, ?_⟩
    rintro m σ H' ⟨s, rfl, rfl, R, es, fr⟩
    obtain ⟨dx, h1⟩ := R.ob
    refine ⟨_, rfl, p, dx, _, rfl, h1, rf_no _ _ (by decide +kernel) (by decide +kernel), p, l, data, s, rfl, R, ?_⟩
    refine ⟨_, _, rfl, .inr (T.t_WHITE H'), rfl, flat_ints _, _, rfl, ite2 (fun z => ?_) (fun z => ?_)⟩
    · have z' : decide (s.headD (-1) ∈ whites) = true := (in_eq _ whites).symm.trans z
      cases s with
      | nil => exact absurd z' (by decide)
      | cons c r =>
        have hw : isWhite c = true := z'
        refine ⟨fun σ2 H2 => ∃ s, σ2 = [some (.ref p)] ∧ s.length < (c :: r).length ∧ RAt (RC K) p l data s H2 ∧ skipW s = skipW s0 ∧ Fr p H H2, fun σ2 H2 ⟨s, e1, e2, e3, e4, e5⟩ => ⟨s.length, e2, s, e1, rfl, e3, e4, e5⟩, ?_⟩
        refine ⟨_, rfl, p, _, dx, _, _, rfl, h1, T.cl, T.nAt, rf_at _ _, _, _, rfl, rfl, _, rfl, p, _, dx, _, rfl, h1, T.cl, T.nAt, rf_few _ _, r, rfl, by simp, R.step h1, ?_, fr.trans fr_upd⟩
        rw [← es]
        unfold skipW
        rw [List.dropWhile_cons, if_pos hw]
    · have z' : ¬ decide (s.headD (-1) ∈ whites) = true := fun y => z ((in_eq _ whites).trans y)
      have e : skipW s = s := by
        cases s with
        | nil => rfl
        | cons c r =>
          unfold skipW
          rw [List.dropWhile_cons, if_neg (show ¬ isWhite c = true from z')]
      rw [e] at es
      rw [es] at R
      exact q H' R fr
end
end K22

set_option maxHeartbeats 4000000
/-! skip_space, word, mark_end, take_mark, is_mark -/
namespace K22
open PySem PySem.Spec PyProof.Rows L2
/-! ### plain facts of space -/
theorem dw_le {α : Type} (f : α → Bool) (l : List α) : (l.dropWhile f).length ≤ l.length := (List.dropWhile_sublist f).length_le
theorem skipS_white (s : List Int) : skipS false (skipW s) = skipS false s := by
  induction s with
  | nil => rfl
  | cons c r ih =>
    unfold skipW at ih ⊢
    rw [List.dropWhile_cons]
    by_cases h : isWhite c = true
    · rw [if_pos h, ih]
      conv => rhs; unfold skipS
      rw [if_pos h]
    · rw [if_neg h]
theorem skipS_stop {c : Int} {r : List Int} (h1 : isWhite c = false) (h2 : c ≠ 37) : skipS false (c :: r) = c :: r := by
  unfold skipS
  rw [if_neg (by rw [h1]; exact Bool.false_ne_true), if_neg h2]
theorem skipW_head {s r : List Int} {c : Int} (h : skipW s = c :: r) : isWhite c = false := by
  have := List.head?_dropWhile_not isWhite s
  unfold skipW at h
  rw [h] at this
  simpa using this
theorem lends_white {c : Int} (h : c ∈ lends) : isWhite c = true := by
  simp only [lends, List.mem_cons, List.not_mem_nil, or_false] at h
  rcases h with rfl | rfl <;> decide
/-- behind a remark's end -/
theorem skipS_end {s : List Int} (h : ∀ c, s.head? = some c → c ∈ lends) : skipS true s = skipS false s := by
  cases s with
  | nil => rfl
  | cons c r =>
    have hc := h c rfl
    unfold skipS
    rw [if_pos hc, if_pos (lends_white hc)]
theorem skipS_in {c : Int} {r : List Int} (h : c ∉ lends) : skipS true (c :: r) = skipS true r := by
  conv => lhs; unfold skipS
  rw [if_neg h]
section
variable {P : Program} {w : World} {K : PySem.W.Frag} {mg : Str → Option Value} {base : Heap}
def spSkipS (C : Addr) : Sp := fun vs H Q _ => ∃ (p l : Addr) (data s : List Int), vs = [.ref p] ∧ RAt C p l data s H ∧ ∀ H', RAt C p l data (skipS false s) H' → Fr p H H' → Q .non H'
theorem sc_skip_space : FnScope ["self"] ["self"] (defScope m_skip_space) := ⟨rfl, rfl, rfl, by decide +kernel, rfl, by decide +kernel, by decide +kernel⟩
theorem ok_skip_space (T : Tx K mg) : CalM P w K mg base (RC K) "skip_space" 3 ["self"] (spSkipS (RC K)) := by
  obtain ⟨fd, F⟩ := T.FM_skip_space
  refine ⟨_, fd, F.ok sc_skip_space (fun vs H Q E h => ?_) (fun cdv A outer s H vs Q E hr h => ?_), T.M_skip_space, F.binds fun _ _ _ _ _ _ us hl => match us, hl with | [_], _ => rfl⟩
  · obtain ⟨p, l, data, s, rfl, _⟩ := h
    rfl
  · obtain ⟨p, l, data, s0, rfl, R0, q⟩ := h
    have hr1 : Room 1 _ := hr.mono (by decide)
    refine ⟨_, pss_cons (ps_expr (pe_mcal0 T.cl (ok_skip_white T) hr (pv 0)))
      (pss_one (ps_while PassesOwn.never (pt_cmpR op_eq (pe_mcal0 T.cl (ok_here T) hr1 (pv 0)) (pe_gi T.i_REMARK) (nomark _))
        (pss_cons (ps_while PassesOwn.never (PW.pt (pw_and (pt_cmpR op_ge (pe_mcal0 T.cl (ok_here T) hr1 (pv 0)) pe_int (nomark _)) (pw_and1 (pt_cmpR op_notIn_seq (pe_mcal0 T.cl (ok_here T) hr1 (pv 0)) (pe_gr T.g_LINE_ENDS) rfl))))
          (pss_one (ps_fld (pv 0) (pe_op op_add (pe_fld (pv 0) rfl) pe_int) rfl)))
        (pss_one (ps_expr (pe_mcal0 T.cl (ok_skip_white T) hr (pv 0))))))), ?_⟩
    obtain ⟨dx0, h0⟩ := R0.ob
    refine ⟨_, rfl, p, dx0, _, rfl, h0, rf_no _ _ (by decide +kernel) (by decide +kernel), p, l, data, s0, rfl, R0, fun H1 R1 fr1 => ?_⟩
    refine ⟨fun m σ H' => ∃ s, σ = [some (.ref p)] ∧ m = s.length ∧ RAt (RC K) p l data s H' ∧ skipS false s = skipS false s0 ∧ (∀ c, s.head? = some c → isWhite c = false) ∧ Fr p H H', ⟨_, _, rfl, rfl, R1, skipS_white s0, fun c hc => ?_, fr1⟩, ?_⟩
    · cases e : skipW s0 with
      | nil => rw [e] at hc; cases hc
      | cons d r =>
        rw [e] at hc
        cases hc
        exact skipW_head e
    rintro m σ H' ⟨s, rfl, rfl, R, es, hw, fr⟩
    obtain ⟨dx, h1⟩ := R.ob
    refine ⟨_, rfl, p, dx, _, rfl, h1, rf_no _ _ (by decide +kernel) (by decide +kernel), p, l, data, s, rfl, R, rfl, _, rfl, ite2 (fun z => ?_) (fun z => ?_)⟩
    · have z' : s.headD (-1) = 37 := V.int.inj (of_decide_eq_true z)
      cases s with
      | nil => cases z'
      | cons c r =>
        have ec : c = 37 := z'
        subst ec
        refine ⟨fun σ2 H2 => ∃ s, σ2 = [some (.ref p)] ∧ s.length < ((37 : Int) :: r).length ∧ RAt (RC K) p l data s H2 ∧ skipS false s = skipS false s0 ∧ (∀ c, s.head? = some c → isWhite c = false) ∧ Fr p H H2, fun σ2 H2 ⟨s, e1, e2, e3, e4, e5, e6⟩ => ⟨s.length, e2, s, e1, rfl, e3, e4, e5, e6⟩, ?_⟩
        -- up to the line's end
        refine ⟨fun m σ H2 => ∃ s, σ = [some (.ref p)] ∧ m = s.length ∧ RAt (RC K) p l data s H2 ∧ skipS true s = skipS false s0 ∧ (s = 37 :: r ∨ s.length < ((37 : Int) :: r).length) ∧ Fr p H H2, ⟨_, _, rfl, rfl, R, ?_, .inl rfl, fr⟩, ?_⟩
        · rw [← es, skipS_in (by decide)]
          conv => rhs; unfold skipS
          rw [if_neg (by decide), if_pos rfl]
        rintro m2 σ2 H2 ⟨s2, rfl, rfl, R2, es2, hl2, fr2⟩
        obtain ⟨dx2, h2⟩ := R2.ob
        refine ⟨_, rfl, p, dx2, _, rfl, h2, rf_no _ _ (by decide +kernel) (by decide +kernel), p, l, data, s2, rfl, R2, _, _, rfl, rfl, _, rfl, ?_⟩
        have fin : (∀ c, s2.head? = some c → c ∈ lends) → tDrop (tMeth (RC K) "skip_white" (spSkipW (RC K)) [] E0 (tVar 0) tNil) { nx := fun σ2 H2 => ∃ s, σ2 = [some (.ref p)] ∧ s.length < ((37 : Int) :: r).length ∧ RAt (RC K) p l data s H2 ∧ skipS false s = skipS false s0 ∧ (∀ c, s.head? = some c → isWhite c = false) ∧ Fr p H H2, rt := Q } [some (.ref p)] H2 := by
          intro hz
          have hne : s2 ≠ 37 :: r := fun e => by
            rw [e] at hz
            exact absurd (hz 37 rfl) (by decide)
          have hlt : s2.length < ((37 : Int) :: r).length := hl2.resolve_left hne
          refine ⟨_, rfl, p, dx2, _, rfl, h2, rf_no _ _ (by decide +kernel) (by decide +kernel), p, l, data, s2, rfl, R2, fun H3 R3 fr3 => ⟨skipW s2, rfl, ?_, R3, ?_, fun c hc => ?_, fr2.trans fr3⟩⟩
          · exact Nat.lt_of_le_of_lt (dw_le _ _) hlt
          · rw [skipS_white, ← es2, skipS_end hz]
          · cases e : skipW s2 with
            | nil => rw [e] at hc; cases hc
            | cons d t =>
              rw [e] at hc
              cases hc
              exact skipW_head e
        refine ite2 (fun z2 => ?_) (fun z2 => ?_)
        · refine ⟨_, rfl, p, dx2, _, rfl, h2, rf_no _ _ (by decide +kernel) (by decide +kernel), p, l, data, s2, rfl, R2, _, _, rfl, .inr (T.t_LINE_ENDS H2), rfl, flat_ints _, _, rfl, ite2 (fun z3 => ?_) (fun z3 => ?_)⟩
          · have z3' : (!decide (s2.headD (-1) ∈ lends)) = true := (nin_eq _ lends).symm.trans z3
            cases s2 with
            | nil =>
              have : (0 : Int) ≤ -1 := of_decide_eq_true z2
              omega
            | cons c t =>
              have hc : c ∉ lends := by simpa using z3'
              refine ⟨fun σ3 H3 => ∃ s, σ3 = [some (.ref p)] ∧ s.length < (c :: t).length ∧ RAt (RC K) p l data s H3 ∧ skipS true s = skipS false s0 ∧ (s = 37 :: r ∨ s.length < ((37 : Int) :: r).length) ∧ Fr p H H3, fun σ3 H3 ⟨s, e1, e2, e3, e4, e5, e6⟩ => ⟨s.length, e2, s, e1, rfl, e3, e4, e5, e6⟩, ?_⟩
              refine ⟨_, rfl, p, _, dx2, _, _, rfl, h2, T.cl, T.nAt, rf_at _ _, _, _, rfl, rfl, _, rfl, p, _, dx2, _, rfl, h2, T.cl, T.nAt, rf_few _ _, t, rfl, by simp, R2.step h2, ?_, .inr ?_, fr2.trans fr_upd⟩
              · rw [← es2, skipS_in hc]
              · rcases hl2 with e | e
                · injection e with _ e2
                  rw [e2]
                  simp
                · simp only [List.length_cons] at e ⊢
                  omega
          · have z3' : ¬ (!decide (s2.headD (-1) ∈ lends)) = true := fun y => z3 ((nin_eq _ lends).trans y)
            refine fin fun c hc => ?_
            cases s2 with
            | nil => cases hc
            | cons d t =>
              cases hc
              simpa using z3'
        · refine fin fun c hc => ?_
          cases s2 with
          | nil => cases hc
          | cons d t =>
            have hd := R2.sb (b := d) List.mem_cons_self
            exact absurd (decide_eq_true (show (0 : Int) ≤ d from hd.1)) z2
    · have z' : ¬ s.headD (-1) = 37 := fun y => z (decide_eq_true (congrArg V.int y))
      have e : skipS false s = s := by
        cases s with
        | nil => rfl
        | cons c r => exact skipS_stop (hw c rfl) z'
      rw [e] at es
      rw [es] at R
      exact q H' R fr
/-! ### word -/
theorem sfx_dw {data s : List Int} (f : Int → Bool) (h : ∃ pre, data = pre ++ s) : ∃ pre, data = pre ++ s.dropWhile f := by
  obtain ⟨pre, e⟩ := h
  exact ⟨pre ++ s.takeWhile f, by rw [e, List.append_assoc, List.takeWhile_append_dropWhile]⟩
/-- what stands between two places -/
theorem cut_between {data s t pre : List Int} (h : ∃ q, data = q ++ s) (e : s = pre ++ t) :
    cutV (data.map V.int) (some ((data.length - s.length : Nat) : Int)) (some ((data.length - t.length : Nat) : Int)) = pre.map V.int := by
  have hs := sfx_len h
  have hl : s.length = pre.length + t.length := by rw [e, List.length_append]
  rw [cut_ints, sfx_at h, show data.length - t.length - (data.length - s.length) = pre.length by omega, e, List.take_left]
def spWord (C : Addr) : Sp := fun vs H Q _ => ∃ (p l : Addr) (data s : List Int), vs = [.ref p] ∧ RAt C p l data s H ∧ ∀ a H', H a = none → H' a = some (.lst ((takeR s).map V.int)) → RAt C p l data (dropR s) H' → Fr p H H' → Q (.ref a) H'
theorem sc_word : FnScope ["self", "start"] ["self"] (defScope m_word) := ⟨rfl, rfl, rfl, by decide +kernel, rfl, by decide +kernel, by decide +kernel⟩
theorem ok_word (T : Tx K mg) : CalM P w K mg base (RC K) "word" 2 ["self"] (spWord (RC K)) := by
  obtain ⟨fd, F⟩ := T.FM_word
  refine ⟨_, fd, F.ok sc_word (fun vs H Q E h => ?_) (fun cdv A outer s H vs Q E hr h => ?_), T.M_word, F.binds fun _ _ _ _ _ _ us hl => match us, hl with | [_], _ => rfl⟩
  · obtain ⟨p, l, data, s, rfl, _⟩ := h
    rfl
  · obtain ⟨p, l, data, s0, rfl, R0, q⟩ := h
    obtain ⟨dx0, h0⟩ := R0.ob
    refine ⟨_, pss_cons (ps_set (i := 1) sc_word.nd rfl (.inl rfl) (pe_fld (pv 0) rfl))
      (pss_cons (ps_while PassesOwn.never (PW.pt (pw_and (pt_cmpR op_ge (pe_mcal0 T.cl (ok_here T) hr (pv 0)) pe_int (nomark _)) (pw_and1 (pt_val (pe_cal (ok_is_regular T) hr (pa_cons (pe_mcal0 T.cl (ok_here T) hr (pv 0)) pa_nil))))))
        (pss_one (ps_fld (pv 0) (pe_op op_add (pe_fld (pv 0) rfl) pe_int) rfl)))
      (pss_one (ps_ret (pe_slice sl_list (pe_fld (pv 0) rfl) (po_some (pv 1)) (po_some (pe_fld (pv 0) rfl)))))), ?_⟩
    refine ⟨_, rfl, p, _, dx0, _, _, rfl, h0, T.cl, T.nAt, rf_at _ _, ?_⟩
    refine ⟨fun m σ H' => ∃ s pre, σ = [some (.ref p), some (.int ((data.length - s0.length : Nat) : Int))] ∧ m = s.length ∧ RAt (RC K) p l data s H' ∧ s0 = pre ++ s ∧ takeR s0 = pre ++ takeR s ∧ dropR s0 = dropR s ∧ Fr p H H', ⟨_, s0, [], rfl, rfl, R0, rfl, rfl, rfl, Fr.refl _ _⟩, ?_⟩
    rintro m σ H' ⟨s, pre, rfl, rfl, R, e0, et, ed, fr⟩
    obtain ⟨dx, h1⟩ := R.ob
    refine ⟨_, rfl, p, dx, _, rfl, h1, rf_no _ _ (by decide +kernel) (by decide +kernel), p, l, data, s, rfl, R, _, _, rfl, rfl, _, rfl, ?_⟩
    have fin : takeR s = [] → tRet (tSl (rSlL K) (tFld K (tVar 0) "data") (tPart (tVar 1)) (tPart (tFld K (tVar 0) "at"))) { nx := fun _ H' => Q .non H', rt := Q } [some (.ref p), some (.int ((data.length - s0.length : Nat) : Int))] H' := by
      intro hz
      have hd : dropR s = s := by
        have := List.takeWhile_append_dropWhile (p := isReg) (l := s)
        rw [show s.takeWhile isReg = [] from hz] at this
        exact this
      refine ⟨_, rfl, p, _, dx, _, _, rfl, h1, T.cl, T.nData, rf_data _ _, _, ⟨rfl, _, rfl, _, rfl, p, _, dx, _, _, rfl, h1, T.cl, T.nAt, rf_at _ _, _, rfl, l, _, rfl, SqL.of R.lst, fun u nu => ?_⟩⟩
      have nup : H u = none := fr.free h0 R.any nu
      have sN := same_new (o := .lst (cutV (data.map V.int) (some ((data.length - s0.length : Nat) : Int)) (some ((data.length - s.length : Nat) : Int)))) nu
      rw [hz, List.append_nil] at et
      rw [hd] at ed
      refine q u _ nup (upd_same.trans ?_) ?_ (fr.trans (Fr.of sN))
      · rw [cut_between R0.sfx e0, et]
      · rw [ed]
        exact R.same sN
    refine ite2 (fun z => ?_) (fun z => ?_)
    · refine ⟨_, rfl, p, dx, _, rfl, h1, rf_no _ _ (by decide +kernel) (by decide +kernel), p, l, data, s, rfl, R, _, rfl, _, rfl, ite2 (fun z2 => ?_) (fun z2 => ?_)⟩
      · cases s with
        | nil =>
          have : (0 : Int) ≤ -1 := of_decide_eq_true z
          omega
        | cons c t =>
          have hc : isReg c = true := z2
          refine ⟨fun σ3 H3 => ∃ s pre, σ3 = [some (.ref p), some (.int ((data.length - s0.length : Nat) : Int))] ∧ s.length < (c :: t).length ∧ RAt (RC K) p l data s H3 ∧ s0 = pre ++ s ∧ takeR s0 = pre ++ takeR s ∧ dropR s0 = dropR s ∧ Fr p H H3, fun σ3 H3 ⟨s, pre, e1, e2, e3⟩ => ⟨s.length, e2, s, pre, e1, rfl, e3⟩, ?_⟩
          refine ⟨_, rfl, p, _, dx, _, _, rfl, h1, T.cl, T.nAt, rf_at _ _, _, _, rfl, rfl, _, rfl, p, _, dx, _, rfl, h1, T.cl, T.nAt, rf_few _ _, t, pre ++ [c], rfl, by simp, R.step h1, ?_, ?_, ?_, fr.trans fr_upd⟩
          · rw [e0]; simp
          · rw [et]
            unfold takeR
            rw [List.takeWhile_cons, if_pos hc]
            simp
          · rw [ed]
            unfold dropR
            rw [List.dropWhile_cons, if_pos hc]
      · refine fin ?_
        cases s with
        | nil => rfl
        | cons c t =>
          unfold takeR
          rw [List.takeWhile_cons, if_neg (show ¬ isReg c = true from z2)]
    · refine fin ?_
      cases s with
      | nil => rfl
      | cons c t =>
        have hd := R.sb (b := c) List.mem_cons_self
        exact absurd (decide_eq_true (show (0 : Int) ≤ c from hd.1)) z
end
end K22

set_option maxHeartbeats 4000000
/-! mark_end, take_mark, is_mark -/
namespace K22
open PySem PySem.Spec PyProof.Rows L2
def markE (data s : List Int) : Int := match markOf s with
  | some (_, t) => ((data.length - t.length : Nat) : Int)
  | none => -1
theorem tw_dw {α : Type} (f : α → Bool) (l : List α) : (l.takeWhile f).length + (l.dropWhile f).length = l.length := by
  rw [← List.length_append, List.takeWhile_append_dropWhile]
theorem markOf_ok {c : Int} {r : List Int} (h : (c = 35 ∨ c = 64) ∧ 1 ≤ (r.takeWhile isDigit).length ∧ (r.takeWhile isDigit).length ≤ 9 ∧ 1 ≤ bounded (r.takeWhile isDigit) ∧ bounded (r.takeWhile isDigit) ≤ 9999) :
    markOf (c :: r) = some (bounded (r.takeWhile isDigit), r.dropWhile isDigit) := by
  unfold markOf
  exact if_pos h
theorem markOf_no {c : Int} {r : List Int} (h : ¬ ((c = 35 ∨ c = 64) ∧ 1 ≤ (r.takeWhile isDigit).length ∧ (r.takeWhile isDigit).length ≤ 9 ∧ 1 ≤ bounded (r.takeWhile isDigit) ∧ bounded (r.takeWhile isDigit) ≤ 9999)) : markOf (c :: r) = none := by
  unfold markOf
  exact if_neg h
theorem markOf_some {s t : List Int} {n : Int} (h : markOf s = some (n, t)) : ∃ c r, s = c :: r ∧ ((c = 35 ∨ c = 64) ∧ 1 ≤ (r.takeWhile isDigit).length ∧ (r.takeWhile isDigit).length ≤ 9 ∧ 1 ≤ bounded (r.takeWhile isDigit) ∧ bounded (r.takeWhile isDigit) ≤ 9999) ∧
    n = bounded (r.takeWhile isDigit) ∧ t = r.dropWhile isDigit := by
  cases s with
  | nil => cases h
  | cons c r =>
    by_cases q : ((c = 35 ∨ c = 64) ∧ 1 ≤ (r.takeWhile isDigit).length ∧ (r.takeWhile isDigit).length ≤ 9 ∧ 1 ≤ bounded (r.takeWhile isDigit) ∧ bounded (r.takeWhile isDigit) ≤ 9999)
    · rw [markOf_ok q] at h
      cases h
      exact ⟨c, r, rfl, q, rfl, rfl⟩
    · rw [markOf_no q] at h
      cases h
theorem drop_more {data s r pre : List Int} {i : Nat} (h : data.drop i = pre ++ r) : data.drop (i + pre.length) = r := by
  rw [← List.drop_drop, h, List.drop_left]
section
variable {P : Program} {w : World} {K : PySem.W.Frag} {mg : Str → Option Value} {base : Heap}
def spMarkEnd (C : Addr) : Sp := fun vs H Q _ => ∃ (p l : Addr) (data s : List Int), vs = [.ref p] ∧ RAt C p l data s H ∧ ∀ H', Same H H' → Q (.int (markE data s)) H'
theorem sc_mark_end : FnScope ["self", "end", "digits"] ["self"] (defScope m_mark_end) := ⟨rfl, rfl, rfl, by decide +kernel, rfl, by decide +kernel, by decide +kernel⟩
theorem ok_mark_end (T : Tx K mg) : CalM P w K mg base (RC K) "mark_end" 2 ["self"] (spMarkEnd (RC K)) := by
  obtain ⟨fd, F⟩ := T.FM_mark_end
  refine ⟨_, fd, F.ok sc_mark_end (fun vs H Q E h => ?_) (fun cdv A outer s H vs Q E hr h => ?_), T.M_mark_end, F.binds fun _ _ _ _ _ _ us hl => match us, hl with | [_], _ => rfl⟩
  · obtain ⟨p, l, data, s, rfl, _⟩ := h
    rfl
  · obtain ⟨p, l, data, s, rfl, R, q⟩ := h
    obtain ⟨dx, h1⟩ := R.ob
    have hle := R.le
    refine ⟨_, pss_cons (ps_set (i := 1) sc_mark_end.nd rfl (.inl rfl) (pe_op op_add (pe_fld (pv 0) rfl) pe_int))
      (C8.pss_cut (ps_while PassesOwn.never (PW.pt (pw_and (pt_cmpR op_lt (pv 1) (pe_callB call_len_seq (by rfl) T.fr_len PySem.boot_len (pa_cons (pe_fld (pv 0) rfl) pa_nil)) (nomark _))
          (pw_and1 (pt_val (pe_cal (ok_is_digit T) hr (pa_cons (pe_ix ix_list (pe_fld (pv 0) rfl) (pv 1) (fun _ _ => rfl)) pa_nil))))))
        (pss_one (ps_set (i := 1) sc_mark_end.nd rfl (.inl rfl) (pe_op op_add (pv 1) pe_int))))
      (pss_cons (ps_set (i := 2) sc_mark_end.nd rfl (.inl rfl) (pe_slice sl_list (pe_fld (pv 0) rfl) (po_some (pe_op op_add (pe_fld (pv 0) rfl) pe_int)) (po_some (pv 1))))
      (pss_cons (ps_if (PW.pt (pw_or (pt_cmpR op_notIn_seq (pe_mcal0 T.cl (ok_here T) hr (pv 0)) (pe_tup (pa_cons (pe_gi T.i_OBJECT) (pa_cons (pe_gi T.i_REFERENCE) pa_nil))) rfl)
          (pw_or (pt_cmpR op_lt (pe_callB call_len_seq (by rfl) T.fr_len PySem.boot_len (pa_cons (pv 2) pa_nil)) pe_int (nomark _)) (pw_or1 (pt_cmpR op_gt (pe_callB call_len_seq (by rfl) T.fr_len PySem.boot_len (pa_cons (pv 2) pa_nil)) pe_int (nomark _))))))
        (pss_one (ps_ret (pe_un un_neg pe_int))) pss_nil)
      (pss_one (ps_ret (pe_ifExp (pt_chain op_le op_le pe_int (pe_cal (ok_bounded_number T) hr (pa_cons (pv 2) pa_nil)) (pe_gi T.i_MOST_NUMBER)) (pv 1) (pe_un un_neg pe_int))))))), ?_⟩
    have ed : data.drop (data.length - s.length + 1) = s.drop 1 := by rw [← List.drop_drop, sfx_at R.sfx]
    generalize hi0 : data.length - s.length + 1 = i0 at ed
    refine ⟨_, rfl, p, _, dx, _, _, rfl, h1, T.cl, T.nAt, rf_at _ _, _, _, rfl, rfl, ?_⟩
    refine ⟨fun σ' H' => H' = H ∧ ∃ pre r, s.drop 1 = pre ++ r ∧ (s.drop 1).takeWhile isDigit = pre ∧ σ' = [some (.ref p), some (.int ((i0 + pre.length : Nat) : Int)), none], ?_, ?_⟩
    · refine ⟨fun m σ H' => ∃ r pre : List Int, σ = [some (.ref p), some (.int ((i0 + pre.length : Nat) : Int)), none] ∧ m = r.length ∧ H' = H ∧ s.drop 1 = pre ++ r ∧ (s.drop 1).takeWhile isDigit = pre ++ r.takeWhile isDigit,
      ⟨_, s.drop 1, [], by rw [← hi0]; rfl, rfl, rfl, rfl, rfl⟩, ?_⟩
      rintro m σ H' ⟨r, pre, rfl, rfl, rfl, e0, et⟩
      have er : data.drop (i0 + pre.length) = r := drop_more (s := s) (by rw [ed, e0])
      have elen := congrArg List.length er
      rw [List.length_drop] at elen
      have hend : r.takeWhile isDigit = [] → H' = H' ∧ ∃ pre' r', s.drop 1 = pre' ++ r' ∧ (s.drop 1).takeWhile isDigit = pre' ∧ ([some (.ref p), some (.int ((i0 + pre.length : Nat) : Int)), none] : L2.St) = [some (.ref p), some (.int ((i0 + pre'.length : Nat) : Int)), none] := by
        intro hz
        rw [hz, List.append_nil] at et
        exact ⟨rfl, pre, r, e0, et, rfl⟩
      refine ⟨_, rfl, _, rfl, p, _, dx, _, _, rfl, h1, T.cl, T.nData, rf_data _ _, l, _, rfl, .inl (SqL.of R.lst), _, _, rfl, rfl, _, rfl, ite2 (fun z => ?_) (fun z => ?_)⟩
      · have z' : ((i0 + pre.length : Nat) : Int) < ((data.map V.int).length : Int) := of_decide_eq_true z
        rw [List.length_map] at z'
        cases r with
        | nil => simp only [List.length_nil] at elen; omega
        | cons c t =>
          have hc : (data.map V.int)[i0 + pre.length]? = some (.int c) := by rw [List.getElem?_map, ← List.head?_drop, er] <;> rfl
          refine ⟨_, rfl, p, _, dx, _, _, rfl, h1, T.cl, T.nData, rf_data _ _, _, rfl, l, _, _, _, rfl, rfl, SqL.of R.lst, atI_nat hc, c, rfl, _, rfl, ite2 (fun z2 => ?_) (fun z2 => ?_)⟩
          · have z2' : isDigit c = true := z2
            refine ⟨fun σ3 H3 => ∃ r pre : List Int, σ3 = [some (.ref p), some (.int ((i0 + pre.length : Nat) : Int)), none] ∧ r.length < (c :: t).length ∧ H3 = H' ∧ s.drop 1 = pre ++ r ∧ (s.drop 1).takeWhile isDigit = pre ++ r.takeWhile isDigit,
              fun σ3 H3 ⟨r, pre, e1, e2, e3⟩ => ⟨r.length, e2, r, pre, e1, rfl, e3⟩, ?_⟩
            refine ⟨_, rfl, _, _, rfl, rfl, t, pre ++ [c], ?_, by simp, rfl, by rw [e0]; simp, ?_⟩
            · rw [List.length_append, ← Nat.add_assoc] <;> rfl
            · rw [et, List.takeWhile_cons, if_pos z2']
              simp
          · refine hend ?_
            rw [List.takeWhile_cons, if_neg (show ¬ isDigit c = true from z2)]
      · refine hend ?_
        have z' : ¬ ((i0 + pre.length : Nat) : Int) < ((data.map V.int).length : Int) := fun y => z (decide_eq_true y)
        rw [List.length_map] at z'
        cases r with
        | nil => rfl
        | cons c t => simp only [List.length_cons] at elen; omega
    · rintro σ' H' ⟨rfl, pre, r, e0, et, rfl⟩
      refine ⟨_, rfl, p, _, dx, _, _, rfl, h1, T.cl, T.nData, rf_data _ _, _, ⟨rfl, p, _, dx, _, _, rfl, h1, T.cl, T.nAt, rf_at _ _, _, _, rfl, rfl, _, rfl, _, rfl, _, rfl, l, _, rfl, SqL.of R.lst, fun u nu => ?_⟩⟩
      have ec : cutV (data.map V.int) (some (((data.length - s.length : Nat) : Int) + 1)) (some ((i0 + pre.length : Nat) : Int)) = pre.map V.int := by
        rw [show (((data.length - s.length : Nat) : Int) + 1) = ((i0 : Nat) : Int) by omega, cut_ints, ed, e0, Nat.add_sub_cancel_left, List.take_left]
      have hu : (upd H' u (.lst (cutV (data.map V.int) (some (((data.length - s.length : Nat) : Int) + 1)) (some ((i0 + pre.length : Nat) : Int))))) u = some (.lst (pre.map V.int)) := by rw [upd_same, ec]
      have sU := same_new (o := .lst (cutV (data.map V.int) (some (((data.length - s.length : Nat) : Int) + 1)) (some ((i0 + pre.length : Nat) : Int)))) nu
      generalize upd H' u (.lst (cutV (data.map V.int) (some (((data.length - s.length : Nat) : Int) + 1)) (some ((i0 + pre.length : Nat) : Int)))) = H2 at hu sU
      have R2 := R.same sU
      refine ⟨_, rfl, p, dx, _, rfl, sU _ _ h1, rf_no _ _ (by decide +kernel) (by decide +kernel), p, l, data, s, rfl, R2, (by show 2 ≤ sizeLine; decide), fun t nt => ?_⟩
      have sT := same_new (o := .tup [V.int 35, V.int 64]) nt
      have hT : SqT K (upd H2 t (.tup [V.int 35, V.int 64])) t (([35, 64] : List Int).map V.int) := SqT.of upd_same
      have hS : SqL K (upd H2 t (.tup [V.int 35, V.int 64])) u (pre.map V.int) := SqL.of (sT _ _ hu)
      have fin := q _ (sU.trans sT)
      generalize upd H2 t (.tup [V.int 35, V.int 64]) = H3 at hT hS fin
      refine ⟨_, _, rfl, .inr hT, rfl, flat_ints _, _, rfl, ?_⟩
      have no : markE data s = -1 → tRet (tUn (rU fun i => .int (-i)) (tC (.int 1))) { nx := fun _ H' => Q .non H', rt := Q } [some (.ref p), some (.int ((i0 + pre.length : Nat) : Int)), some (.ref u)] H3 := fun e => ⟨1, rfl, by rw [e] at fin; exact fin⟩
      refine ite2 (fun z => ?_) (fun z => ?_)
      · refine iteT (no ?_)
        have z' : (!decide (s.headD (-1) ∈ [35, 64])) = true := (nin_eq _ _).symm.trans z
        cases s with
        | nil => rfl
        | cons c t =>
          unfold markE
          rw [markOf_no fun y => ?_]
          rcases y.1 with e | e <;> (subst e; exact absurd z' (by simp))
      · have z' : ¬ (!decide (s.headD (-1) ∈ [35, 64])) = true := fun y => z ((nin_eq _ _).trans y)
        obtain ⟨c, t, es, hc⟩ : ∃ c t, s = c :: t ∧ (c = 35 ∨ c = 64) := by
          cases s with
          | nil => exact absurd (by decide) z'
          | cons c t => exact ⟨c, t, rfl, Decidable.or_iff_not_imp_left.mpr (by simpa using z')⟩
        subst es
        have et' : t.takeWhile isDigit = pre := et
        have ep : ((pre.map V.int).length : Int) = (pre.length : Int) := by rw [List.length_map]
        refine ⟨_, rfl, u, _, rfl, .inl hS, _, _, rfl, rfl, _, rfl, ite2 (fun z2 => ?_) (fun z2 => ?_)⟩
        · have z2' : ((pre.map V.int).length : Int) < 1 := of_decide_eq_true z2
          refine iteT (no ?_)
          unfold markE
          rw [markOf_no fun y => ?_]
          have := y.2.1
          rw [et'] at this
          omega
        refine ⟨_, rfl, u, _, rfl, .inl hS, _, _, rfl, rfl, _, rfl, ite2 (fun z3 => ?_) (fun z3 => ?_)⟩
        · have z3' : (9 : Int) < ((pre.map V.int).length : Int) := of_decide_eq_true z3
          refine no ?_
          unfold markE
          rw [markOf_no fun y => ?_]
          have := y.2.2.1
          rw [et'] at this
          omega
        have z2' : ¬ ((pre.map V.int).length : Int) < 1 := fun y => z2 (decide_eq_true y)
        have z3' : ¬ (9 : Int) < ((pre.map V.int).length : Int) := fun y => z3 (decide_eq_true y)
        refine ⟨_, rfl, u, pre, rfl, hS, chain_le (fun z4 => ?_) fun z4 => ?_⟩
        · refine ⟨_, rfl, ?_⟩
          have e : markE data (c :: t) = ((i0 + pre.length : Nat) : Int) := by
            unfold markE
            rw [markOf_ok ⟨hc, by rw [et']; omega, by rw [et']; omega, by rw [et']; exact z4.1, by rw [et']; exact z4.2⟩]
            show ((data.length - (t.dropWhile isDigit).length : Nat) : Int) = _
            have h := tw_dw isDigit t
            rw [et'] at h
            simp only [List.length_cons] at hle hi0
            omega
          rw [e] at fin
          exact fin
        · refine ⟨1, rfl, ?_⟩
          have e : markE data (c :: t) = -1 := by
            unfold markE
            rw [markOf_no fun y => z4 ?_]
            have := y.2.2.2
            rw [et'] at this
            exact this
          rw [e] at fin
          exact fin
/-! ### is_mark -/
def spIsMark (C : Addr) : Sp := fun vs H Q _ => ∃ (p l : Addr) (data s : List Int) (g : Int), vs = [.ref p, .int g] ∧ RAt C p l data s H ∧ ∀ H', Same H H' → Q (.bl (isMark g s)) H'
theorem sc_is_mark : FnScope ["self", "sign"] ["self", "sign"] (defScope m_is_mark) := ⟨rfl, rfl, rfl, by decide +kernel, rfl, by decide +kernel, by decide +kernel⟩
theorem ok_is_mark (T : Tx K mg) : CalM P w K mg base (RC K) "is_mark" 3 ["self", "sign"] (spIsMark (RC K)) := by
  obtain ⟨fd, F⟩ := T.FM_is_mark
  refine ⟨_, fd, F.ok sc_is_mark (fun vs H Q E h => ?_) (fun cdv A outer s H vs Q E hr h => ?_), T.M_is_mark, F.binds fun _ _ _ _ _ _ us hl => match us, hl with | [_, _], _ => rfl⟩
  · obtain ⟨p, l, data, s, g, rfl, _⟩ := h
    rfl
  · obtain ⟨p, l, data, s, g, rfl, R, q⟩ := h
    obtain ⟨dx, h1⟩ := R.ob
    have hr1 : Room 1 _ := hr.mono (by decide)
    refine ⟨_, pss_one (ps_ret (pe_and (pe_cmpR op_eq (pe_mcal0 T.cl (ok_here T) hr1 (pv 0)) (pv 1) (nomark _)) (pe_one (pe_cmpR op_ge (pe_mcal0 T.cl (ok_mark_end T) hr (pv 0)) pe_int (nomark _))))), ?_⟩
    refine ⟨_, rfl, p, dx, _, rfl, h1, rf_no _ _ (by decide +kernel) (by decide +kernel), p, l, data, s, rfl, R, _, rfl, rfl, _, rfl, ite2 (fun z => ?_) (fun z => ?_)⟩
    · have z' : s.headD (-1) = g := V.int.inj (of_decide_eq_true z)
      refine ⟨_, rfl, p, dx, _, rfl, h1, rf_no _ _ (by decide +kernel) (by decide +kernel), p, l, data, s, rfl, R, fun H' sm => ⟨_, _, rfl, rfl, ?_⟩⟩
      have q' := q H' sm
      have e : isMark g s = decide ((0 : Int) ≤ markE data s) := by
        unfold isMark markE
        cases hm : markOf s with
        | none => simp
        | some nt =>
          obtain ⟨c, r, es, _⟩ := markOf_some (show markOf s = some (nt.1, nt.2) from hm)
          rw [es] at z' ⊢
          have z2 : c = g := z'
          have e1 : decide ((c :: r).head? = some g) = true := decide_eq_true (by rw [z2]; rfl)
          rw [e1]
          symm
          exact decide_eq_true (Int.natCast_nonneg _)
      rw [e] at q'
      exact q'
    · have z' : ¬ s.headD (-1) = g := fun y => z (decide_eq_true (congrArg V.int y))
      have q' := q H (Same.refl H)
      have e : isMark g s = false := by
        unfold isMark
        cases hm : markOf s with
        | none => simp
        | some nt =>
          obtain ⟨c, r, es, _⟩ := markOf_some (show markOf s = some (nt.1, nt.2) from hm)
          rw [es] at z' ⊢
          have e1 : decide ((c :: r).head? = some g) = false := decide_eq_false (fun y => z' (Option.some.inj y))
          rw [e1] <;> rfl
      rw [e] at q'
      exact q'
/-! ### take_mark -/
def spTakeMark (C : Addr) : Sp := fun vs H Q _ => ∃ (p l : Addr) (data s : List Int) (n : Int) (t : List Int), vs = [.ref p] ∧ RAt C p l data s H ∧ markOf s = some (n, t) ∧ ∀ H', RAt C p l data t H' → Fr p H H' → Q (.int n) H'
theorem sc_take_mark : FnScope ["self", "end", "number"] ["self"] (defScope m_take_mark) := ⟨rfl, rfl, rfl, by decide +kernel, rfl, by decide +kernel, by decide +kernel⟩
theorem ok_take_mark (T : Tx K mg) : CalM P w K mg base (RC K) "take_mark" 3 ["self"] (spTakeMark (RC K)) := by
  obtain ⟨fd, F⟩ := T.FM_take_mark
  refine ⟨_, fd, F.ok sc_take_mark (fun vs H Q E h => ?_) (fun cdv A outer s H vs Q E hr h => ?_), T.M_take_mark, F.binds fun _ _ _ _ _ _ us hl => match us, hl with | [_], _ => rfl⟩
  · obtain ⟨p, l, data, s, n, t, rfl, _⟩ := h
    rfl
  · obtain ⟨p, l, data, s, n, t, rfl, R, hm, q⟩ := h
    obtain ⟨dx, h1⟩ := R.ob
    have hr1 : Room 1 _ := hr.mono (by decide)
    refine ⟨_, pss_cons (ps_set (i := 1) sc_take_mark.nd rfl (.inl rfl) (pe_mcal0 T.cl (ok_mark_end T) hr (pv 0)))
      (pss_cons (ps_set (i := 2) sc_take_mark.nd rfl (.inl rfl) (pe_cal (ok_bounded_number T) hr1 (pa_cons (pe_slice sl_list (pe_fld (pv 0) rfl) (po_some (pe_op op_add (pe_fld (pv 0) rfl) pe_int)) (po_some (pv 1))) pa_nil)))
      (pss_cons (ps_fld (pv 0) (pv 1) rfl) (pss_one (ps_ret (pv 2))))), ?_⟩
    refine ⟨_, rfl, p, dx, _, rfl, h1, rf_no _ _ (by decide +kernel) (by decide +kernel), p, l, data, s, rfl, R, fun H1 s1 => ?_⟩
    have R1 := R.same s1
    have h2 := s1 _ _ h1
    obtain ⟨c, r, es, hc, en, et⟩ := markOf_some hm
    have eE : markE data s = ((data.length - t.length : Nat) : Int) := by
      unfold markE
      rw [hm]
    have hle := R.le
    have hlen := tw_dw isDigit r
    rw [← et] at hlen
    have ecut : cutV (data.map V.int) (some (((data.length - s.length : Nat) : Int) + 1)) (some (markE data s)) = (r.takeWhile isDigit).map V.int := by
      rw [eE]
      have e1 := cut_between (data := data) (s := r) (t := t) (pre := r.takeWhile isDigit) (by rw [es] at R; exact sfx_tail R.sfx) (by rw [et, List.takeWhile_append_dropWhile])
      rw [← e1]
      have : (((data.length - s.length : Nat) : Int) + 1) = ((data.length - r.length : Nat) : Int) := by
        rw [es] at hle ⊢
        simp only [List.length_cons] at hle ⊢
        omega
      rw [this]
    refine ⟨_, rfl, p, _, dx, _, _, rfl, h2, T.cl, T.nData, rf_data _ _, _, ⟨rfl, p, _, dx, _, _, rfl, h2, T.cl, T.nAt, rf_at _ _, _, _, rfl, rfl, _, rfl, _, rfl, _, rfl, l, _, rfl, SqL.of R1.lst, fun u nu => ?_⟩⟩
    have s2 := same_new (o := .lst (cutV (data.map V.int) (some (((data.length - s.length : Nat) : Int) + 1)) (some (markE data s)))) nu
    have hu : (upd H1 u (.lst (cutV (data.map V.int) (some (((data.length - s.length : Nat) : Int) + 1)) (some (markE data s))))) u = some (.lst ((r.takeWhile isDigit).map V.int)) := by rw [upd_same, ecut]
    refine ⟨u, _, rfl, SqL.of hu, ?_⟩
    have R2 := R1.same s2
    have h3 := s2 _ _ h2
    refine ⟨_, rfl, _, rfl, p, _, dx, _, rfl, h3, T.cl, T.nAt, rf_few _ _, _, rfl, ?_⟩
    rw [← en]
    refine q _ (R2.move h3 ?_ eE) ((Fr.of (s1.trans s2)).trans fr_upd)
    rw [es] at R
    rw [et]
    exact sfx_dw isDigit (sfx_tail R.sfx)
end
end K22

set_option maxHeartbeats 4000000
/-! unescape, hex_bytes, word_integer -/
namespace K22
open PySem PySem.Spec PyProof.Rows L2
theorem unesc_short {c : Int} {r : List Int} (h : r.length < 2) : unesc (c :: r) = c :: unesc r := by
  match r, h with
  | [], _ => rfl
  | [a], _ => rfl
theorem unesc_hex {a b : Int} {r : List Int} (h : 0 ≤ hexv a ∧ 0 ≤ hexv b) : unesc (126 :: a :: b :: r) = (16 * hexv a + hexv b) :: unesc r := by
  conv => lhs; unfold unesc
  rw [if_pos ⟨rfl, h.1, h.2⟩]
theorem unesc_plain {c a b : Int} {r : List Int} (h : ¬ (c = 126 ∧ 0 ≤ hexv a ∧ 0 ≤ hexv b)) : unesc (c :: a :: b :: r) = c :: unesc (a :: b :: r) := by
  conv => lhs; unfold unesc
  rw [if_neg h]
theorem line_big {n : Nat} (h : n ≤ 200000) : n < sizeLine := Nat.lt_of_le_of_lt h (by decide)
theorem map_snoc (ns : List Int) (c : Int) : ns.map V.int ++ [V.int c] = (ns ++ [c]).map V.int := by simp
theorem ix_ints {ns : List Int} {i : Nat} {c : Int} {r : List Int} (h : ns.drop i = c :: r) : atI (ns.map V.int) (i : Int) = some (.int c) := by
  refine atI_nat ?_
  rw [List.getElem?_map, ← List.head?_drop, h] <;> rfl
theorem drop_succ {α : Type} {ns : List α} {i : Nat} {c : α} {r : List α} (h : ns.drop i = c :: r) : ns.drop (i + 1) = r := by
  rw [← List.drop_drop, h] <;> rfl
theorem take_next {α β : Type} (f : α → β) {xs : List α} {j : Nat} {y : α} (h : xs[j]? = some y) : (xs.take (j + 1)).map f = (xs.take j).map f ++ [f y] := by
  rw [List.take_add_one, h]
  simp
section
variable {P : Program} {w : World} {K : PySem.W.Frag} {mg : Str → Option Value} {base : Heap}
def spUnesc (K : PySem.W.Frag) : Sp := fun vs H Q _ => ∃ (a : Addr) (ns : List Int), vs = [.ref a, .int 126] ∧ SqL K H a (ns.map V.int) ∧ ns.length ≤ 100000 ∧ ∀ t H', H t = none → Same H H' → H' t = some (.tup ((unesc ns).map V.int)) → Q (.ref t) H'
theorem sc_unescape : FnScope ["word", "mark", "data", "at", "pair", "code"] ["word", "mark"] (defScope s_unescape) := ⟨rfl, rfl, rfl, by decide +kernel, rfl, by decide +kernel, by decide +kernel⟩
theorem ok_unescape (T : Tx K mg) : Cal P w K mg base "unescape" 2 ["word", "mark"] (spUnesc K) := by
  obtain ⟨fd, F⟩ := T.F_unescape
  refine ⟨_, fd, F.ok sc_unescape (fun vs H Q E h => ?_) (fun cdv A outer s H vs Q E hr h => ?_), T.g_unescape, F.kp, F.binds fun _ _ _ _ _ _ us hl => match us, hl with | [_, _], _ => rfl⟩
  · obtain ⟨a, ns, rfl, _⟩ := h
    rfl
  · obtain ⟨a, ns, rfl, hS, hlen, q⟩ := h
    refine ⟨_, pss_cons (ps_set (i := 2) sc_unescape.nd rfl (.inl rfl) (pe_lst pa_nil))
      (pss_cons (ps_set (i := 3) sc_unescape.nd rfl (.inl rfl) pe_int)
      (pss_cons (ps_while PassesOwn.never (pt_cmpR op_lt (pv 3) (pe_callB call_len_seq (by rfl) T.fr_len PySem.boot_len (pa_cons (pv 0) pa_nil)) (nomark _))
        (C8.pss_cut (ps_setLc (i := 4) (own := [("code", 5)]) (g := gName 5) (tt := tYes) rfl sc_unescape.nd rfl rfl (sw_true rfl rfl rfl (by decide +kernel))
            (pi_list (pe_slice sl_list (pv 0) (po_some (pe_op op_add (pv 3) pe_int)) (po_some (pe_op op_add (pv 3) pe_int))))
            (blkOk_by (own := [("code", 5)]) (N := ["word", "mark", "data", "at", "pair", "code"]) (sc := defScope s_unescape) (by decide +kernel))
            (fun _ _ _ _ _ => pg_name (i := 5) sc_unescape.nd rfl (Or.inl rfl)) (fun _ _ _ _ _ => pts_nil) (fun _ _ _ _ _ => pe_cal (ok_digit_value T) hr (pa_cons (pv 5) pa_nil)))
        (pss_one (ps_if (PW.pt (pw_and (pt_cmpR op_eq (pe_ix ix_list (pv 0) (pv 3) (fun _ _ => rfl)) (pv 1) (nomark _)) (pw_and (pt_cmpR op_eq (pe_callB call_len_seq (by rfl) T.fr_len PySem.boot_len (pa_cons (pv 4) pa_nil)) pe_int (nomark _))
            (pw_and1 (pt_cmpR op_ge (pe_callB (cr_min rfl) (by rfl) T.fr_min (by decide +kernel) (pa_cons (pv 4) pa_nil)) pe_int (nomark _))))))
          (pss_cons (ps_expr (pe_bm PySem.F.plainAttrs_list PySem.F.slot_list_append PySem.F.type_list_append mt_append (pv 2) (pa_cons (pe_op op_add (pe_op op_mul pe_int (pe_ix ix_list (pv 4) pe_int (fun _ _ => rfl))) (pe_ix ix_list (pv 4) pe_int (fun _ _ => rfl))) pa_nil)))
            (pss_one (ps_set (i := 3) sc_unescape.nd rfl (.inl rfl) (pe_op op_add (pv 3) pe_int))))
          (pss_cons (ps_expr (pe_bm PySem.F.plainAttrs_list PySem.F.slot_list_append PySem.F.type_list_append mt_append (pv 2) (pa_cons (pe_ix ix_list (pv 0) (pv 3) (fun _ _ => rfl)) pa_nil)))
            (pss_one (ps_set (i := 3) sc_unescape.nd rfl (.inl rfl) (pe_op op_add (pv 3) pe_int))))))))
      (pss_one (ps_ret (pe_callTy call_tuple_of (by rfl) T.fr_tuple (by decide +kernel) (pa_cons (pv 2) pa_nil)))))), ?_⟩
    refine ⟨Nat.zero_le _, fun d nd => ?_⟩
    refine ⟨fun m σ H' => ∃ (i : Nat) (out : List Int) (x4 x5 : Option V), σ = [some (.ref a), some (.int 126), some (.ref d), some (.int i), x4, x5] ∧ m = ns.length - i ∧ i ≤ ns.length + 2 ∧ Same H H' ∧ H' d = some (.lst (out.map V.int)) ∧ unesc ns = out ++ unesc (ns.drop i) ∧ out.length ≤ i,
      ⟨_, 0, [], none, none, rfl, rfl, Nat.zero_le _, same_new nd, upd_same, rfl, Nat.le_refl _⟩, ?_⟩
    rintro m σ H' ⟨i, out, x4, x5, rfl, rfl, hi, sm, hd, eu, ho⟩
    have hA : SqL K H' a (ns.map V.int) := sm.seq hS
    refine ⟨_, rfl, _, rfl, a, _, rfl, .inl hA, _, _, rfl, rfl, _, rfl, ite2 (fun z => ?_) (fun z => ?_)⟩
    · have z' : (i : Int) < ((ns.map V.int).length : Int) := of_decide_eq_true z
      rw [List.length_map] at z'
      obtain ⟨c, r, ec⟩ : ∃ c r, ns.drop i = c :: r := by
        cases e : ns.drop i with
        | nil =>
          have := congrArg List.length e
          rw [List.length_drop, List.length_nil] at this
          omega
        | cons c r => exact ⟨c, r, rfl⟩
      have er := drop_succ ec
      refine ⟨fun σ3 H3 => ∃ (j : Nat) (out : List Int) (x4 x5 : Option V), σ3 = [some (.ref a), some (.int 126), some (.ref d), some (.int j), x4, x5] ∧ i < j ∧ j ≤ i + 3 ∧ Same H H3 ∧ H3 d = some (.lst (out.map V.int)) ∧ unesc ns = out ++ unesc (ns.drop j) ∧ out.length ≤ j,
        fun σ3 H3 ⟨j, out, y4, y5, e1, e2, e3, e4, e5, e6, e7⟩ => ⟨ns.length - j, by omega, j, out, y4, y5, e1, rfl, by omega, e4, e5, e6, e7⟩, ?_⟩
      refine ⟨fun σ3 H3 => ∃ b, σ3 = [some (.ref a), some (.int 126), some (.ref d), some (.int i), some (.ref b), x5] ∧ Same H H3 ∧ H3 d = some (.lst (out.map V.int)) ∧ H3 b = some (.lst (((r.take 2).map hexv).map V.int)), ?_, ?_⟩
      · -- pair = [..]
        have hir : (i : Int) + 1 = ((i + 1 : Nat) : Int) := by omega
        have hi3 : (i : Int) + 3 = ((i + 3 : Nat) : Int) := by omega
        refine ⟨_, rfl, _, rfl, _, _, rfl, rfl, _, rfl, _, rfl, _, _, rfl, rfl, _, rfl, a, _, rfl, hA, fun u nu => ?_⟩
        have ecut : cutV (ns.map V.int) (some ((i : Int) + 1)) (some ((i : Int) + 3)) = (r.take 2).map V.int := by
          rw [hir, hi3, cut_ints, er, show i + 3 - (i + 1) = 2 by omega]
        have hu : (upd H' u (.lst (cutV (ns.map V.int) (some ((i : Int) + 1)) (some ((i : Int) + 3))))) u = some (.lst ((r.take 2).map V.int)) := by rw [upd_same, ecut]
        have sU := same_new (o := .lst (cutV (ns.map V.int) (some ((i : Int) + 1)) (some ((i : Int) + 3)))) nu
        generalize upd H' u (.lst (cutV (ns.map V.int) (some ((i : Int) + 1)) (some ((i : Int) + 3)))) = H2 at hu sU
        refine ⟨u, rfl, ⟨_, SqL.of hu⟩, fun D nD => ?_⟩
        refine lc_list (K := K) (a := u) (xs := (r.take 2).map V.int) (fun j H3 => Same H2 H3 ∧ H3 D = some (.lst ((((r.take 2).take j).map hexv).map V.int))) ⟨same_new nD, upd_same⟩ (fun j H3 _ ⟨s3, _⟩ => SqL.of (s3 _ _ hu)) ?_ ?_
        · rintro j x H3 hx ⟨s3, e3⟩
          rw [List.getElem?_map] at hx
          obtain ⟨y, hy, rfl⟩ := Option.map_eq_some_iff.mp hx
          refine ⟨rfl, _, rfl, y, rfl, _, e3, ?_, ?_, ?_⟩
          · rw [List.length_map, List.length_map, List.length_take, List.length_take]
            exact line_big (by omega)
          · intro b o e
            rw [upd_ne (ne_of_none e nD)]
            exact s3 b o e
          · rw [upd_same, map_snoc, take_next hexv hy]
        · rintro H3 ⟨s3, e3⟩
          rw [List.length_map, List.take_length] at e3
          exact ⟨D, rfl, sm.trans (sU.trans s3), s3 _ _ (sU _ _ hd), e3⟩
      · -- the test, the two ways
        rintro σ3 H3 ⟨b, rfl, s3, hd3, hb3⟩
        have hA3 : SqL K H3 a (ns.map V.int) := s3.seq hS
        have hB3 : SqL K H3 b (((r.take 2).map hexv).map V.int) := SqL.of hb3
        have plain : unesc (c :: r) = c :: unesc r → tSeq (tDrop (tBM K "list" rAppend (tVar 2) (tCons (tOp (rIxL K) (tVar 0) (tVar 3)) tNil))) (tAsg (tOp (rI0 fun i j => .int (i + j)) (tVar 3) (tC (.int 1))) (gName 3))
            { nx := fun σ3 H3 => ∃ (j : Nat) (out : List Int) (x4 x5 : Option V), σ3 = [some (.ref a), some (.int 126), some (.ref d), some (.int j), x4, x5] ∧ i < j ∧ j ≤ i + 3 ∧ Same H H3 ∧ H3 d = some (.lst (out.map V.int)) ∧ unesc ns = out ++ unesc (ns.drop j) ∧ out.length ≤ j, rt := Q }
            [some (.ref a), some (.int 126), some (.ref d), some (.int i), some (.ref b), x5] H3 := by
          intro e
          refine ⟨_, rfl, .inl ⟨rfl, _, SqL.of hd3⟩, _, rfl, _, rfl, a, _, _, _, rfl, rfl, hA3, ix_ints ec, d, _, _, rfl, rfl, hd3, by rw [List.length_map]; exact line_big (by omega), ?_⟩
          refine ⟨_, rfl, _, _, rfl, rfl, i + 1, out ++ [c], _, _, rfl, by omega, by omega, fun b o h => ?_, by rw [upd_same, map_snoc], ?_, by simp; omega⟩
          · rw [upd_ne (ne_of_none h nd)]
            exact s3 b o h
          · rw [eu, ec, er, e]
            simp
        refine ⟨_, rfl, _, rfl, a, _, _, _, rfl, rfl, hA3, ix_ints ec, _, rfl, rfl, _, rfl, ite2 (fun z1 => ?_) (fun z1 => ?_)⟩
        · have z1' : c = 126 := V.int.inj (of_decide_eq_true z1)
          refine ⟨_, rfl, b, _, rfl, .inl hB3, rfl, _, rfl, ite2 (fun z2 => ?_) (fun z2 => ?_)⟩
          · have z2' : ((((r.take 2).map hexv).map V.int).length : Int) = 2 := V.int.inj (of_decide_eq_true z2)
            obtain ⟨x, y, t, er2⟩ : ∃ x y t, r = x :: y :: t := by
              match r, z2' with
              | x :: y :: t, _ => exact ⟨x, y, t, rfl⟩
            subst er2
            refine ⟨_, rfl, b, [hexv x, hexv y], rfl, hB3, by simp, fun m hm hmin => ⟨_, _, rfl, rfl, _, rfl, ?_⟩⟩
            have hx := hmin (hexv x) (by simp)
            have hy := hmin (hexv y) (by simp)
            refine ite2 (fun z3 => ?_) (fun z3 => ?_)
            · have z3' : 0 ≤ m := of_decide_eq_true z3
              refine ⟨_, rfl, .inl ⟨rfl, _, SqL.of hd3⟩, _, rfl, b, _, _, _, rfl, rfl, hB3, atI_nat (j := 0) rfl, 16, hexv x, rfl, rfl, .inl ⟨by decide, by decide⟩, _, rfl, b, _, _, _, rfl, rfl, hB3, atI_nat (j := 1) rfl, _, hexv y, rfl, rfl, d, _, _, rfl, rfl, hd3, by rw [List.length_map]; exact line_big (by omega), ?_⟩
              refine ⟨_, rfl, _, _, rfl, rfl, i + 3, out ++ [16 * hexv x + hexv y], _, _, rfl, by omega, by omega, fun b o h => ?_, by rw [upd_same, map_snoc], ?_, by simp; omega⟩
              · rw [upd_ne (ne_of_none h nd)]
                exact s3 b o h
              · have e3 : ns.drop (i + 3) = t := by rw [← List.drop_drop, ec] <;> rfl
                rw [eu, ec, e3, z1', unesc_hex ⟨by omega, by omega⟩]
                simp
            · have z3' : ¬ 0 ≤ m := fun q => z3 (decide_eq_true q)
              refine plain (unesc_plain fun h => z3' ?_)
              have := hm
              simp only [List.mem_cons, List.not_mem_nil, or_false] at this
              rcases this with e | e <;> omega
          · have z2' : ¬ ((((r.take 2).map hexv).map V.int).length : Int) = 2 := fun q => z2 (decide_eq_true (congrArg V.int q))
            refine iteF (plain (unesc_short ?_))
            rw [List.length_map, List.length_map, List.length_take] at z2'
            omega
        · have z1' : ¬ c = 126 := fun q => z1 (decide_eq_true (congrArg V.int q))
          refine iteF (plain ?_)
          match r with
          | [] => rfl
          | [x] => rfl
          | x :: y :: t => exact unesc_plain fun h => z1' h.1
    · have z' : ¬ (i : Int) < ((ns.map V.int).length : Int) := fun q => z (decide_eq_true q)
      rw [List.length_map] at z'
      have e : ns.drop i = [] := List.drop_eq_nil_of_le (by omega)
      rw [e] at eu
      have eu' : unesc ns = out := by rw [eu]; simp [unesc]
      refine ⟨_, rfl, d, _, rfl, .inl ⟨SqL.of hd, fun t nt => ?_⟩⟩
      refine q t _ (sm.free nt) (sm.trans (same_new nt)) ?_
      rw [upd_same, eu']
end
end K22

set_option maxHeartbeats 4000000
/-! hex_bytes, word_integer -/
namespace K22
open PySem PySem.Spec PyProof.Rows L2
theorem cut_from1 (xs : List V) : cutV xs (some 1) none = xs.drop 1 := by
  unfold cutV
  rw [show HT.sIx xs.length 0 (some 1) = min 1 xs.length from HT.sIx_nat xs.length 0 1, HT.sIx_none]
  by_cases h : 1 ≤ xs.length
  · rw [Nat.min_eq_left h, List.take_of_length_le (by rw [List.length_drop]; exact Nat.le_refl _)]
  · have e : xs = [] := List.length_eq_zero_iff.mp (by omega)
    subst e
    rfl
theorem cut_to1 (xs : List V) : cutV xs none (some 1) = xs.take 1 := by
  unfold cutV
  rw [show HT.sIx xs.length xs.length (some 1) = min 1 xs.length from HT.sIx_nat xs.length xs.length 1, HT.sIx_none, List.drop_zero]
  by_cases h : 1 ≤ xs.length
  · rw [Nat.min_eq_left h] <;> rfl
  · have e : xs = [] := List.length_eq_zero_iff.mp (by omega)
    subst e
    rfl
theorem size2 (n : Nat) : Builtin.Range.rangeSize 0 ((n : Int) - 1) 2 = ((n / 2 : Nat) : Int) := by
  unfold Builtin.Range.rangeSize
  rw [if_pos (by decide)]
  split <;> omega
theorem rg2 {n : Nat} (h : n ≤ 100000) : RgC 0 ((n : Int) - 1) 2 (n / 2) := by
  refine ⟨by decide, by decide, ?_, size2 n⟩
  unfold Builtin.Range.small
  rw [size2]
  simp only [Builtin.Range.rangeFitsLong, Bool.and_eq_true, Bool.or_eq_true, decide_eq_true_eq, beq_iff_eq, show ((2 : Int) > 0) by decide, if_true]
  omega
theorem pairUp_next : ∀ (vs : List Int) (i : Nat) (x y : Int), vs[2 * i]? = some x → vs[2 * i + 1]? = some y → pairUp (vs.take (2 * (i + 1))) = pairUp (vs.take (2 * i)) ++ [16 * x + y]
  | [], i, x, y, h, _ => by simp at h
  | [a], 0, x, y, _, h => by simp at h
  | [a], i + 1, x, y, h, _ => by rw [List.getElem?_eq_none (by simp; omega)] at h; cases h
  | a :: b :: r, 0, x, y, h1, h2 => by
    have e1 : a = x := by simpa using h1
    have e2 : b = y := by simpa using h2
    subst e1 e2
    rfl
  | a :: b :: r, i + 1, x, y, h1, h2 => by
    have e1 : 2 * (i + 1) = 2 * i + 1 + 1 := by omega
    rw [e1] at h1 h2
    have ih := pairUp_next r i x y (by simpa using h1) (by simpa using h2)
    show pairUp (a :: b :: r.take (2 * (i + 1))) = pairUp (a :: b :: r.take (2 * i)) ++ _
    rw [show pairUp (a :: b :: r.take (2 * (i + 1))) = (16 * a + b) :: pairUp (r.take (2 * (i + 1))) from rfl, ih] <;> rfl
theorem pairUp_all (vs : List Int) : pairUp (vs.take (2 * (vs.length / 2))) = pairUp vs := by
  match vs with
  | [] => rfl
  | [a] => simp [pairUp]
  | a :: b :: r =>
    have ih := pairUp_all r
    have e : (a :: b :: r).length / 2 = r.length / 2 + 1 := by simp only [List.length_cons]; omega
    rw [e]
    show pairUp (a :: b :: r.take (2 * (r.length / 2))) = _
    rw [show pairUp (a :: b :: r.take (2 * (r.length / 2))) = (16 * a + b) :: pairUp (r.take (2 * (r.length / 2))) from rfl, ih] <;> rfl
theorem pairUp_len : ∀ vs : List Int, (pairUp vs).length ≤ vs.length
  | [] => by simp [pairUp]
  | [_] => by simp [pairUp]
  | a :: b :: r => by
    have := pairUp_len r
    show (pairUp r).length + 1 ≤ r.length + 1 + 1
    omega
section
variable {P : Program} {w : World} {K : PySem.W.Frag} {mg : Str → Option Value} {base : Heap}
def spHexB (K : PySem.W.Frag) : Sp := fun vs H Q _ => ∃ (a : Addr) (ns : List Int), vs = [.ref a] ∧ SqL K H a (ns.map V.int) ∧ ns.length ≤ 100000 ∧ ∀ t H', H t = none → Same H H' → H' t = some (.lst ((hexBytes ns).map V.int)) → Q (.ref t) H'
theorem sc_hex_bytes : FnScope ["data", "values", "code", "at"] ["data"] (defScope s_hex_bytes) := ⟨rfl, rfl, rfl, by decide +kernel, rfl, by decide +kernel, by decide +kernel⟩
theorem ok_hex_bytes (T : Tx K mg) : Cal P w K mg base "hex_bytes" 2 ["data"] (spHexB K) := by
  obtain ⟨fd, F⟩ := T.F_hex_bytes
  refine ⟨_, fd, F.ok sc_hex_bytes (fun vs H Q E h => ?_) (fun cdv A outer s H vs Q E hr h => ?_), T.g_hex_bytes, F.kp, F.binds fun _ _ _ _ _ _ us hl => match us, hl with | [_], _ => rfl⟩
  · obtain ⟨a, ns, rfl, _⟩ := h
    rfl
  · obtain ⟨a, ns, rfl, hS, hlen, q⟩ := h
    refine ⟨_, C8.pss_cut (ps_set (i := 1) sc_hex_bytes.nd rfl (.inr rfl) (pe_lc (own := [("code", 2)]) (g := gName 2) rfl sc_hex_bytes.nd (pi_list (pv 0))
          (blkOk_by (own := [("code", 2)]) (N := ["data", "values", "code", "at"]) (sc := defScope s_hex_bytes) (by decide +kernel))
          (fun _ _ _ _ _ => pg_name (i := 2) sc_hex_bytes.nd rfl (Or.inl rfl)) (fun _ _ _ _ _ => pts_one (pt_cmpR op_ge (pe_cal (ok_digit_value T) hr (pa_cons (pv 2) pa_nil)) pe_int (nomark _))) (fun _ _ _ _ _ => pe_cal (ok_digit_value T) hr (pa_cons (pv 2) pa_nil))))
      (pss_one (ps_ret (pe_lc (own := [("at", 3)]) (g := gName 3) (tt := tYes) rfl sc_hex_bytes.nd (pi_range3 rfl T.fr_range (pa_cons pe_int (pa_cons (pe_op op_sub (pe_callB call_len_seq (by rfl) T.fr_len PySem.boot_len (pa_cons (pv 1) pa_nil)) pe_int) (pa_cons pe_int pa_nil))))
          (blkOk_by (own := [("at", 3)]) (N := ["data", "values", "code", "at"]) (sc := defScope s_hex_bytes) (by decide +kernel))
          (fun _ _ _ _ _ => pg_name (i := 3) sc_hex_bytes.nd rfl (Or.inl rfl)) (fun _ _ _ _ _ => pts_nil) (fun _ _ _ _ _ => pe_op op_add (pe_op op_mul pe_int (pe_ix (r := rIxL K) ix_list (pv 1) (pv 3) (fun _ _ => rfl))) (pe_ix (r := rIxL K) ix_list (pv 1) (pe_op op_add (pv 3) pe_int) (fun _ _ => rfl)))))), ?_⟩
    refine ⟨fun σ' H' => ∃ b, σ' = [some (.ref a), some (.ref b), none, none] ∧ Same H H' ∧ H' b = some (.lst (((ns.map hexv).filter fun x => decide (0 ≤ x)).map V.int)), ?_, ?_⟩
    · refine ⟨_, rfl, a, rfl, ⟨_, hS⟩, fun D nD => ?_⟩
      refine lc_list (K := K) (a := a) (xs := ns.map V.int) (fun j H3 => Same H H3 ∧ H3 D = some (.lst ((((ns.take j).map hexv).filter fun x => decide (0 ≤ x)).map V.int))) ⟨same_new nD, upd_same⟩ (fun j H3 _ ⟨s3, _⟩ => s3.seq hS) ?_ ?_
      · rintro j x H3 hx ⟨s3, e3⟩
        rw [List.getElem?_map] at hx
        obtain ⟨y, hy, rfl⟩ := Option.map_eq_some_iff.mp hx
        refine ⟨rfl, _, rfl, y, rfl, _, _, rfl, rfl, _, rfl, ite2 (fun z => ?_) (fun z => ?_)⟩
        · have z' : 0 ≤ hexv y := of_decide_eq_true z
          refine ⟨_, rfl, y, rfl, _, e3, ?_, ?_, ?_⟩
          · rw [List.length_map]
            refine line_big (Nat.le_trans (List.length_filter_le _ _) ?_)
            rw [List.length_map, List.length_take]
            omega
          · intro b o e
            rw [upd_ne (ne_of_none e nD)]
            exact s3 b o e
          · rw [upd_same, map_snoc, take_next hexv hy, List.filter_append]
            simp [z']
        · have z' : ¬ 0 ≤ hexv y := fun q => z (decide_eq_true q)
          refine ⟨s3, ?_⟩
          rw [e3, take_next hexv hy, List.filter_append]
          simp [z']
      · rintro H3 ⟨s3, e3⟩
        rw [List.length_map, List.take_length] at e3
        exact ⟨D, rfl, s3, e3⟩
    · rintro σ' H' ⟨b, rfl, sm, hb⟩
      have hB : SqL K H' b (((ns.map hexv).filter fun x => decide (0 ≤ x)).map V.int) := SqL.of hb
      have hvl : ((ns.map hexv).filter fun x => decide (0 ≤ x)).length ≤ 100000 := Nat.le_trans (List.length_filter_le _ _) (by rw [List.length_map]; exact hlen)
      have hE : hexBytes ns = pairUp ((ns.map hexv).filter fun x => decide (0 ≤ x)) := rfl
      generalize ((ns.map hexv).filter fun x => decide (0 ≤ x)) = vs at hb hB hvl hE
      rw [hE] at q
      refine ⟨_, rfl, b, _, rfl, .inl hB, _, _, rfl, rfl, 0, (vs.length : Int) - 1, 2, vs.length / 2, by rw [List.length_map], rg2 hvl, fun D nD => ?_⟩
      refine lc_it walk_rangeC (fun j H3 => Same H' H3 ∧ H3 D = some (.lst ((pairUp (vs.take (2 * j))).map V.int))) ⟨same_new nD, upd_same⟩ (fun _ _ _ _ => trivial) ?_ ?_
      · rintro j x H3 H4 hj ⟨s3, e3⟩ ⟨rfl, rfl⟩
        have h1 : 2 * j < vs.length := by omega
        have h2 : 2 * j + 1 < vs.length := by omega
        have x1 : vs[2 * j]? = some vs[2 * j] := List.getElem?_eq_getElem h1
        have x2 : vs[2 * j + 1]? = some vs[2 * j + 1] := List.getElem?_eq_getElem h2
        have hB3 := s3.seq hB
        have i1 : atI (vs.map V.int) (0 + (j : Nat) * 2) = some (.int vs[2 * j]) := at_of (j := 2 * j) (by omega) (by rw [List.getElem?_map, x1] <;> rfl)
        have i2 : atI (vs.map V.int) (0 + (j : Nat) * 2 + 1) = some (.int vs[2 * j + 1]) := at_of (j := 2 * j + 1) (by omega) (by rw [List.getElem?_map, x2] <;> rfl)
        refine ⟨rfl, _, rfl, _, rfl, b, _, _, _, rfl, rfl, hB3, i1, 16, vs[2 * j], rfl, rfl, .inl ⟨by decide, by decide⟩, _, rfl, _, rfl, _, _, rfl, rfl, b, _, _, _, rfl, rfl, hB3, i2, _, vs[2 * j + 1], rfl, rfl, _, e3, ?_, ?_, ?_⟩
        · rw [List.length_map]
          refine line_big (Nat.le_trans (pairUp_len _) ?_)
          rw [List.length_take]
          omega
        · intro b' o e
          rw [upd_ne (ne_of_none e nD)]
          exact s3 b' o e
        · rw [upd_same, map_snoc, pairUp_next vs j _ _ x1 x2]
      · rintro H3 ⟨s3, e3⟩
        rw [pairUp_all] at e3
        exact q D H3 (sm.free nD) (sm.trans s3) e3
end
end K22

set_option maxHeartbeats 4000000
/-! How a value lies on the heap. -/
namespace K22
open PySem PySem.Spec PyProof.Rows L2
mutual
/-- the value v is what the model has at the place u -/
inductive Rep (H : Hp) : V → Val → Prop
  | none {a : Addr} : H a = some (.tup [.str "none"]) → Rep H (.ref a) .none
  | bool {a : Addr} {b : Bool} : H a = some (.tup [.str "bool", .int (if b then 1 else 0)]) → Rep H (.ref a) (.bool b)
  | int {a : Addr} {n : Int} : H a = some (.tup [.str "int", .int n]) → Rep H (.ref a) (.int n)
  | name {a t : Addr} {d : List Int} : H a = some (.tup [.str "name", .ref t]) → H t = some (.tup (d.map V.int)) → Rep H (.ref a) (.name d)
  | text {a t : Addr} {d : List Int} : H a = some (.tup [.str "text", .ref t]) → H t = some (.tup (d.map V.int)) → Rep H (.ref a) (.text d)
  | ref {a : Addr} {n : Int} : H a = some (.tup [.str "ref", .int n]) → Rep H (.ref a) (.ref n)
  | list {a t : Addr} {us : List V} {vs : List Val} : H a = some (.tup [.str "list", .ref t]) → H t = some (.tup us) → RepL H us vs → Rep H (.ref a) (.list vs)
  | dict {a t : Addr} {us : List V} {ps : List (List Int × Val)} : H a = some (.tup [.str "dict", .ref t]) → H t = some (.tup us) → RepP H us ps → Rep H (.ref a) (.dict ps)
  | stream {a t e : Addr} {us : List V} {ps : List (List Int × Val)} {d : List Int} : H a = some (.tup [.str "stream", .ref t, .ref e]) → H t = some (.tup us) → RepP H us ps → H e = some (.tup (d.map V.int)) → Rep H (.ref a) (.stream ps d)
inductive RepL (H : Hp) : List V → List Val → Prop
  | nil : RepL H [] []
  | cons {u : V} {us : List V} {v : Val} {vs : List Val} : Rep H u v → RepL H us vs → RepL H (u :: us) (v :: vs)
inductive RepP (H : Hp) : List V → List (List Int × Val) → Prop
  | nil : RepP H [] []
  | cons {q kq : Addr} {u : V} {us : List V} {k : List Int} {v : Val} {ps : List (List Int × Val)} : H q = some (.tup [.ref kq, u]) → H kq = some (.tup (k.map V.int)) → Rep H u v → RepP H us ps → RepP H (.ref q :: us) ((k, v) :: ps)
end
/-- the tuples are as they were -/
def TK (H H' : Hp) : Prop := ∀ a xs, H a = some (.tup xs) → H' a = some (.tup xs)
theorem TK.of {H H' : Hp} (s : Same H H') : TK H H' := fun _ _ h => s _ _ h
theorem TK.fr {p : Addr} {H H' : Hp} (s : Fr p H H') (h : ∀ xs, H p ≠ some (.tup xs)) : TK H H' := fun a xs e => s _ _ e fun z => h xs (by rw [← z]; exact e)
mutual
theorem Rep.keep {H H' : Hp} (k : TK H H') : ∀ {u : V} {v : Val}, Rep H u v → Rep H' u v
  | _, _, .none h => .none (k _ _ h)
  | _, _, .bool h => .bool (k _ _ h)
  | _, _, .int h => .int (k _ _ h)
  | _, _, .name h1 h2 => .name (k _ _ h1) (k _ _ h2)
  | _, _, .text h1 h2 => .text (k _ _ h1) (k _ _ h2)
  | _, _, .ref h => .ref (k _ _ h)
  | _, _, .list h1 h2 r => .list (k _ _ h1) (k _ _ h2) (RepL.keep k r)
  | _, _, .dict h1 h2 r => .dict (k _ _ h1) (k _ _ h2) (RepP.keep k r)
  | _, _, .stream h1 h2 r h3 => .stream (k _ _ h1) (k _ _ h2) (RepP.keep k r) (k _ _ h3)
theorem RepL.keep {H H' : Hp} (k : TK H H') : ∀ {us : List V} {vs : List Val}, RepL H us vs → RepL H' us vs
  | _, _, .nil => .nil
  | _, _, .cons r t => .cons (Rep.keep k r) (RepL.keep k t)
theorem RepP.keep {H H' : Hp} (k : TK H H') : ∀ {us : List V} {ps : List (List Int × Val)}, RepP H us ps → RepP H' us ps
  | _, _, .nil => .nil
  | _, _, .cons h1 h2 r t => .cons (k _ _ h1) (k _ _ h2) (Rep.keep k r) (RepP.keep k t)
end
theorem RepL.snoc {H : Hp} {u : V} {v : Val} : ∀ {us : List V} {vs : List Val}, RepL H us vs → Rep H u v → RepL H (us ++ [u]) (vs ++ [v])
  | _, _, .nil, r => .cons r .nil
  | _, _, .cons a t, r => .cons a (RepL.snoc t r)
theorem RepL.len {H : Hp} : ∀ {us : List V} {vs : List Val}, RepL H us vs → us.length = vs.length
  | _, _, .nil => rfl
  | _, _, .cons _ t => by rw [List.length_cons, List.length_cons, RepL.len t]
theorem RepP.len {H : Hp} : ∀ {us : List V} {ps : List (List Int × Val)}, RepP H us ps → us.length = ps.length
  | _, _, .nil => rfl
  | _, _, .cons _ _ _ t => by rw [List.length_cons, List.length_cons, RepP.len t]
theorem RepL.get {H : Hp} : ∀ {us : List V} {vs : List Val}, RepL H us vs → ∀ {i : Nat} {u : V}, us[i]? = some u → ∃ v, vs[i]? = some v ∧ Rep H u v
  | _, _, .nil, i, u, h => by simp at h
  | _, _, .cons r t, 0, u, h => by
    have e := Option.some.inj h
    subst e
    exact ⟨_, rfl, r⟩
  | _, _, .cons r t, i + 1, u, h => RepL.get t h
theorem RepP.get {H : Hp} : ∀ {us : List V} {ps : List (List Int × Val)}, RepP H us ps → ∀ {i : Nat} {u : V}, us[i]? = some u → ∃ (q kq : Addr) (y : V) (k : List Int) (v : Val), u = .ref q ∧ ps[i]? = some (k, v) ∧ H q = some (.tup [.ref kq, y]) ∧ H kq = some (.tup (k.map V.int)) ∧ Rep H y v
  | _, _, .nil, i, u, h => by simp at h
  | _, _, .cons h1 h2 r t, 0, u, h => by
    have e := Option.some.inj h
    subst e
    exact ⟨_, _, _, _, _, rfl, rfl, h1, h2, r⟩
  | _, _, .cons _ _ r t, i + 1, u, h => RepP.get t h
/-- None, or a value -/
def RepO (H : Hp) (u : V) (o : Option Val) : Prop := match o with
  | .none => u = .non
  | .some v => Rep H u v
theorem Rep.isRef {H : Hp} {u : V} {v : Val} (r : Rep H u v) : ∃ a, u = .ref a := by
  cases r <;> exact ⟨_, rfl⟩
theorem RepO.keep {H H' : Hp} (k : TK H H') {u : V} {o : Option Val} (r : RepO H u o) : RepO H' u o := by
  cases o with
  | none => exact r
  | some v => exact Rep.keep k r
/-! ### x in (a, b, ..): data of any depth -/
section
variable {X : Cx}
theorem op_inDT (hu : X.A.units + 65 < cLine) : OpR X (compareOp .In) (fun x y H Q => ∃ d ds, Dp X.K H x d ∧ Dp X.K H y (.tuple ds) ∧ SeqAt.shaped d = true ∧ SeqAt.shaped (.tuple ds) = true ∧ Q (.bl (ds.any fun z => PyData.eqv z d)) H) := by
  intro pins s σ H x y v u Q I rx ry h
  obtain ⟨d, ds, hd, he, sd, se, q⟩ := h
  obtain ⟨as, r1⟩ := Dp.reads I d x v hd rx
  obtain ⟨bs, r2⟩ := Dp.reads I (.tuple ds) y u he ry
  exact SeqAt.in_tuple_reads r2 r1 (SeqAt.canLay_of_shaped se) (SeqAt.canLay_of_shaped sd) (room_in_shaped sd hu) ⟨.bl _, H, I, rfl, q⟩
end
theorem shaped_tup (ns : List Int) : SeqAt.shaped (.tuple (ns.map PyData.int)) = true := by
  have h := depth_ints ns
  show (PyData.canLay0 (.tuple (ns.map PyData.int)) && decide (PyData.depth (.tuple (ns.map PyData.int)) ≤ 64)) = true
  rw [Bool.and_eq_true]
  refine ⟨by simp only [PyData.canLay0]; exact lay_ints ns, decide_eq_true ?_⟩
  simp only [PyData.depth]
  omega
theorem eqv_tup_ints (ns ms : List Int) : PyData.eqv (.tuple (ns.map PyData.int)) (.tuple (ms.map PyData.int)) = decide (ns = ms) := by
  simp only [PyData.eqv]
  exact eqv_all_ints ns ms
end K22

set_option maxHeartbeats 4000000
/-! word_integer, word_value -/
namespace K22
open PySem PySem.Spec PyProof.Rows L2
def vOpt (o : Option Int) : V := match o with
  | none => .non
  | some n => .int n
theorem bls_all (f : Int → Bool) : ∀ ns : List Int, (ns.map f).all id = ns.all f
  | [] => rfl
  | n :: ns => by
    show (f n && (ns.map f).all id) = (f n && ns.all f)
    rw [bls_all f ns]
theorem drop1_of {α : Type} (l : List α) : l.drop 1 = l.tail := by cases l <;> rfl
section
variable {P : Program} {w : World} {K : PySem.W.Frag} {mg : Str → Option Value} {base : Heap}
def spWordInt (K : PySem.W.Frag) : Sp := fun vs H Q _ => ∃ (a : Addr) (ws : List Int), vs = [.ref a] ∧ SqL K H a (ws.map V.int) ∧ ws.length ≤ 100000 ∧ ∀ H', Same H H' → Q (vOpt (wordInt ws)) H'
theorem sc_word_integer : FnScope ["word", "digits", "number", "code"] ["word"] (defScope s_word_integer) := ⟨rfl, rfl, rfl, by decide +kernel, rfl, by decide +kernel, by decide +kernel⟩
theorem ok_word_integer (T : Tx K mg) : Cal P w K mg base "word_integer" 2 ["word"] (spWordInt K) := by
  obtain ⟨fd, F⟩ := T.F_word_integer
  refine ⟨_, fd, F.ok sc_word_integer (fun vs H Q E h => ?_) (fun cdv A outer s H vs Q E hr h => ?_), T.g_word_integer, F.kp, F.binds fun _ _ _ _ _ _ us hl => match us, hl with | [_], _ => rfl⟩
  · obtain ⟨a, ns, rfl, _⟩ := h
    rfl
  · obtain ⟨a, ws, rfl, hS, hlen, q⟩ := h
    refine ⟨_, C8.pss_cut (ps_set (i := 1) sc_word_integer.nd rfl (.inl rfl) (pe_ifExp (pt_cmpR (op_eqD hr.units) (pe_slice sl_list (pv 0) po_none (po_some pe_int)) (pe_lst (pa_cons (pe_gi T.i_MINUS) pa_nil)) (nomark _)) (pe_slice sl_list (pv 0) (po_some pe_int) po_none) (pv 0)))
      (pss_cons (ps_if (PW.pt (pw_or (pt_cmpR op_eq (pe_callB call_len_seq (by rfl) T.fr_len PySem.boot_len (pa_cons (pv 1) pa_nil)) pe_int (nomark _))
          (pw_or1 (pt_not (pt_val (pe_callB (cr_all rfl) (by rfl) T.fr_all (by decide +kernel) (pa_cons (pe_lc (own := [("code", 3)]) (g := gName 3) (tt := tYes) rfl sc_word_integer.nd (pi_list (pv 1))
            (blkOk_by (own := [("code", 3)]) (N := ["word", "digits", "number", "code"]) (sc := defScope s_word_integer) (by decide +kernel))
            (fun _ _ _ _ _ => pg_name (i := 3) sc_word_integer.nd rfl (Or.inl rfl)) (fun _ _ _ _ _ => pts_nil) (fun _ _ _ _ _ => pe_cal (ok_is_digit T) hr (pa_cons (pv 3) pa_nil))) pa_nil)))))))
        (pss_one (ps_ret pe_non)) pss_nil)
      (pss_cons (ps_set (i := 2) sc_word_integer.nd rfl (.inl rfl) (pe_callB (call_min2 rfl) (by rfl) T.fr_min (by decide +kernel) (pa_cons (pe_cal (ok_bounded_number T) hr (pa_cons (pv 1) pa_nil)) (pa_cons (pe_gi T.i_GREATEST) pa_nil))))
      (pss_one (ps_ret (pe_ifExp (pt_cmpR op_lt (pe_callB call_len_seq (by rfl) T.fr_len PySem.boot_len (pa_cons (pv 1) pa_nil)) (pe_callB call_len_seq (by rfl) T.fr_len PySem.boot_len (pa_cons (pv 0) pa_nil)) (nomark _)) (pe_un un_neg (pv 2)) (pv 2)))))), ?_⟩
    generalize hds : (if ws.take 1 = [45] then ws.drop 1 else ws) = ds
    have hdl : ds.length ≤ ws.length := by
      rw [← hds]
      split
      · rw [List.length_drop]; omega
      · exact Nat.le_refl _
    refine ⟨fun σ' H' => ∃ b, σ' = [some (.ref a), some (.ref b), none, none] ∧ Same H H' ∧ SqL K H' b (ds.map V.int), ?_, ?_⟩
    · refine ⟨_, rfl, _, rfl, a, _, rfl, hS, fun u nu => ?_⟩
      have hu : (upd H u (.lst (cutV (ws.map V.int) none (some 1)))) u = some (.lst ((ws.take 1).map V.int)) := by rw [upd_same, cut_to1, List.map_take]
      have sU := same_new (o := .lst (cutV (ws.map V.int) none (some 1))) nu
      generalize upd H u (.lst (cutV (ws.map V.int) none (some 1))) = H2 at hu sU
      refine ⟨by show 1 ≤ sizeLine; decide, fun v nv => ?_⟩
      have sV := same_new (o := .lst [V.int 45]) nv
      refine ⟨_, _, .lst (SqL.of (sV _ _ hu)) (dp_all_ints (ws.take 1)), .lst (SqL.of upd_same) (dp_all_ints [45]), shaped_list _, shaped_list _, _, rfl, ?_⟩
      rw [eqv_list_ints]
      refine ite2 (fun z => ?_) (fun z => ?_)
      · have z' : ws.take 1 = [45] := of_decide_eq_true z
        refine ⟨_, rfl, _, rfl, a, _, rfl, (sU.trans sV).seq hS, fun x nx => ⟨x, rfl, (sU.trans sV).trans (same_new nx), SqL.of ?_⟩⟩
        rw [upd_same, cut_from1, ← hds, if_pos z', List.map_drop]
      · have z' : ¬ ws.take 1 = [45] := fun y => z (decide_eq_true y)
        refine ⟨_, rfl, a, rfl, sU.trans sV, ?_⟩
        rw [← hds, if_neg z']
        exact (sU.trans sV).seq hS
    · rintro σ' H1 ⟨b, rfl, s1, hB⟩
      have hA1 := s1.seq hS
      have el : ((ds.map V.int).length : Int) = (ds.length : Int) := by rw [List.length_map]
      refine ⟨_, rfl, b, _, rfl, .inl hB, rfl, _, rfl, ite2 (fun z => ?_) (fun z => ?_)⟩
      · have z' : ((ds.map V.int).length : Int) = 0 := V.int.inj (of_decide_eq_true z)
        refine iteT ?_
        have e : wordInt ws = none := by
          unfold wordInt
          rw [hds]
          exact if_pos (.inl (by omega))
        rw [e] at q
        exact q H1 s1
      · have z' : ¬ ((ds.map V.int).length : Int) = 0 := fun y => z (decide_eq_true (congrArg V.int y))
        refine ⟨_, rfl, b, rfl, ⟨_, hB⟩, fun D nD => ?_⟩
        refine lc_list (K := K) (a := b) (xs := ds.map V.int) (fun j H3 => Same H1 H3 ∧ H3 D = some (.lst (((ds.take j).map isDigit).map V.bl))) ⟨same_new nD, upd_same⟩ (fun j H3 _ ⟨s3, _⟩ => s3.seq hB) ?_ ?_
        · rintro j x H3 hx ⟨s3, e3⟩
          rw [List.getElem?_map] at hx
          obtain ⟨y, hy, rfl⟩ := Option.map_eq_some_iff.mp hx
          refine ⟨rfl, _, rfl, y, rfl, _, e3, ?_, ?_, ?_⟩
          · rw [List.length_map, List.length_map, List.length_take]
            exact line_big (by omega)
          · intro b' o e
            rw [upd_ne (ne_of_none e nD)]
            exact s3 b' o e
          · rw [upd_same, take_next isDigit hy, List.map_append] <;> rfl
        · rintro H3 ⟨s3, e3⟩
          rw [List.length_map, List.take_length] at e3
          have s13 := s1.trans s3
          have hB3 := s3.seq hB
          refine ⟨D, ds.map isDigit, rfl, SqL.of e3, _, rfl, ?_⟩
          rw [bls_all]
          refine ite2 (fun z2 => ?_) (fun z2 => ?_)
          · have z2' : ds.all isDigit = false := by simpa using z2
            have e : wordInt ws = none := by
              unfold wordInt
              rw [hds]
              exact if_pos (.inr z2')
            rw [e] at q
            exact q H3 s13
          · have z2' : ds.all isDigit = true := by simpa using z2
            refine ⟨_, rfl, b, ds, rfl, hB3, _, _, rfl, ?_⟩
            have e : wordInt ws = some (if ds.length < ws.length then -(min (bounded ds) 2147483647) else min (bounded ds) 2147483647) := by
              unfold wordInt
              rw [hds]
              exact if_neg (fun y => y.elim (fun y => by omega) fun y => by rw [z2'] at y; cases y)
            have em : (if (2147483647 : Int) < bounded ds then (2147483647 : Int) else bounded ds) = min (bounded ds) 2147483647 := by split <;> omega
            rw [em]
            have q3 := q H3 s13
            refine ⟨_, rfl, b, _, rfl, .inl hB3, _, rfl, a, _, rfl, .inl (s3.seq hA1), _, _, rfl, rfl, _, rfl, ite2 (fun z3 => ?_) (fun z3 => ?_)⟩
            · have z3' : ((ds.map V.int).length : Int) < ((ws.map V.int).length : Int) := of_decide_eq_true z3
              rw [List.length_map, List.length_map] at z3'
              rw [e, if_pos (by omega)] at q3
              exact ⟨_, rfl, _, rfl, q3⟩
            · have z3' : ¬ ((ds.map V.int).length : Int) < ((ws.map V.int).length : Int) := fun y => z3 (decide_eq_true y)
              rw [List.length_map, List.length_map] at z3'
              rw [e, if_neg (by omega)] at q3
              exact ⟨_, rfl, q3⟩
def spWordVal (C : Addr) : Sp := fun vs H Q _ => ∃ (p l : Addr) (data s : List Int), vs = [.ref p] ∧ RAt C p l data s H ∧ ∀ u H', RAt C p l data (dropR s) H' → Fr p H H' → RepO H' u (wordVal (takeR s)) → Q u H'
theorem sc_word_value : FnScope ["self", "word", "number"] ["self"] (defScope m_word_value) := ⟨rfl, rfl, rfl, by decide +kernel, rfl, by decide +kernel, by decide +kernel⟩
theorem dp_tup {K : PySem.W.Frag} {H : Hp} {a : Addr} {ns : List Int} (h : SqT K H a (ns.map V.int)) : Dp K H (.ref a) (.tuple (ns.map PyData.int)) := .tup h (dp_all_ints ns)
theorem tw_le {α : Type} (f : α → Bool) (l : List α) : (l.takeWhile f).length ≤ l.length := (List.takeWhile_sublist f).length_le
theorem ok_word_value (T : Tx K mg) : CalM P w K mg base (RC K) "word_value" 3 ["self"] (spWordVal (RC K)) := by
  obtain ⟨fd, F⟩ := T.FM_word_value
  refine ⟨_, fd, F.ok sc_word_value (fun vs H Q E h => ?_) (fun cdv A outer s H vs Q E hr h => ?_), T.M_word_value, F.binds fun _ _ _ _ _ _ us hl => match us, hl with | [_], _ => rfl⟩
  · obtain ⟨p, l, data, s, rfl, _⟩ := h
    rfl
  · obtain ⟨p, l, data, s, rfl, R, q⟩ := h
    obtain ⟨dx, h1⟩ := R.ob
    have hu65 : ∀ {A : Around}, Room 2 A → A.units + 65 < cLine := fun r => by have := r.un; omega
    refine ⟨_, pss_cons (ps_set (i := 1) sc_word_value.nd rfl (.inl rfl) (pe_mcal0 T.cl (ok_word T) hr (pv 0)))
      (pss_cons (ps_if (pt_cmpR (op_inDT (hu65 hr)) (pe_callTy call_tuple_of (by rfl) T.fr_tuple (by decide +kernel) (pa_cons (pv 1) pa_nil)) (pe_tup (pa_cons (pe_gr T.g_TRUE) (pa_cons (pe_gr T.g_FALSE) pa_nil))) rfl)
        (pss_one (ps_ret (pe_tup (pa_cons pe_str (pa_cons (pe_callTy call_int1 (by rfl) T.fr_int (by decide +kernel) (pa_cons (pe_cmpR (op_eqD hr.units) (pe_callTy call_tuple_of (by rfl) T.fr_tuple (by decide +kernel) (pa_cons (pv 1) pa_nil)) (pe_gr T.g_TRUE) (nomark _)) pa_nil)) pa_nil))))) pss_nil)
      (pss_cons (ps_if (pt_cmpR (op_eqD hr.units) (pe_callTy call_tuple_of (by rfl) T.fr_tuple (by decide +kernel) (pa_cons (pv 1) pa_nil)) (pe_gr T.g_NONE) (nomark _)) (pss_one (ps_ret (pe_tup (pa_cons pe_str pa_nil)))) pss_nil)
      (pss_cons (ps_set (i := 2) sc_word_value.nd rfl (.inl rfl) (pe_cal (ok_word_integer T) hr (pa_cons (pv 1) pa_nil)))
      (pss_one (ps_ret (pe_ifExp (pt_cmpR op_isN (pv 2) pe_non (nomark _)) pe_non (pe_tup (pa_cons pe_str (pa_cons (pv 2) pa_nil))))))))), ?_⟩
    refine ⟨_, rfl, p, dx, _, rfl, h1, rf_no _ _ (by decide +kernel) (by decide +kernel), p, l, data, s, rfl, R, fun a H1 na ha R1 fr1 => ?_⟩
    have hwl : (takeR s).length ≤ 100000 := Nat.le_trans (tw_le _ _) (Nat.le_trans R.le R.small)
    generalize takeR s = ws at ha hwl q
    have hA1 : SqL K H1 a (ws.map V.int) := SqL.of ha
    -- tuple(word) in (TRUE, FALSE)
    refine ⟨_, rfl, a, _, rfl, .inl ⟨hA1, fun t nt => ?_⟩⟩
    have sT := same_new (o := .tup (ws.map V.int)) nt
    have hT : (upd H1 t (.tup (ws.map V.int))) t = some (.tup (ws.map V.int)) := upd_same
    generalize upd H1 t (.tup (ws.map V.int)) = H2 at sT hT
    refine ⟨by show 2 ≤ sizeLine; decide, fun y ny => ?_⟩
    have sY := same_new (o := .tup [V.ref (He.ga K "TRUE"), V.ref (He.ga K "FALSE")]) ny
    have hY : (upd H2 y (.tup [V.ref (He.ga K "TRUE"), V.ref (He.ga K "FALSE")])) y = some (.tup [V.ref (He.ga K "TRUE"), V.ref (He.ga K "FALSE")]) := upd_same
    generalize upd H2 y (.tup [V.ref (He.ga K "TRUE"), V.ref (He.ga K "FALSE")]) = H3 at sY hY
    have s13 : Same H1 H3 := sT.trans sY
    refine ⟨.tuple (ws.map PyData.int), [.tuple (wTRUE.map PyData.int), .tuple (wFALSE.map PyData.int)], dp_tup (SqT.of (sY _ _ hT)), .tup (SqT.of hY) (.cons (dp_tup (T.t_TRUE _)) (.cons (dp_tup (T.t_FALSE _)) .nil)), shaped_tup _, by decide, _, rfl, ?_⟩
    have eany : ([.tuple (wTRUE.map PyData.int), .tuple (wFALSE.map PyData.int)] : List PyData).any (fun z => PyData.eqv z (.tuple (ws.map PyData.int))) = (decide (wTRUE = ws) || decide (wFALSE = ws)) := by
      simp only [List.any_cons, List.any_nil, eqv_tup_ints, Bool.or_false]
    rw [eany]
    have hA3 : SqL K H3 a (ws.map V.int) := s13.seq hA1
    refine ite2 (fun z => ?_) (fun z => ?_)
    · have z' : wTRUE = ws ∨ wFALSE = ws := by simpa using z
      refine ⟨_, rfl, a, _, rfl, .inl ⟨hA3, fun t2 nt2 => ?_⟩⟩
      have sT2 := same_new (o := .tup (ws.map V.int)) nt2
      have hT2 : (upd H3 t2 (.tup (ws.map V.int))) t2 = some (.tup (ws.map V.int)) := upd_same
      generalize upd H3 t2 (.tup (ws.map V.int)) = H4 at sT2 hT2
      refine ⟨_, _, dp_tup (SqT.of hT2), dp_tup (ns := wTRUE) (T.t_TRUE _), shaped_tup _, shaped_tup _, .inr ⟨_, rfl, by show 2 ≤ sizeLine; decide, fun r nr => ?_⟩⟩
      have ee := eqv_tup_ints ws wTRUE
      have sR := same_new (o := .tup [V.str "bool", V.int (if PyData.eqv (.tuple (ws.map PyData.int)) (.tuple (wTRUE.map PyData.int)) = true then 1 else 0)]) nr
      refine q _ _ (R1.same (s13.trans (sT2.trans sR))) (fr1.trans (Fr.of (s13.trans (sT2.trans sR)))) ?_
      rcases z' with e | e
      · subst e
        show Rep _ _ (.bool true)
        exact .bool (by rw [upd_same, ee]; rfl)
      · subst e
        show Rep _ _ (.bool false)
        exact .bool (by rw [upd_same, ee]; rfl)
    · have z' : ¬ (wTRUE = ws ∨ wFALSE = ws) := by simpa using z
      refine ⟨_, rfl, a, _, rfl, .inl ⟨hA3, fun t2 nt2 => ?_⟩⟩
      have sT2 := same_new (o := .tup (ws.map V.int)) nt2
      have hT2 : (upd H3 t2 (.tup (ws.map V.int))) t2 = some (.tup (ws.map V.int)) := upd_same
      generalize upd H3 t2 (.tup (ws.map V.int)) = H4 at sT2 hT2
      refine ⟨_, _, dp_tup (SqT.of hT2), dp_tup (ns := wNONE) (T.t_NONE _), shaped_tup _, shaped_tup _, _, rfl, ?_⟩
      rw [eqv_tup_ints]
      have s14 : Same H1 H4 := s13.trans sT2
      refine ite2 (fun z2 => ?_) (fun z2 => ?_)
      · have z2' : ws = wNONE := of_decide_eq_true z2
        refine ⟨by show 1 ≤ sizeLine; decide, fun r nr => ?_⟩
        have sR := same_new (o := .tup [V.str "none"]) nr
        refine q _ _ (R1.same (s14.trans sR)) (fr1.trans (Fr.of (s14.trans sR))) ?_
        subst z2'
        have : wordVal wNONE = some .none := rfl
        rw [this]
        exact .none upd_same
      · have z2' : ¬ ws = wNONE := fun y => z2 (decide_eq_true y)
        have ev : wordVal ws = (wordInt ws).map .int := by
          unfold wordVal
          rw [if_neg fun y => z' (.inl y.symm), if_neg fun y => z' (.inr y.symm), if_neg z2']
        rw [ev] at q
        refine ⟨_, rfl, a, ws, rfl, s14.seq hA1, hwl, fun H5 s5 => ?_⟩
        have s15 := s14.trans s5
        refine ⟨_, rfl, rfl, _, rfl, ?_⟩
        cases e : wordInt ws with
        | none =>
          rw [e] at q
          exact iteT (q _ _ (R1.same s15) (fr1.trans (Fr.of s15)) rfl)
        | some n =>
          rw [e] at q
          refine iteF ⟨_, rfl, by show 2 ≤ sizeLine; decide, fun r nr => ?_⟩
          have sR := same_new (o := .tup [V.str "int", V.int n]) nr
          exact q _ _ (R1.same (s15.trans sR)) (fr1.trans (Fr.of (s15.trans sR))) (.int upd_same)
end
end K22

set_option maxHeartbeats 4000000
/-! ESCAPES.get, escape, text -/
namespace K22
open PySem PySem.Spec PyProof.Rows L2
/-! ### ESCAPES.get(i, i) -/
theorem esc_at {K : PySem.W.Frag} (h : escB K = true) : ∃ (es : Array DictEntry) (n : Nat) (t1 t2 t3 u1 u2 u3 : Tok), K.lookup (He.ga K "ESCAPES") = some ⟨.type "dict", none, .dict es n, #[]⟩ ∧ (He.ga K "ESCAPES" == sysModules) = false ∧
    es.toList = [⟨110, .int 110 t1, .int 10 u1⟩, ⟨114, .int 114 t2, .int 13 u2⟩, ⟨116, .int 116 t3, .int 9 u3⟩] := by
  unfold escB at h
  cases e : K.lookup (He.ga K "ESCAPES") with
  | none =>
    rw [e] at h
    cases h
  | some o =>
    obtain ⟨oc, od, dt, sl⟩ := o
    rw [e] at h
    cases oc with
    | type c =>
      cases od with
      | none =>
        cases dt with
        | dict es n =>
          obtain ⟨h1, h2⟩ := He.ba h
          obtain ⟨h3, h4⟩ := He.ba h2
          obtain ⟨hc, hs⟩ := of_decide_eq_true h1
          subst hc
          have hsl : sl = #[] := Array.eq_empty_of_size_eq_zero hs
          subst hsl
          refine ⟨es, n, ?_⟩
          generalize es.toList = L at h4
          have h4' := h4
          split at h4'
          · rename_i h1 k1 t1 v1 u1 h2 k2 t2 v2 u2 h3 k3 t3 v3 u3
            obtain ⟨a1, a2, a3, a4, a5, a6, a7, a8, a9⟩ := of_decide_eq_true h4'
            subst a1 a2 a3 a4 a5 a6 a7 a8 a9
            exact ⟨t1, t2, t3, u1, u2, u3, rfl, of_decide_eq_true h3, rfl⟩
          · cases h4'
        | _ => cases h
      | some a => cases dt <;> cases h
    | _ => cases od <;> cases dt <;> cases h
theorem esc_map {P : Program} {w : World} {K : PySem.W.Frag} {h : Heap} (X : K.In h) (e : escB K = true) : (He.ga K "ESCAPES" == sysModules) = false ∧ (∃ ob, h.get? (He.ga K "ESCAPES") = some ob ∧ ob.dict = none) ∧
    ∃ u1 u2 u3 : Tok, h.DictOf (mixKind P w) (He.ga K "ESCAPES") [(.inl 110, .int 10 u1), (.inl 114, .int 13 u2), (.inl 116, .int 9 u3)] := by
  obtain ⟨es, n, t1, t2, t3, u1, u2, u3, hl, hs, he⟩ := esc_at e
  have hg := X _ _ hl
  refine ⟨hs, ⟨_, hg, rfl⟩, u1, u2, u3, _, es, n, hg, ⟨rfl, rfl, rfl⟩, rfl, fun x hx => ?_, ?_, (by decide : ([.inl 110, .inl 114, .inl 116] : List Key).Nodup)⟩
  · have hx' : x ∈ es.toList := hx.val
    rw [he] at hx'
    simp only [List.mem_cons, List.not_mem_nil, or_false] at hx'
    rcases hx' with rfl | rfl | rfl
    · exact ⟨.inl 110, rfl, rfl⟩
    · exact ⟨.inl 114, rfl, rfl⟩
    · exact ⟨.inl 116, rfl, rfl⟩
  · rw [he]
    exact .cons rfl rfl (.cons rfl rfl (.cons rfl rfl .nil))
theorem esc_val (i : Int) (t u1 u2 u3 : Tok) : ∃ t', ((valueAt ([(.inl 110, .int 10 u1), (.inl 114, .int 13 u2), (.inl 116, .int 9 u3)] : List (Key × Value)) (.inl i)).getD (.int i t)) = .int (escv i) t' := by
  unfold escv
  by_cases h1 : i = 110
  · subst h1
    exact ⟨u1, rfl⟩
  · rw [if_neg h1]
    by_cases h2 : i = 114
    · subst h2
      exact ⟨u2, rfl⟩
    · rw [if_neg h2]
      by_cases h3 : i = 116
      · subst h3
        exact ⟨u3, rfl⟩
      · rw [if_neg h3]
        have n1 : ¬ (Sum.inl 110 : Key) = Sum.inl i := fun e => h1 (Sum.inl.inj e).symm
        have n2 : ¬ (Sum.inl 114 : Key) = Sum.inl i := fun e => h2 (Sum.inl.inj e).symm
        have n3 : ¬ (Sum.inl 116 : Key) = Sum.inl i := fun e => h3 (Sum.inl.inj e).symm
        refine ⟨t, ?_⟩
        simp only [valueAt, List.find?_cons, n1, n2, n3, decide_false, List.find?_nil, Option.map_none, Option.getD_none]
section
variable {X : Cx} {e f : Expr} {p apos cpos : Pos} {te tf : TE}
theorem pe_esc (hm : X.mg "ESCAPES" = some (.ref (He.ga X.K "ESCAPES"))) (hE : escB X.K = true) (he : PE X e te) (hf : PE X f tf) (m : M2 X (.Name "ESCAPES" p) "get" apos e f cpos) (hg : Gl X "ESCAPES" := by rfl) :
    PE X (.Call (.Attribute (.Name "ESCAPES" p) "get" apos) [e, f] [] cpos) (fun σ H Q => te σ H fun y H1 => tf σ H1 fun z H2 => ∃ i, y = .int i ∧ z = .int i ∧ Q (.int (escv i)) H2) := by
  refine ⟨fun pins s σ H Q I h => ?_⟩
  refine wpAny_Call_method m.base m.few m.line PySem.F.plainAttrs_dict PySem.F.slot_dict_get PySem.F.type_dict_get (thn ((pe_gr hm hg (by decide)).run pins s σ H (fun x H1 => x = .ref (He.ga X.K "ESCAPES") ∧ H1 = H) I ⟨rfl, rfl⟩) fun u s1 ⟨x, H1, I1, rx, ex, eH⟩ => ?_)
  subst ex eH
  obtain rfl : u = Value.ref (He.ga X.K "ESCAPES") := rx
  obtain ⟨hs1, ⟨ob, g1, g2⟩, u1, u2, u3, dd⟩ := esc_map (P := X.prog) (w := X.w) I1.kIn hE
  refine ⟨dd.typeIs, fun b q => by cases q; exact ⟨ob, g1, g2⟩, ?_⟩
  rw [m.trees]
  refine Calls.callWith_builtin rfl (Calls.evalArgs_plain (Calls.spliced_cons (thn (he.run pins s1 σ _ _ I1 h) fun iv s2 ⟨y, H2, I2, ry, q2⟩ => Calls.spliced_cons (thn (hf.run pins s2 σ H2 _ I2 q2) fun fv s3 ⟨z, H3, I3, rz, i, ey, ez, q3⟩ => Calls.spliced_nil ?_))))
  subst ey ez
  obtain ⟨_, _, v1, v2, v3, d3⟩ := esc_map (P := X.prog) (w := X.w) I3.kIn hE
  obtain ⟨tz, rfl⟩ := rz
  obtain ⟨t', e'⟩ := esc_val i tz v1 v2 v3
  refine call_meetsIn PySem.F.slot_dict_get d3.typeIs PySem.F.entry_dict_get (PySem.F.args_dict_get_3 _ _ _) (meets_dict_get_default (mixKind X.prog X.w) (He.ga X.K "ESCAPES") (kV_is (k := .inl i) ry) hs1 _) ⟨_, d3.mapOf, ?_⟩
  rw [e']
  exact ⟨.int (escv i), H3, I3.tok _, ⟨t', rfl⟩, q3⟩
end
/-! ### plain facts of texts -/
theorem pText_nil (k : Nat) : pText k [] = ([], []) := by unfold pText; rfl
theorem pText_bs (k : Nat) (r : List Int) : pText k (92 :: r) = ((escP r).1 ++ (pText k (escP r).2).1, (pText k (escP r).2).2) := by
  conv => lhs; unfold pText
  rw [if_pos rfl]
theorem pText_open (k : Nat) (r : List Int) : pText k (40 :: r) = (40 :: (pText (k + 1) r).1, (pText (k + 1) r).2) := by
  conv => lhs; unfold pText
  rw [if_neg (by decide), if_pos rfl]
theorem pText_end (r : List Int) : pText 1 (41 :: r) = ([], r) := by
  conv => lhs; unfold pText
  rw [if_neg (by decide), if_neg (by decide), if_pos rfl, if_pos rfl]
theorem pText_close {k : Nat} (h : k ≠ 1) (r : List Int) : pText k (41 :: r) = (41 :: (pText (k - 1) r).1, (pText (k - 1) r).2) := by
  conv => lhs; unfold pText
  rw [if_neg (by decide), if_neg (by decide), if_pos rfl, if_neg h]
theorem pText_other {k : Nat} {c : Int} (h1 : c ≠ 92) (h2 : c ≠ 40) (h3 : c ≠ 41) (r : List Int) : pText k (c :: r) = (c :: (pText k r).1, (pText k r).2) := by
  conv => lhs; unfold pText
  rw [if_neg h1, if_neg h2, if_neg h3]
theorem escP_hex {a b : Int} {r : List Int} (h : 0 ≤ hexv a ∧ 0 ≤ hexv b) : escP (a :: b :: r) = ([16 * hexv a + hexv b], r) := by
  unfold escP
  exact if_pos h
theorem escP_plain {a b : Int} {r : List Int} (h : ¬ (0 ≤ hexv a ∧ 0 ≤ hexv b)) : escP (a :: b :: r) = ([escv a], b :: r) := by
  unfold escP
  exact if_neg h
theorem escP_len (s : List Int) : (escP s).1.length + (escP s).2.length ≤ s.length := by
  match s with
  | [] => exact Nat.le_refl _
  | [a] => exact Nat.le_refl _
  | a :: b :: r =>
    by_cases h : 0 ≤ hexv a ∧ 0 ≤ hexv b
    · simp only [escP, if_pos h, List.length_cons, List.length_nil]; omega
    · simp only [escP, if_neg h, List.length_cons, List.length_nil]; omega
section
variable {P : Program} {w : World} {K : PySem.W.Frag} {mg : Str → Option Value} {base : Heap}
/-! ### escape -/
def spEscape (C : Addr) : Sp := fun vs H Q _ => ∃ (p l : Addr) (data s : List Int), vs = [.ref p] ∧ RAt C p l data s H ∧ ∀ b H', H b = none → H' b = some (.lst ((escP s).1.map V.int)) → RAt C p l data (escP s).2 H' → Fr p H H' → Q (.ref b) H'
theorem sc_escape : FnScope ["self", "code", "pair"] ["self"] (defScope m_escape) := ⟨rfl, rfl, rfl, by decide +kernel, rfl, by decide +kernel, by decide +kernel⟩
theorem ok_escape (T : Tx K mg) : CalM P w K mg base (RC K) "escape" 2 ["self"] (spEscape (RC K)) := by
  obtain ⟨fd, F⟩ := T.FM_escape
  refine ⟨_, fd, F.ok sc_escape (fun vs H Q E h => ?_) (fun cdv A outer s H vs Q E hr h => ?_), T.M_escape, F.binds fun _ _ _ _ _ _ us hl => match us, hl with | [_], _ => rfl⟩
  · obtain ⟨p, l, data, s, rfl, _⟩ := h
    rfl
  · obtain ⟨p, l, data, s, rfl, R, q⟩ := h
    obtain ⟨dx, h1⟩ := R.ob
    refine ⟨_, C8.pss_cut (ps_setLc (i := 2) (own := [("code", 1)]) (g := gName 1) (tt := tYes) rfl sc_escape.nd rfl rfl (sw_true rfl rfl rfl (by decide +kernel))
          (pi_list (pe_slice sl_list (pe_fld (pv 0) rfl) (po_some (pe_fld (pv 0) rfl)) (po_some (pe_op op_add (pe_fld (pv 0) rfl) pe_int))))
          (blkOk_by (own := [("code", 1)]) (N := ["self", "code", "pair"]) (sc := defScope m_escape) (by decide +kernel))
          (fun _ _ _ _ _ => pg_name (i := 1) sc_escape.nd rfl (Or.inl rfl)) (fun _ _ _ _ _ => pts_nil) (fun _ _ _ _ _ => pe_cal (ok_digit_value T) hr (pa_cons (pv 1) pa_nil)))
      (C8.pss_cut (ps_if (PW.pt (pw_and (pt_cmpR op_eq (pe_callB call_len_seq (by rfl) T.fr_len PySem.boot_len (pa_cons (pv 2) pa_nil)) pe_int (nomark _))
          (pw_and1 (pt_cmpR op_ge (pe_callB (cr_min rfl) (by rfl) T.fr_min (by decide +kernel) (pa_cons (pv 2) pa_nil)) pe_int (nomark _)))))
        (pss_cons (ps_fld (pv 0) (pe_op op_add (pe_fld (pv 0) rfl) pe_int) rfl)
          (pss_one (ps_ret (pe_lst (pa_cons (pe_op op_add (pe_op op_mul pe_int (pe_ix ix_list (pv 2) pe_int (fun _ _ => rfl))) (pe_ix ix_list (pv 2) pe_int (fun _ _ => rfl))) pa_nil))))) pss_nil)
      (pss_cons (ps_if (pt_cmpR op_lt (pe_mcal0 T.cl (ok_here T) hr (pv 0)) pe_int (nomark _)) (pss_one (ps_ret (pe_lst pa_nil))) pss_nil)
      (pss_cons (ps_set (i := 1) sc_escape.nd rfl (.inl rfl) (pe_mcal0 T.cl (ok_here T) hr (pv 0)))
      (pss_cons (ps_fld (pv 0) (pe_op op_add (pe_fld (pv 0) rfl) pe_int) rfl)
      (pss_one (ps_ret (pe_lst (pa_cons (pe_esc T.g_ESCAPES T.e_ESCAPES (pv 1) (pv 1) ⟨rfl, rfl, rfl, rfl⟩) pa_nil)))))))), ?_⟩
    refine ⟨fun σ' H' => ∃ b, σ' = [some (.ref p), none, some (.ref b)] ∧ Same H H' ∧ H' b = some (.lst (((s.take 2).map hexv).map V.int)), ?_, ?_⟩
    · refine ⟨_, rfl, p, _, dx, _, _, rfl, h1, T.cl, T.nData, rf_data _ _, _, rfl, p, _, dx, _, _, rfl, h1, T.cl, T.nAt, rf_at _ _, _, rfl, _, rfl, p, _, dx, _, _, rfl, h1, T.cl, T.nAt, rf_at _ _, _, _, rfl, rfl, _, rfl, l, _, rfl, SqL.of R.lst, fun u nu => ?_⟩
      have ecut : cutV (data.map V.int) (some ((data.length - s.length : Nat) : Int)) (some (((data.length - s.length : Nat) : Int) + 2)) = (s.take 2).map V.int := by
        rw [show (((data.length - s.length : Nat) : Int) + 2) = ((data.length - s.length + 2 : Nat) : Int) by omega, cut_ints, sfx_at R.sfx, Nat.add_sub_cancel_left]
      have hu : (upd H u (.lst (cutV (data.map V.int) (some ((data.length - s.length : Nat) : Int)) (some (((data.length - s.length : Nat) : Int) + 2))))) u = some (.lst ((s.take 2).map V.int)) := by rw [upd_same, ecut]
      have sU := same_new (o := .lst (cutV (data.map V.int) (some ((data.length - s.length : Nat) : Int)) (some (((data.length - s.length : Nat) : Int) + 2)))) nu
      generalize upd H u (.lst (cutV (data.map V.int) (some ((data.length - s.length : Nat) : Int)) (some (((data.length - s.length : Nat) : Int) + 2)))) = H2 at hu sU
      refine ⟨u, rfl, ⟨_, SqL.of hu⟩, fun D nD => ?_⟩
      refine lc_list (K := K) (a := u) (xs := (s.take 2).map V.int) (fun j H3 => Same H2 H3 ∧ H3 D = some (.lst ((((s.take 2).take j).map hexv).map V.int))) ⟨same_new nD, upd_same⟩ (fun j H3 _ ⟨s3, _⟩ => SqL.of (s3 _ _ hu)) ?_ ?_
      · rintro j x H3 hx ⟨s3, e3⟩
        rw [List.getElem?_map] at hx
        obtain ⟨y, hy, rfl⟩ := Option.map_eq_some_iff.mp hx
        refine ⟨rfl, _, rfl, y, rfl, _, e3, ?_, ?_, ?_⟩
        · rw [List.length_map, List.length_map, List.length_take, List.length_take]
          exact line_big (by omega)
        · intro b o e
          rw [upd_ne (ne_of_none e nD)]
          exact s3 b o e
        · rw [upd_same, map_snoc, take_next hexv hy]
      · rintro H3 ⟨s3, e3⟩
        rw [List.length_map, List.take_length] at e3
        exact ⟨D, rfl, sU.trans s3, e3⟩
    · rintro σ' H1 ⟨b, rfl, s1, hb⟩
      have R1 := R.same s1
      have h2 := s1 _ _ h1
      have hB : SqL K H1 b (((s.take 2).map hexv).map V.int) := SqL.of hb
      refine ⟨fun σ' H' => σ' = [some (.ref p), none, some (.ref b)] ∧ H' = H1 ∧ ¬ ∃ x y r, s = x :: y :: r ∧ 0 ≤ hexv x ∧ 0 ≤ hexv y, ?_, ?_⟩
      · refine ⟨_, rfl, b, _, rfl, .inl hB, rfl, _, rfl, ite2 (fun z => ?_) (fun z => ?_)⟩
        · have z' : ((((s.take 2).map hexv).map V.int).length : Int) = 2 := V.int.inj (of_decide_eq_true z)
          obtain ⟨x, y, r, es⟩ : ∃ x y r, s = x :: y :: r := by
            match s, z' with
            | x :: y :: t, _ => exact ⟨x, y, t, rfl⟩
          have hB2 : SqL K H1 b (([hexv x, hexv y] : List Int).map V.int) := by rw [es] at hB; exact hB
          refine ⟨_, rfl, b, [hexv x, hexv y], rfl, hB2, by simp, fun m hm hmin => ⟨_, _, rfl, rfl, _, rfl, ?_⟩⟩
          have hx := hmin (hexv x) (by simp)
          have hy := hmin (hexv y) (by simp)
          refine ite2 (fun z3 => ?_) (fun z3 => ?_)
          · have z3' : 0 ≤ m := of_decide_eq_true z3
            subst es
            have ee : escP (x :: y :: r) = ([16 * hexv x + hexv y], r) := escP_hex ⟨by omega, by omega⟩
            rw [ee] at q
            refine ⟨_, rfl, p, _, dx, _, _, rfl, h2, T.cl, T.nAt, rf_at _ _, _, _, rfl, rfl, _, rfl, p, _, dx, _, rfl, h2, T.cl, T.nAt, rf_few _ _, ?_⟩
            have hbp : b ≠ p := ne_of hb h2 (by intro z; cases z)
            have R2 : RAt (RC K) p l data r (upd H1 p (.ins (RC K) dx (putF "at" (.int (((data.length - (x :: y :: r).length : Nat) : Int) + 2)) (rf l ((data.length - (x :: y :: r).length : Nat) : Int))))) := by
              refine R1.move h2 (sfx_tail (sfx_tail R1.sfx)) ?_
              have := R1.le
              simp only [List.length_cons] at this ⊢
              omega
            have hb3 : (upd H1 p (.ins (RC K) dx (putF "at" (.int (((data.length - (x :: y :: r).length : Nat) : Int) + 2)) (rf l ((data.length - (x :: y :: r).length : Nat) : Int))))) b = some (.lst (([hexv x, hexv y] : List Int).map V.int)) := by
              rw [upd_ne hbp]
              exact hb
            have fr := (Fr.of s1).trans (fr_upd (p := p) (H := H1) (o := .ins (RC K) dx (putF "at" (.int (((data.length - (x :: y :: r).length : Nat) : Int) + 2)) (rf l ((data.length - (x :: y :: r).length : Nat) : Int)))))
            generalize upd H1 p (.ins (RC K) dx (putF "at" (.int (((data.length - (x :: y :: r).length : Nat) : Int) + 2)) (rf l ((data.length - (x :: y :: r).length : Nat) : Int)))) = H3 at R2 hb3 fr
            have hB3 : SqL K H3 b (([hexv x, hexv y] : List Int).map V.int) := SqL.of hb3
            refine ⟨_, rfl, b, _, _, _, rfl, rfl, hB3, atI_nat (j := 0) rfl, 16, hexv x, rfl, rfl, .inl ⟨by decide, by decide⟩, _, rfl, b, _, _, _, rfl, rfl, hB3, atI_nat (j := 1) rfl, _, hexv y, rfl, rfl, by show 1 ≤ sizeLine; decide, fun u nu => ?_⟩
            exact q u _ (fr.free h1 R2.any nu) upd_same (R2.same (same_new nu)) (fr.trans (Fr.of (same_new nu)))
          · have z3' : ¬ 0 ≤ m := fun q => z3 (decide_eq_true q)
            refine ⟨rfl, rfl, fun ⟨x', y', r', e', h1', h2'⟩ => z3' ?_⟩
            rw [es] at e'
            injection e' with e1 e2
            injection e2 with e2 e3
            subst e1 e2
            have := hm
            simp only [List.mem_cons, List.not_mem_nil, or_false] at this
            rcases this with e | e <;> omega
        · have z' : ¬ ((((s.take 2).map hexv).map V.int).length : Int) = 2 := fun q => z (decide_eq_true (congrArg V.int q))
          refine iteF ⟨rfl, rfl, fun ⟨x', y', r', e', _, _⟩ => z' ?_⟩
          rw [e'] <;> rfl
      · rintro σ' H' ⟨rfl, rfl, hno⟩
        refine ⟨_, rfl, p, dx, _, rfl, h2, rf_no _ _ (by decide +kernel) (by decide +kernel), p, l, data, s, rfl, R1, _, _, rfl, rfl, _, rfl, ite2 (fun z => ?_) (fun z => ?_)⟩
        · have z' : s.headD (-1) < 0 := of_decide_eq_true z
          cases s with
          | nil => exact ⟨Nat.zero_le _, fun u nu => q u _ (s1.free nu) upd_same (R1.same (same_new nu)) (Fr.of (s1.trans (same_new nu)))⟩
          | cons c r =>
            have := (R1.sb (b := c) List.mem_cons_self).1
            have z2 : c < 0 := z'
            omega
        · have z' : ¬ s.headD (-1) < 0 := fun y => z (decide_eq_true y)
          cases s with
          | nil => exact absurd (by decide) z'
          | cons c r =>
            have ee : escP (c :: r) = ([escv c], r) := by
              match r, hno with
              | [], _ => rfl
              | y :: t, hno => exact escP_plain fun h => hno ⟨c, y, t, rfl, h.1, h.2⟩
            rw [ee] at q
            refine ⟨_, rfl, p, dx, _, rfl, h2, rf_no _ _ (by decide +kernel) (by decide +kernel), p, l, data, c :: r, rfl, R1, ?_⟩
            refine ⟨_, rfl, p, _, dx, _, _, rfl, h2, T.cl, T.nAt, rf_at _ _, _, _, rfl, rfl, _, rfl, p, _, dx, _, rfl, h2, T.cl, T.nAt, rf_few _ _, ?_⟩
            refine ⟨_, rfl, _, rfl, c, rfl, rfl, by show 1 ≤ sizeLine; decide, fun u nu => ?_⟩
            have fr := (Fr.of s1).trans (fr_upd (p := p) (H := H') (o := .ins (RC K) dx (putF "at" (.int (((data.length - (c :: r).length : Nat) : Int) + 1)) (rf l ((data.length - (c :: r).length : Nat) : Int)))))
            have R2 := R1.step h2
            refine q u _ (fr.free h1 R2.any nu) upd_same (R2.same (same_new nu)) (fr.trans (Fr.of (same_new nu)))
end
end K22

set_option maxHeartbeats 4000000
/-! text, plain_value -/
namespace K22
open PySem PySem.Spec PyProof.Rows L2
theorem ifI_t {i j : Int} {A B : Prop} (h : i = j) (a : A) : if decide (V.int i = V.int j) = true then A else B := by
  subst h
  rw [decide_eq_true rfl]
  exact iteT a
theorem ifI_f {i j : Int} {A B : Prop} (h : i ≠ j) (b : B) : if decide (V.int i = V.int j) = true then A else B := by
  rw [decide_eq_false fun e => h (V.int.inj e)]
  exact iteF b
theorem ifB_t {p : Prop} [Decidable p] {A B : Prop} (h : p) (a : A) : if decide p = true then A else B := by
  rw [decide_eq_true h]
  exact iteT a
theorem ifB_f {p : Prop} [Decidable p] {A B : Prop} (h : ¬ p) (b : B) : if decide p = true then A else B := by
  rw [decide_eq_false h]
  exact iteF b
theorem ifI {i j : Int} {A B : Prop} (a : i = j → A) (b : i ≠ j → B) : if decide (V.int i = V.int j) = true then A else B := by
  by_cases h : i = j
  · exact ifI_t h (a h)
  · exact ifI_f h (b h)
theorem ifB {p : Prop} [Decidable p] {A B : Prop} (a : p → A) (b : ¬ p → B) : if decide p = true then A else B := by
  by_cases h : p
  · exact ifB_t h (a h)
  · exact ifB_f h (b h)
section
variable {P : Program} {w : World} {K : PySem.W.Frag} {mg : Str → Option Value} {base : Heap}
def spText (C : Addr) : Sp := fun vs H Q _ => ∃ (p l : Addr) (data s : List Int), vs = [.ref p] ∧ RAt C p l data s H ∧ ∀ t H', H t = none → H' t = some (.tup ((pText 1 s).1.map V.int)) → RAt C p l data (pText 1 s).2 H' → Fr p H H' → Q (.ref t) H'
theorem sc_text : FnScope ["self", "data", "deep", "code"] ["self"] (defScope m_text) := ⟨rfl, rfl, rfl, by decide +kernel, rfl, by decide +kernel, by decide +kernel⟩
/-- between two turns of text's loop -/
structure TInv (C p l d : Addr) (data s0 : List Int) (H : Hp) (k : Nat) (s : List Int) (out : List Int) (H' : Hp) : Prop where
  r : RAt C p l data s H'
  k1 : 1 ≤ k
  kb : k ≤ s0.length + 1
  lst : H' d = some (.lst (out.map V.int))
  fr : Fr p H H'
  eq : pText 1 s0 = (out ++ (pText k s).1, (pText k s).2)
  len : out.length + s.length ≤ s0.length
  kl : k + s.length ≤ s0.length + 1
theorem ok_text (T : Tx K mg) : CalM P w K mg base (RC K) "text" 3 ["self"] (spText (RC K)) := by
  obtain ⟨fd, F⟩ := T.FM_text
  refine ⟨_, fd, F.ok sc_text (fun vs H Q E h => ?_) (fun cdv A outer s H vs Q E hr h => ?_), T.M_text, F.binds fun _ _ _ _ _ _ us hl => match us, hl with | [_], _ => rfl⟩
  · obtain ⟨p, l, data, s, rfl, _⟩ := h
    rfl
  · obtain ⟨p, l, data, s0, rfl, R0, q⟩ := h
    obtain ⟨dx0, h0⟩ := R0.ob
    have hr1 : Room 1 _ := hr.mono (by decide)
    refine ⟨_, pss_cons (ps_set (i := 1) sc_text.nd rfl (.inl rfl) (pe_lst pa_nil))
      (pss_cons (ps_set (i := 2) sc_text.nd rfl (.inl rfl) pe_int)
      (C8.pss_cut (ps_while PassesOwn.never (pt_cmpR op_ge (pe_mcal0 T.cl (ok_here T) hr1 (pv 0)) pe_int (nomark _))
        (pss_cons (ps_set (i := 3) sc_text.nd rfl (.inl rfl) (pe_mcal0 T.cl (ok_here T) hr1 (pv 0)))
        (pss_cons (ps_fld (pv 0) (pe_op op_add (pe_fld (pv 0) rfl) pe_int) rfl)
        (pss_cons (ps_if (pt_cmpR op_eq (pv 3) (pe_gi T.i_BACKSLASH) (nomark _))
          (pss_cons (ps_expr (pe_bm PySem.F.plainAttrs_list PySem.F.slot_list_extend PySem.F.type_list_extend mt_extend (pv 1) (pa_cons (pe_mcal0 T.cl (ok_escape T) hr (pv 0)) pa_nil))) (pss_one ps_continue)) pss_nil)
        (pss_cons (ps_if (pt_cmpR op_eq (pv 3) (pe_gi T.i_TEXT) (nomark _)) (pss_one (ps_set (i := 2) sc_text.nd rfl (.inl rfl) (pe_op op_add (pv 2) pe_int))) pss_nil)
        (pss_cons (ps_if (pt_cmpR op_eq (pv 3) (pe_gi T.i_TEXT_END) (nomark _))
          (pss_cons (ps_set (i := 2) sc_text.nd rfl (.inl rfl) (pe_op op_sub (pv 2) pe_int)) (pss_one (ps_if (pt_cmpR op_eq (pv 2) pe_int (nomark _)) (pss_one ps_break) pss_nil))) pss_nil)
        (pss_one (ps_expr (pe_bm PySem.F.plainAttrs_list PySem.F.slot_list_append PySem.F.type_list_append mt_append (pv 1) (pa_cons (pv 3) pa_nil))))))))))
      (pss_one (ps_ret (pe_callTy call_tuple_of (by rfl) T.fr_tuple (by decide +kernel) (pa_cons (pv 1) pa_nil)))))), ?_⟩
    refine ⟨Nat.zero_le _, fun d nd => ?_⟩
    have ndp : d ≠ p := fun e => by
      rw [e, h0] at nd
      cases nd
    refine ⟨fun σ' H' => ∃ x2 x3, σ' = [some (.ref p), some (.ref d), x2, x3] ∧ RAt (RC K) p l data (pText 1 s0).2 H' ∧ H' d = some (.lst ((pText 1 s0).1.map V.int)) ∧ Fr p H H', ?_, ?_⟩
    · refine ⟨fun m σ H' => ∃ (k : Nat) (s out : List Int) (x3 : Option V), σ = [some (.ref p), some (.ref d), some (.int k), x3] ∧ m = s.length ∧ TInv (RC K) p l d data s0 H k s out H',
        ⟨_, 1, s0, [], none, rfl, rfl, R0.same (same_new nd), Nat.le_refl _, by omega, upd_same, Fr.of (same_new nd), rfl, by simp, by omega⟩, ?_⟩
      rintro m σ H' ⟨k, s, out, x3, rfl, rfl, I⟩
      obtain ⟨dx, h1⟩ := I.r.ob
      have hs0 : s0.length ≤ 100000 := Nat.le_trans R0.le R0.small
      refine ⟨_, rfl, p, dx, _, rfl, h1, rf_no _ _ (by decide +kernel) (by decide +kernel), p, l, data, s, rfl, I.r, _, _, rfl, rfl, _, rfl, ifB (fun z => ?_) (fun z => ?_)⟩
      · cases s with
        | nil => exact absurd z (by decide)
        | cons c r =>
          refine ⟨fun σ3 H3 => ∃ (k : Nat) (s out : List Int) (x3 : Option V), σ3 = [some (.ref p), some (.ref d), some (.int k), x3] ∧ s.length < (c :: r).length ∧ TInv (RC K) p l d data s0 H k s out H3,
            fun σ3 H3 ⟨k, s, out, x3, e1, e2, e3⟩ => ⟨s.length, e2, k, s, out, x3, e1, rfl, e3⟩, ?_⟩
          refine ⟨_, rfl, p, dx, _, rfl, h1, rf_no _ _ (by decide +kernel) (by decide +kernel), p, l, data, c :: r, rfl, I.r, ?_⟩
          refine ⟨_, rfl, p, _, dx, _, _, rfl, h1, T.cl, T.nAt, rf_at _ _, _, _, rfl, rfl, _, rfl, p, _, dx, _, rfl, h1, T.cl, T.nAt, rf_few _ _, ?_⟩
          have R2 := I.r.step h1
          have fr2 := I.fr.trans (fr_upd (p := p) (H := H') (o := .ins (RC K) dx (putF "at" (.int (((data.length - (c :: r).length : Nat) : Int) + 1)) (rf l ((data.length - (c :: r).length : Nat) : Int)))))
          have hd2 : (upd H' p (.ins (RC K) dx (putF "at" (.int (((data.length - (c :: r).length : Nat) : Int) + 1)) (rf l ((data.length - (c :: r).length : Nat) : Int))))) d = some (.lst (out.map V.int)) := by
            rw [upd_ne ndp]
            exact I.lst
          have Ik1 := I.k1
          have Ikb := I.kb
          have Ilen := I.len
          have Ikl := I.kl
          simp only [List.length_cons] at Ilen Ikl
          have Ieq := I.eq
          generalize upd H' p (.ins (RC K) dx (putF "at" (.int (((data.length - (c :: r).length : Nat) : Int) + 1)) (rf l ((data.length - (c :: r).length : Nat) : Int)))) = H2 at R2 fr2 hd2
          have hout : (out.map V.int).length < sizeLine := by rw [List.length_map]; exact line_big (by omega)
          -- the byte is added
          have add : ∀ j : Nat, 1 ≤ j → j ≤ k + 1 → pText k (c :: r) = (c :: (pText j r).1, (pText j r).2) → TInv (RC K) p l d data s0 H j r (out ++ [c]) (upd H2 d (.lst (out.map V.int ++ [V.int c]))) := by
            intro j hj1 hj2 e
            obtain ⟨dy, hy⟩ := R2.ob
            have hdl : d ≠ l := fun z => by
              have := I.fr l _ R0.lst R0.pl
              rw [z] at nd
              rw [R0.lst] at nd
              cases nd
            refine ⟨⟨⟨dy, by rw [upd_ne ndp.symm]; exact hy⟩, by rw [upd_ne hdl.symm]; exact R2.lst, R2.sfx, R2.small, R2.byt⟩, hj1, by omega, by rw [upd_same, map_snoc], ?_, ?_, by simp; omega, by omega⟩
            · intro b o hb hbp
              rw [upd_ne (ne_of_none hb nd)]
              exact fr2 b o hb hbp
            · rw [Ieq, e]
              simp
          refine ⟨_, rfl, rfl, _, rfl, ifI (fun e => ?_) (fun e1 => ?_)⟩
          · subst e
            obtain ⟨dy, hy⟩ := R2.ob
            refine ⟨_, rfl, .inl ⟨rfl, _, SqL.of hd2⟩, _, rfl, p, dy, _, rfl, hy, rf_no _ _ (by decide +kernel) (by decide +kernel), p, l, data, r, rfl, R2, fun b H3 nb hb R3 fr3 => ?_⟩
            have hd3 := fr3 _ _ hd2 ndp
            have hel := escP_len r
            refine ⟨d, b, _, _, rfl, rfl, hd3, hb, ?_, ?_⟩
            · rw [List.length_map, List.length_map]
              exact Nat.le_of_lt (line_big (by omega))
            obtain ⟨dz, hz⟩ := R3.ob
            have hdl : d ≠ l := fun z => by
              rw [z, R0.lst] at nd
              cases nd
            refine ⟨k, (escP r).2, out ++ (escP r).1, _, rfl, by simp only [List.length_cons]; omega, ⟨⟨dz, by rw [upd_ne ndp.symm]; exact hz⟩, by rw [upd_ne hdl.symm]; exact R3.lst, R3.sfx, R3.small, R3.byt⟩, Ik1, Ikb, by rw [upd_same, List.map_append], ?_, ?_, by simp; omega, by omega⟩
            · intro b' o hb' hbp
              rw [upd_ne (ne_of_none hb' nd)]
              exact fr3 b' o (fr2 b' o hb' hbp) hbp
            · rw [Ieq, pText_bs]
              simp
          · refine ⟨_, rfl, rfl, _, rfl, ifI (fun e => ?_) (fun e2 => ?_)⟩
            · subst e
              refine ⟨_, rfl, _, _, rfl, rfl, ?_⟩
              refine ⟨_, rfl, rfl, _, rfl, ifI_f (i := 40) (j := 41) (by decide) ?_⟩
              refine ⟨_, rfl, .inl ⟨rfl, _, SqL.of hd2⟩, _, rfl, d, _, _, rfl, rfl, hd2, hout, ?_⟩
              exact ⟨k + 1, r, out ++ [40], _, rfl, by simp, add (k + 1) (by omega) (by omega) (pText_open k r)⟩
            · refine ⟨_, rfl, rfl, _, rfl, ifI (fun e => ?_) (fun e3 => ?_)⟩
              · subst e
                refine ⟨_, rfl, _, _, rfl, rfl, ?_⟩
                refine ⟨_, rfl, rfl, _, rfl, ifI (fun e => ?_) (fun e => ?_)⟩
                · have ek : k = 1 := by omega
                  subst ek
                  rw [pText_end, List.append_nil] at Ieq
                  refine ⟨_, _, rfl, ?_, ?_, fr2⟩
                  · rw [Ieq]; exact R2
                  · rw [Ieq]; exact hd2
                · have ek : k ≠ 1 := by omega
                  refine ⟨_, rfl, .inl ⟨rfl, _, SqL.of hd2⟩, _, rfl, d, _, _, rfl, rfl, hd2, hout, ?_⟩
                  have e4 : (k : Int) - 1 = ((k - 1 : Nat) : Int) := by omega
                  refine ⟨k - 1, r, out ++ [41], some (V.int 41), ?_, by simp, add (k - 1) (by omega) (by omega) (pText_close ek r)⟩
                  rw [← e4] <;> rfl
              · refine ⟨_, rfl, .inl ⟨rfl, _, SqL.of hd2⟩, _, rfl, d, _, _, rfl, rfl, hd2, hout, ?_⟩
                exact ⟨k, r, out ++ [c], _, rfl, by simp, add k Ik1 (by omega) (pText_other e1 e2 e3 r)⟩
      · cases s with
        | nil =>
          have e := I.eq
          rw [pText_nil, List.append_nil] at e
          refine ⟨_, _, rfl, ?_, ?_, I.fr⟩
          · rw [e]; exact I.r
          · rw [e]; exact I.lst
        | cons c r => exact absurd (show (0 : Int) ≤ c from (I.r.sb (b := c) List.mem_cons_self).1) z
    · rintro σ' H' ⟨x2, x3, rfl, R, hd, fr⟩
      refine ⟨_, rfl, d, _, rfl, .inl ⟨SqL.of hd, fun t nt => ?_⟩⟩
      exact q t _ (fr.free h0 R.any nt) upd_same (R.same (same_new nt)) (fr.trans (Fr.of (same_new nt)))
end
end K22

set_option maxHeartbeats 4000000
/-! plain_value -/
namespace K22
open PySem PySem.Spec PyProof.Rows L2
theorem ifN {i j : Int} {A B : Prop} (a : i ≠ j → A) (b : i = j → B) : if (!decide (V.int i = V.int j)) = true then A else B := by
  by_cases h : i = j
  · subst h
    rw [decide_eq_true rfl]
    exact iteF (b rfl)
  · rw [decide_eq_false fun e => h (V.int.inj e)]
    exact iteT (a h)
theorem RAt.fresh {C p l : Addr} {data s : List Int} {H : Hp} (R : RAt C p l data s H) {u : Addr} (nu : H u = none) : u ≠ p ∧ u ≠ l := by
  obtain ⟨dx, h⟩ := R.ob
  refine ⟨fun e => ?_, fun e => ?_⟩
  · rw [e, h] at nu; cases nu
  · rw [e, R.lst] at nu; cases nu
section
variable {P : Program} {w : World} {K : PySem.W.Frag} {mg : Str → Option Value} {base : Heap}
def spPlain (C : Addr) : Sp := fun vs H Q _ => ∃ (p l : Addr) (data r : List Int) (c : Int), vs = [.ref p, .int c] ∧ RAt C p l data (c :: r) H ∧ ∀ u H', RAt C p l data (plainV c (c :: r)).2 H' → Fr p H H' → RepO H' u (plainV c (c :: r)).1 → Q u H'
theorem sc_plain_value : FnScope ["self", "code", "start", "found"] ["self", "code"] (defScope m_plain_value) := ⟨rfl, rfl, rfl, by decide +kernel, rfl, by decide +kernel, by decide +kernel⟩
theorem ok_plain_value (T : Tx K mg) : CalM P w K mg base (RC K) "plain_value" 4 ["self", "code"] (spPlain (RC K)) := by
  obtain ⟨fd, F⟩ := T.FM_plain_value
  refine ⟨_, fd, F.ok sc_plain_value (fun vs H Q E h => ?_) (fun cdv A outer s H vs Q E hr h => ?_), T.M_plain_value, F.binds fun _ _ _ _ _ _ us hl => match us, hl with | [_, _], _ => rfl⟩
  · obtain ⟨p, l, data, r, c, rfl, _⟩ := h
    rfl
  · obtain ⟨p, l, data, r, c, rfl, R, q⟩ := h
    obtain ⟨dx, h1⟩ := R.ob
    have hr1 : Room 1 _ := hr.mono (by decide)
    have hr2 : Room 2 _ := hr.mono (by decide)
    refine ⟨_, pss_cons (ps_if (pt_cmpR op_eq (pv 1) (pe_gi T.i_REFERENCE) (nomark _))
        (pss_cons (ps_if (pt_val (pe_mcal T.cl (ok_is_mark T) hr (pv 0) (pa_cons (pe_gi T.i_REFERENCE) pa_nil)))
          (pss_one (ps_ret (pe_tup (pa_cons pe_str (pa_cons (pe_mcal0 T.cl (ok_take_mark T) hr (pv 0)) pa_nil))))) pss_nil)
        (pss_cons (ps_fld (pv 0) (pe_op op_add (pe_fld (pv 0) rfl) pe_int) rfl) (pss_one (ps_ret pe_non)))) pss_nil)
      (pss_cons (ps_fld (pv 0) (pe_op op_add (pe_fld (pv 0) rfl) pe_int) rfl)
      (pss_cons (ps_if (pt_cmpR op_eq (pv 1) (pe_gi T.i_NAME) (nomark _))
        (pss_one (ps_ret (pe_tup (pa_cons pe_str (pa_cons (pe_cal (ok_unescape T) hr2 (pa_cons (pe_mcal0 T.cl (ok_word T) hr2 (pv 0)) (pa_cons (pe_gi T.i_TILDE) pa_nil))) pa_nil))))) pss_nil)
      (pss_cons (ps_if (pt_cmpR op_eq (pv 1) (pe_gi T.i_TEXT) (nomark _))
        (pss_one (ps_ret (pe_tup (pa_cons pe_str (pa_cons (pe_mcal0 T.cl (ok_text T) hr (pv 0)) pa_nil))))) pss_nil)
      (pss_cons (ps_set (i := 2) sc_plain_value.nd rfl (.inl rfl) (pe_fld (pv 0) rfl))
      (C8.pss_cut (ps_while PassesOwn.never (PW.pt (pw_and (pt_cmpR op_ge (pe_mcal0 T.cl (ok_here T) hr1 (pv 0)) pe_int (nomark _)) (pw_and1 (pt_cmpR op_ne (pe_mcal0 T.cl (ok_here T) hr1 (pv 0)) (pe_gi T.i_MORE) (nomark _)))))
        (pss_one (ps_fld (pv 0) (pe_op op_add (pe_fld (pv 0) rfl) pe_int) rfl)))
      (pss_cons (ps_set (i := 3) sc_plain_value.nd rfl (.inl rfl) (pe_cal (ok_hex_bytes T) hr2 (pa_cons (pe_slice sl_list (pe_fld (pv 0) rfl) (po_some (pv 2)) (po_some (pe_fld (pv 0) rfl))) pa_nil)))
      (pss_cons (ps_fld (pv 0) (pe_callB (call_min2 rfl) (by rfl) T.fr_min (by decide +kernel) (pa_cons (pe_op op_add (pe_fld (pv 0) rfl) pe_int) (pa_cons (pe_callB call_len_seq (by rfl) T.fr_len PySem.boot_len (pa_cons (pe_fld (pv 0) rfl) pa_nil)) pa_nil))) rfl)
      (pss_one (ps_ret (pe_tup (pa_cons pe_str (pa_cons (pe_callTy call_tuple_of (by rfl) T.fr_tuple (by decide +kernel) (pa_cons (pv 3) pa_nil)) pa_nil)))))))))))), ?_⟩
    refine ⟨_, rfl, rfl, _, rfl, ifI (fun e => ?_) (fun e1 => ?_)⟩
    · subst e
      refine ⟨_, rfl, p, dx, _, rfl, h1, rf_no _ _ (by decide +kernel) (by decide +kernel), p, l, data, 64 :: r, 64, rfl, R, fun H1 s1 => ⟨_, rfl, ?_⟩⟩
      have R1 := R.same s1
      have h2 := s1 _ _ h1
      by_cases hm : isMark 64 (64 :: r) = true
      · obtain ⟨n, t, en⟩ : ∃ n t, markOf (64 :: r) = some (n, t) := by
          unfold isMark at hm
          cases e : markOf (64 :: r) with
          | none => rw [e] at hm; simp at hm
          | some z => exact ⟨z.1, z.2, rfl⟩
        have ep : plainV 64 (64 :: r) = (some (.ref n), t) := by
          unfold plainV
          rw [if_pos rfl, if_pos hm, en]
        rw [ep] at q
        rw [hm]
        refine iteT ⟨_, rfl, p, dx, _, rfl, h2, rf_no _ _ (by decide +kernel) (by decide +kernel), p, l, data, 64 :: r, n, t, rfl, R1, en, fun H2 R2 fr2 => ⟨by show 2 ≤ sizeLine; decide, fun u nu => ?_⟩⟩
        exact q _ _ (R2.same (same_new nu)) ((Fr.of s1).trans (fr2.trans (Fr.of (same_new nu)))) (.ref upd_same)
      · have hm' : isMark 64 (64 :: r) = false := by simpa using hm
        have ep : plainV 64 (64 :: r) = (none, r) := by
          unfold plainV
          rw [if_pos rfl, if_neg hm] <;> rfl
        rw [ep] at q
        rw [hm']
        refine iteF ⟨_, rfl, p, _, dx, _, _, rfl, h2, T.cl, T.nAt, rf_at _ _, _, _, rfl, rfl, _, rfl, p, _, dx, _, rfl, h2, T.cl, T.nAt, rf_few _ _, ?_⟩
        exact q _ _ (R1.step h2) ((Fr.of s1).trans fr_upd) rfl
    · refine ⟨_, rfl, p, _, dx, _, _, rfl, h1, T.cl, T.nAt, rf_at _ _, _, _, rfl, rfl, _, rfl, p, _, dx, _, rfl, h1, T.cl, T.nAt, rf_few _ _, ?_⟩
      have R2 := R.step h1
      have fr2 := fr_upd (p := p) (H := H) (o := .ins (RC K) dx (putF "at" (.int (((data.length - (c :: r).length : Nat) : Int) + 1)) (rf l ((data.length - (c :: r).length : Nat) : Int))))
      generalize upd H p (.ins (RC K) dx (putF "at" (.int (((data.length - (c :: r).length : Nat) : Int) + 1)) (rf l ((data.length - (c :: r).length : Nat) : Int)))) = H2 at R2 fr2
      obtain ⟨dy, h2⟩ := R2.ob
      have hrl : r.length ≤ 100000 := Nat.le_trans R2.le R2.small
      refine ⟨_, rfl, rfl, _, rfl, ifI (fun e => ?_) (fun e2 => ?_)⟩
      · subst e
        have ep : plainV 47 (47 :: r) = (some (.name (unesc (takeR r))), dropR r) := by
          unfold plainV
          rw [if_neg (by decide), if_pos rfl] <;> rfl
        rw [ep] at q
        refine ⟨_, rfl, p, dy, _, rfl, h2, rf_no _ _ (by decide +kernel) (by decide +kernel), p, l, data, r, rfl, R2, fun a H3 na ha R3 fr3 => ?_⟩
        refine ⟨a, takeR r, rfl, SqL.of ha, Nat.le_trans (tw_le _ _) hrl, fun t H4 nt s4 ht => ⟨by show 2 ≤ sizeLine; decide, fun u nu => ?_⟩⟩
        have sU := same_new (o := .tup [V.str "name", V.ref t]) nu
        exact q _ _ ((R3.same s4).same sU) (fr2.trans (fr3.trans (Fr.of (s4.trans sU)))) (.name upd_same (sU _ _ ht))
      · refine ⟨_, rfl, rfl, _, rfl, ifI (fun e => ?_) (fun e3 => ?_)⟩
        · subst e
          have ep : plainV 40 (40 :: r) = (some (.text (pText 1 r).1), (pText 1 r).2) := by
            unfold plainV
            rw [if_neg (by decide), if_neg (by decide), if_pos rfl] <;> rfl
          rw [ep] at q
          refine ⟨_, rfl, p, dy, _, rfl, h2, rf_no _ _ (by decide +kernel) (by decide +kernel), p, l, data, r, rfl, R2, fun t H3 nt ht R3 fr3 => ⟨by show 2 ≤ sizeLine; decide, fun u nu => ?_⟩⟩
          have sU := same_new (o := .tup [V.str "text", V.ref t]) nu
          exact q _ _ (R3.same sU) (fr2.trans (fr3.trans (Fr.of sU))) (.text upd_same (sU _ _ ht))
        · have ep : plainV c (c :: r) = (some (.text (hexBytes (r.takeWhile fun x => decide (x ≠ 62)))), (r.dropWhile fun x => decide (x ≠ 62)).drop 1) := by
            unfold plainV
            rw [if_neg e1, if_neg e2, if_neg e3] <;> rfl
          rw [ep] at q
          refine ⟨_, rfl, p, _, dy, _, _, rfl, h2, T.cl, T.nAt, rf_at _ _, ?_⟩
          have sf2 : ∃ pre, data = pre ++ r.dropWhile (fun x => decide (x ≠ 62)) := sfx_dw _ R2.sfx
          refine ⟨fun σ' H' => σ' = [some (.ref p), some (.int c), some (.int ((data.length - r.length : Nat) : Int)), none] ∧ RAt (RC K) p l data (r.dropWhile fun x => decide (x ≠ 62)) H' ∧ Fr p H H', ?_, ?_⟩
          · refine ⟨fun m σ H' => ∃ s, σ = [some (.ref p), some (.int c), some (.int ((data.length - r.length : Nat) : Int)), none] ∧ m = s.length ∧ RAt (RC K) p l data s H' ∧ (r.dropWhile fun x => decide (x ≠ 62)) = (s.dropWhile fun x => decide (x ≠ 62)) ∧ Fr p H H', ⟨_, r, rfl, rfl, R2, rfl, fr2⟩, ?_⟩
            rintro m σ H' ⟨s, rfl, rfl, R, e, fr⟩
            obtain ⟨dz, h3⟩ := R.ob
            refine ⟨_, rfl, p, dz, _, rfl, h3, rf_no _ _ (by decide +kernel) (by decide +kernel), p, l, data, s, rfl, R, _, _, rfl, rfl, _, rfl, ite2 (fun z => ?_) (fun z => ?_)⟩
            · cases s with
              | nil =>
                have : (0 : Int) ≤ -1 := of_decide_eq_true z
                omega
              | cons d t =>
                refine ⟨_, rfl, p, dz, _, rfl, h3, rf_no _ _ (by decide +kernel) (by decide +kernel), p, l, data, d :: t, rfl, R, rfl, _, rfl, ifN (fun z2 => ?_) (fun z2 => ?_)⟩
                · refine ⟨fun σ3 H3 => ∃ s, σ3 = [some (.ref p), some (.int c), some (.int ((data.length - r.length : Nat) : Int)), none] ∧ s.length < (d :: t).length ∧ RAt (RC K) p l data s H3 ∧ (r.dropWhile fun x => decide (x ≠ 62)) = (s.dropWhile fun x => decide (x ≠ 62)) ∧ Fr p H H3, fun σ3 H3 ⟨s, e1, e2, e3⟩ => ⟨s.length, e2, s, e1, rfl, e3⟩, ?_⟩
                  refine ⟨_, rfl, p, _, dz, _, _, rfl, h3, T.cl, T.nAt, rf_at _ _, _, _, rfl, rfl, _, rfl, p, _, dz, _, rfl, h3, T.cl, T.nAt, rf_few _ _, t, rfl, by simp, R.step h3, ?_, fr.trans fr_upd⟩
                  have z3 : d ≠ 62 := z2
                  rw [e, List.dropWhile_cons, if_pos (decide_eq_true z3)]
                · have z3 : d = 62 := z2
                  have e4 : (d :: t).dropWhile (fun x => decide (x ≠ 62)) = d :: t := by
                    rw [List.dropWhile_cons, if_neg (by rw [z3]; decide)]
                  rw [e4] at e
                  exact ⟨rfl, by rw [e]; exact R, fr⟩
            · cases s with
              | nil => exact ⟨rfl, by rw [e]; exact R, fr⟩
              | cons d t => exact absurd (decide_eq_true (show (0 : Int) ≤ d from (R.sb (b := d) List.mem_cons_self).1)) z
          · rintro σ' H3 ⟨rfl, R3, fr3⟩
            obtain ⟨dz, h3⟩ := R3.ob
            have R2r := R2.sfx
            refine ⟨_, rfl, p, _, dz, _, _, rfl, h3, T.cl, T.nData, rf_data _ _, _, ⟨rfl, _, rfl, _, rfl, p, _, dz, _, _, rfl, h3, T.cl, T.nAt, rf_at _ _, _, rfl, l, _, rfl, SqL.of R3.lst, fun u nu => ?_⟩⟩
            have ecut := cut_between (data := data) (s := r) (t := r.dropWhile fun x => decide (x ≠ 62)) (pre := r.takeWhile fun x => decide (x ≠ 62)) R2.sfx (by rw [List.takeWhile_append_dropWhile])
            have hu : (upd H3 u (.lst (cutV (data.map V.int) (some ((data.length - r.length : Nat) : Int)) (some ((data.length - (r.dropWhile fun x => decide (x ≠ 62)).length : Nat) : Int))))) u = some (.lst ((r.takeWhile fun x => decide (x ≠ 62)).map V.int)) := by rw [upd_same, ecut]
            have sU := same_new (o := .lst (cutV (data.map V.int) (some ((data.length - r.length : Nat) : Int)) (some ((data.length - (r.dropWhile fun x => decide (x ≠ 62)).length : Nat) : Int)))) nu
            generalize upd H3 u (.lst (cutV (data.map V.int) (some ((data.length - r.length : Nat) : Int)) (some ((data.length - (r.dropWhile fun x => decide (x ≠ 62)).length : Nat) : Int)))) = H4 at hu sU
            refine ⟨u, _, rfl, SqL.of hu, Nat.le_trans (tw_le _ _) hrl, fun t H5 nt s5 ht => ?_⟩
            have s35 := sU.trans s5
            have R5 := R3.same s35
            have h5 := s35 _ _ h3
            generalize hd : (r.dropWhile fun x => decide (x ≠ 62)) = d at R5 h5 q sf2
            refine ⟨_, rfl, p, _, dz, _, _, rfl, h5, T.cl, T.nAt, rf_at _ _, _, _, rfl, rfl, _, rfl, p, _, dz, _, _, rfl, h5, T.cl, T.nData, rf_data _ _, l, _, rfl, .inl (SqL.of R5.lst), _, _, rfl, _, rfl, p, _, dz, _, rfl, h5, T.cl, T.nAt, rf_few _ _, ?_⟩
            have R6 : RAt (RC K) p l data (d.drop 1) (upd H5 p (.ins (RC K) dz (putF "at" (.int (if ((data.map V.int).length : Int) < ((data.length - d.length : Nat) : Int) + 1 then ((data.map V.int).length : Int) else ((data.length - d.length : Nat) : Int) + 1)) (rf l ((data.length - d.length : Nat) : Int))))) := by
              refine R5.move h5 (sfx_drop 1 sf2) ?_
              have := R5.le
              rw [List.length_map, List.length_drop]
              split <;> omega
            have fr6 := fr_upd (p := p) (H := H5) (o := .ins (RC K) dz (putF "at" (.int (if ((data.map V.int).length : Int) < ((data.length - d.length : Nat) : Int) + 1 then ((data.map V.int).length : Int) else ((data.length - d.length : Nat) : Int) + 1)) (rf l ((data.length - d.length : Nat) : Int))))
            have htp : t ≠ p := ne_of ht h5 (by intro z; cases z)
            have ht6 := fr6 _ _ ht htp
            generalize upd H5 p (.ins (RC K) dz (putF "at" (.int (if ((data.map V.int).length : Int) < ((data.length - d.length : Nat) : Int) + 1 then ((data.map V.int).length : Int) else ((data.length - d.length : Nat) : Int) + 1)) (rf l ((data.length - d.length : Nat) : Int)))) = H6 at R6 fr6 ht6
            refine ⟨_, rfl, t, _, rfl, .inl ⟨SqL.of ht6, fun x nx => ⟨by show 2 ≤ sizeLine; decide, fun y ny => ?_⟩⟩⟩
            have sX := same_new (o := .tup ((hexBytes (r.takeWhile fun x => decide (x ≠ 62))).map V.int)) nx
            have sY := same_new (o := .tup [V.str "text", V.ref x]) ny
            exact q _ _ (R6.same (sX.trans sY)) (fr3.trans ((Fr.of s35).trans (fr6.trans (Fr.of (sX.trans sY))))) (.text upd_same (sY _ _ upd_same))
end
end K22

set_option maxHeartbeats 4000000
/-! stream_data, stream_value -/
namespace K22
open PySem PySem.Spec PyProof.Rows L2
theorem ifNL {xs ys : List Int} {A B : Prop} (a : xs ≠ ys → A) (b : xs = ys → B) : if (!PyData.eqv (.list (xs.map PyData.int)) (.list (ys.map PyData.int))) = true then A else B := by
  rw [eqv_list_ints]
  by_cases h : xs = ys
  · rw [decide_eq_true h]
    exact iteF (b h)
  · rw [decide_eq_false h]
    exact iteT (a h)
theorem cut_two {data s : List Int} {i : Int} {e : Nat} (hi : i = (e : Int)) (h : data.drop e = s) : cutV (data.map V.int) (some i) (some (i + 2)) = (s.take 2).map V.int := by
  rw [hi, show ((e : Int) + 2) = ((e + 2 : Nat) : Int) by omega, cut_ints, h, Nat.add_sub_cancel_left]
theorem cut_one {data s : List Int} {i : Int} {e : Nat} (hi : i = (e : Int)) (h : data.drop e = s) : cutV (data.map V.int) (some i) (some (i + 1)) = (s.take 1).map V.int := by
  rw [hi, show ((e : Int) + 1) = ((e + 1 : Nat) : Int) by omega, cut_ints, h, Nat.add_sub_cancel_left]
theorem bounded_nn_from : ∀ (ds : List Int) (n : Int), 0 ≤ n → ds.all isDigit = true → 0 ≤ ds.foldl (fun n c => min (10 * n + c - 48) 2147483648) n
  | [], n, h, _ => h
  | c :: ds, n, h, hd => by
    rw [List.all_cons, Bool.and_eq_true] at hd
    have hc : 48 ≤ c ∧ c ≤ 57 := of_decide_eq_true hd.1
    refine bounded_nn_from ds _ ?_ hd.2
    show 0 ≤ min (10 * n + c - 48) 2147483648
    omega
theorem bounded_nn {ds : List Int} (h : ds.all isDigit = true) : 0 ≤ bounded ds := bounded_nn_from ds 0 (Int.le_refl _) h
theorem findC_hit {s : List Int} (h : s.take 2 = [123, 125]) : findC s = ([], s.drop 2) := by
  match s with
  | [] => cases h
  | c :: r =>
    unfold findC
    rw [if_pos h] <;> rfl
theorem findC_next {c : Int} {r : List Int} (h : (c :: r).take 2 ≠ [123, 125]) : findC (c :: r) = (c :: (findC r).1, (findC r).2) := by
  conv => lhs; unfold findC
  rw [if_neg h]
section
variable {P : Program} {w : World} {K : PySem.W.Frag} {mg : Str → Option Value} {base : Heap}
def spStreamD (C : Addr) : Sp := fun vs H Q _ => ∃ (p l t d : Addr) (data s0 r ds : List Int) (us : List V) (ps : List (List Int × Val)), vs = [.ref p, .ref t, .ref d, .int ((data.length - r.length : Nat) : Int)] ∧ RAt C p l data s0 H ∧ (∃ pre, data = pre ++ r) ∧
  H t = some (.tup us) ∧ RepP H us ps ∧ H d = some (.lst (ds.map V.int)) ∧ ds.all isDigit = true ∧ ds.length ≤ 9 ∧
  ∀ u H', RAt C p l data (streamD ps ds r).2 H' → Fr p H H' → Rep H' u (streamD ps ds r).1 → Q u H'
theorem sc_stream_data : FnScope ["self", "pairs", "digits", "start", "closing", "end"] ["self", "pairs", "digits", "start"] (defScope m_stream_data) := ⟨rfl, rfl, rfl, by decide +kernel, rfl, by decide +kernel, by decide +kernel⟩
theorem ok_stream_data (T : Tx K mg) : CalM P w K mg base (RC K) "stream_data" 2 ["self", "pairs", "digits", "start"] (spStreamD (RC K)) := by
  obtain ⟨fd, F⟩ := T.FM_stream_data
  refine ⟨_, fd, F.ok sc_stream_data (fun vs H Q E h => ?_) (fun cdv A outer s H vs Q E hr h => ?_), T.M_stream_data, F.binds fun _ _ _ _ _ _ us hl => match us, hl with | [_, _, _, _], _ => rfl⟩
  · obtain ⟨p, l, t, d, data, s0, r, ds, us, ps, rfl, _⟩ := h
    rfl
  · obtain ⟨p, l, t, d, data, s0, r, ds, us, ps, rfl, R, hsf, ht, hps, hd, hdg, hd9, q⟩ := h
    obtain ⟨dx, h1⟩ := R.ob
    have hb0 := bounded_nn hdg
    have hrl := sfx_len hsf
    have hdr := sfx_at hsf
    refine ⟨_, pss_cons (ps_set (i := 4) sc_stream_data.nd rfl (.inl rfl) (pe_lst (pa_cons (pe_gi T.i_OPEN_DATA) (pa_cons (pe_gi T.i_CLOSE_DATA) pa_nil))))
      (pss_cons (ps_set (i := 5) sc_stream_data.nd rfl (.inl rfl) (pv 3))
      (C8.pss_cut (ps_if (pt_cmpR op_gt (pe_callB call_len_seq (by rfl) T.fr_len PySem.boot_len (pa_cons (pv 2) pa_nil)) pe_int (nomark _))
        (pss_one (ps_set (i := 5) sc_stream_data.nd rfl (.inl rfl) (pe_op op_add (pv 3) (pe_cal (ok_bounded_number T) hr (pa_cons (pv 2) pa_nil))))) pss_nil)
      (C8.pss_cut (ps_if (PW.pt (pw_or (pt_cmpR op_eq (pe_callB call_len_seq (by rfl) T.fr_len PySem.boot_len (pa_cons (pv 2) pa_nil)) pe_int (nomark _))
          (pw_or1 (pt_cmpR (op_neD hr.units) (pe_slice sl_list (pe_fld (pv 0) rfl) (po_some (pv 5)) (po_some (pe_op op_add (pv 5) pe_int))) (pv 4) (nomark _)))))
        (pss_cons (ps_set (i := 5) sc_stream_data.nd rfl (.inl rfl) (pv 3))
          (pss_one (ps_while PassesOwn.never (PW.pt (pw_and (pt_cmpR op_lt (pv 5) (pe_callB call_len_seq (by rfl) T.fr_len PySem.boot_len (pa_cons (pe_fld (pv 0) rfl) pa_nil)) (nomark _))
              (pw_and1 (pt_cmpR (op_neD hr.units) (pe_slice sl_list (pe_fld (pv 0) rfl) (po_some (pv 5)) (po_some (pe_op op_add (pv 5) pe_int))) (pv 4) (nomark _)))))
            (pss_one (ps_set (i := 5) sc_stream_data.nd rfl (.inl rfl) (pe_op op_add (pv 5) pe_int)))))) pss_nil)
      (pss_cons (ps_fld (pv 0) (pe_callB (call_min2 rfl) (by rfl) T.fr_min (by decide +kernel) (pa_cons (pe_op op_add (pv 5) pe_int) (pa_cons (pe_callB call_len_seq (by rfl) T.fr_len PySem.boot_len (pa_cons (pe_fld (pv 0) rfl) pa_nil)) pa_nil))) rfl)
      (pss_one (ps_ret (pe_tup (pa_cons pe_str (pa_cons (pv 1) (pa_cons (pe_callTy call_tuple_of (by rfl) T.fr_tuple (by decide +kernel) (pa_cons (pe_slice sl_list (pe_fld (pv 0) rfl) (po_some (pv 3)) (po_some (pv 5))) pa_nil)) pa_nil)))))))))), ?_⟩
    refine ⟨by show 2 ≤ sizeLine; decide, fun cl ncl => ?_⟩
    have sC := same_new (o := .lst [V.int 123, V.int 125]) ncl
    have hC : (upd H cl (.lst [V.int 123, V.int 125])) cl = some (.lst (([123, 125] : List Int).map V.int)) := upd_same
    generalize upd H cl (.lst [V.int 123, V.int 125]) = H1 at sC hC
    have hd1 := sC _ _ hd
    refine ⟨_, rfl, ?_⟩
    refine ⟨fun σ' H' => H' = H1 ∧ ∃ e : Int, e = ((data.length - r.length : Nat) : Int) + bounded ds ∧ σ' = [some (.ref p), some (.ref t), some (.ref d), some (.int ((data.length - r.length : Nat) : Int)), some (.ref cl), some (.int e)], ?_, ?_⟩
    · refine ⟨_, rfl, d, _, rfl, .inl (SqL.of hd1), _, _, rfl, rfl, _, rfl, ite2 (fun z => ?_) (fun z => ?_)⟩
      · refine ⟨_, rfl, _, rfl, d, ds, rfl, SqL.of hd1, _, _, rfl, rfl, rfl, _, rfl, rfl⟩
      · have z' : ¬ ((ds.map V.int).length : Int) > 0 := fun y => z (decide_eq_true y)
        rw [List.length_map] at z'
        have e0 : ds = [] := List.length_eq_zero_iff.mp (by omega)
        refine ⟨rfl, _, ?_, rfl⟩
        rw [e0]
        show _ = _ + (0 : Int)
        omega
    · rintro σ' H' ⟨rfl, e, he, rfl⟩
      refine ⟨fun σ' H3 => Same H H3 ∧ ∃ pre s : List Int, r = pre ++ s ∧ streamD ps ds r = (.stream ps pre, s.drop 2) ∧ σ' = [some (.ref p), some (.ref t), some (.ref d), some (.int ((data.length - r.length : Nat) : Int)), some (.ref cl), some (.int ((data.length - s.length : Nat) : Int))], ?_, ?_⟩
      · have el : ((ds.map V.int).length : Int) = (ds.length : Int) := by rw [List.length_map]
        refine ⟨_, rfl, d, _, rfl, .inl (SqL.of hd1), rfl, _, rfl, ite2 (fun z => ?_) (fun z => ?_)⟩
        · have z' : ((ds.map V.int).length : Int) = 0 := V.int.inj (of_decide_eq_true z)
          have hn : ¬ (0 < ds.length ∧ (r.drop (bounded ds).toNat).take 2 = [123, 125]) := fun y => by omega
          have esd : streamD ps ds r = (.stream ps (findC r).1, (findC r).2) := by
            unfold streamD
            rw [if_neg hn]
          refine ⟨_, rfl, ?_⟩
          refine ⟨fun m σ H3 => ∃ s pre : List Int, σ = [some (.ref p), some (.ref t), some (.ref d), some (.int ((data.length - r.length : Nat) : Int)), some (.ref cl), some (.int ((data.length - s.length : Nat) : Int))] ∧ m = s.length ∧ Same H' H3 ∧ r = pre ++ s ∧ findC r = (pre ++ (findC s).1, (findC s).2), ⟨_, r, [], rfl, rfl, Same.refl _, rfl, rfl⟩, ?_⟩
          rintro m σ H3 ⟨s, pre, rfl, rfl, s3, e0, ef⟩
          have sA : Same H' H3 := (Same.refl H').trans s3
          have hsf2 : ∃ q, data = q ++ s := by
            obtain ⟨q, hq⟩ := hsf
            exact ⟨q ++ pre, by rw [hq, e0, List.append_assoc]⟩
          have hsl := sfx_len hsf2
          have h3 := sA _ _ (sC _ _ h1)
          have R3 := (R.same sC).same sA
          have fin : s.take 2 = [123, 125] ∨ s = [] → Same H H3 ∧ ∃ pre' s' : List Int, r = pre' ++ s' ∧ streamD ps ds r = (.stream ps pre', s'.drop 2) ∧ ([some (.ref p), some (.ref t), some (.ref d), some (.int ((data.length - r.length : Nat) : Int)), some (.ref cl), some (.int ((data.length - s.length : Nat) : Int))] : L2.St) = [some (.ref p), some (.ref t), some (.ref d), some (.int ((data.length - r.length : Nat) : Int)), some (.ref cl), some (.int ((data.length - s'.length : Nat) : Int))] := by
            intro hh
            have e2 : findC s = ([], s.drop 2) := by
              rcases hh with hh | hh
              · exact findC_hit hh
              · rw [hh] <;> rfl
            rw [e2, List.append_nil] at ef
            exact ⟨sC.trans sA, pre, s, e0, by rw [esd, ef], rfl⟩
          refine ⟨_, rfl, _, rfl, p, _, dx, _, _, rfl, h3, T.cl, T.nData, rf_data _ _, l, _, rfl, .inl (SqL.of R3.lst), _, _, rfl, rfl, _, rfl, ite2 (fun z => ?_) (fun z => ?_)⟩
          · refine ⟨_, rfl, p, _, dx, _, _, rfl, h3, T.cl, T.nData, rf_data _ _, _, ⟨rfl, _, rfl, _, rfl, _, _, rfl, rfl, _, rfl, l, _, rfl, SqL.of R3.lst, fun u nu => ?_⟩⟩
            have ec := cut_two (data := data) (s := s) (i := ((data.length - s.length : Nat) : Int)) rfl (sfx_at hsf2)
            have hu : (upd H3 u (.lst (cutV (data.map V.int) (some ((data.length - s.length : Nat) : Int)) (some (((data.length - s.length : Nat) : Int) + 2))))) u = some (.lst ((s.take 2).map V.int)) := by rw [upd_same, ec]
            have sU := same_new (o := .lst (cutV (data.map V.int) (some ((data.length - s.length : Nat) : Int)) (some (((data.length - s.length : Nat) : Int) + 2)))) nu
            generalize upd H3 u (.lst (cutV (data.map V.int) (some ((data.length - s.length : Nat) : Int)) (some (((data.length - s.length : Nat) : Int) + 2)))) = H4 at hu sU
            refine ⟨_, rfl, _, _, .lst (SqL.of hu) (dp_all_ints (s.take 2)), .lst (SqL.of (sU _ _ (sA _ _ hC))) (dp_all_ints [123, 125]), shaped_list _, shaped_list _, _, rfl, ifNL (fun z2 => ?_) (fun z2 => ?_)⟩
            · cases s with
              | nil =>
                have z' : ((data.length - 0 : Nat) : Int) < ((data.map V.int).length : Int) := of_decide_eq_true z
                rw [List.length_map] at z'
                omega
              | cons c u2 =>
                refine ⟨fun σ5 H5 => ∃ s pre : List Int, σ5 = [some (.ref p), some (.ref t), some (.ref d), some (.int ((data.length - r.length : Nat) : Int)), some (.ref cl), some (.int ((data.length - s.length : Nat) : Int))] ∧ s.length < (c :: u2).length ∧ Same H' H5 ∧ r = pre ++ s ∧ findC r = (pre ++ (findC s).1, (findC s).2), fun σ5 H5 ⟨s, pre, e1, e2, e3⟩ => ⟨s.length, e2, s, pre, e1, rfl, e3⟩, ?_⟩
                refine ⟨_, rfl, _, _, rfl, rfl, u2, pre ++ [c], ?_, by simp, s3.trans sU, by rw [e0]; simp, ?_⟩
                · have e9 : ((data.length - (c :: u2).length : Nat) : Int) + 1 = ((data.length - u2.length : Nat) : Int) := by
                    simp only [List.length_cons] at hsl ⊢
                    omega
                  rw [← e9] <;> rfl
                · rw [ef, findC_next z2]
                  simp
            · obtain ⟨a1, a2, a3, a4, a5⟩ := fin (.inl z2)
              exact ⟨a1.trans sU, a2, a3, a4, a5⟩
          · refine fin (.inr ?_)
            have z' : ¬ ((data.length - s.length : Nat) : Int) < ((data.map V.int).length : Int) := fun y => z (decide_eq_true y)
            rw [List.length_map] at z'
            exact List.length_eq_zero_iff.mp (by omega)
        · have z' : ¬ ((ds.map V.int).length : Int) = 0 := fun y => z (decide_eq_true (congrArg V.int y))
          have h2 := sC _ _ h1
          have R2 := R.same sC
          refine ⟨_, rfl, p, _, dx, _, _, rfl, h2, T.cl, T.nData, rf_data _ _, _, ⟨rfl, _, rfl, _, rfl, _, _, rfl, rfl, _, rfl, l, _, rfl, SqL.of R2.lst, fun u nu => ?_⟩⟩
          have hed : data.drop (data.length - r.length + (bounded ds).toNat) = r.drop (bounded ds).toNat := by rw [← List.drop_drop, hdr]
          have hei : e = ((data.length - r.length + (bounded ds).toNat : Nat) : Int) := by omega
          have ec := cut_two hei hed
          have hu : (upd H' u (.lst (cutV (data.map V.int) (some e) (some (e + 2))))) u = some (.lst (((r.drop (bounded ds).toNat).take 2).map V.int)) := by rw [upd_same, ec]
          have sU := same_new (o := .lst (cutV (data.map V.int) (some e) (some (e + 2)))) nu
          generalize upd H' u (.lst (cutV (data.map V.int) (some e) (some (e + 2)))) = HX at hu sU
          refine ⟨_, rfl, _, _, .lst (SqL.of hu) (dp_all_ints ((r.drop (bounded ds).toNat).take 2)), .lst (SqL.of (sU _ _ hC)) (dp_all_ints [123, 125]), shaped_list _, shaped_list _, _, rfl, ifNL (fun z2 => ?_) (fun z2 => ?_)⟩
          · have hn : ¬ (0 < ds.length ∧ (r.drop (bounded ds).toNat).take 2 = [123, 125]) := fun y => z2 y.2
            have esd : streamD ps ds r = (.stream ps (findC r).1, (findC r).2) := by
              unfold streamD
              rw [if_neg hn]
            refine ⟨_, rfl, ?_⟩
            refine ⟨fun m σ H3 => ∃ s pre : List Int, σ = [some (.ref p), some (.ref t), some (.ref d), some (.int ((data.length - r.length : Nat) : Int)), some (.ref cl), some (.int ((data.length - s.length : Nat) : Int))] ∧ m = s.length ∧ Same HX H3 ∧ r = pre ++ s ∧ findC r = (pre ++ (findC s).1, (findC s).2), ⟨_, r, [], rfl, rfl, Same.refl _, rfl, rfl⟩, ?_⟩
            rintro m σ H3 ⟨s, pre, rfl, rfl, s3, e0, ef⟩
            have sA : Same H' H3 := sU.trans s3
            have hsf2 : ∃ q, data = q ++ s := by
              obtain ⟨q, hq⟩ := hsf
              exact ⟨q ++ pre, by rw [hq, e0, List.append_assoc]⟩
            have hsl := sfx_len hsf2
            have h3 := sA _ _ (sC _ _ h1)
            have R3 := (R.same sC).same sA
            have fin : s.take 2 = [123, 125] ∨ s = [] → Same H H3 ∧ ∃ pre' s' : List Int, r = pre' ++ s' ∧ streamD ps ds r = (.stream ps pre', s'.drop 2) ∧ ([some (.ref p), some (.ref t), some (.ref d), some (.int ((data.length - r.length : Nat) : Int)), some (.ref cl), some (.int ((data.length - s.length : Nat) : Int))] : L2.St) = [some (.ref p), some (.ref t), some (.ref d), some (.int ((data.length - r.length : Nat) : Int)), some (.ref cl), some (.int ((data.length - s'.length : Nat) : Int))] := by
              intro hh
              have e2 : findC s = ([], s.drop 2) := by
                rcases hh with hh | hh
                · exact findC_hit hh
                · rw [hh] <;> rfl
              rw [e2, List.append_nil] at ef
              exact ⟨sC.trans sA, pre, s, e0, by rw [esd, ef], rfl⟩
            refine ⟨_, rfl, _, rfl, p, _, dx, _, _, rfl, h3, T.cl, T.nData, rf_data _ _, l, _, rfl, .inl (SqL.of R3.lst), _, _, rfl, rfl, _, rfl, ite2 (fun z => ?_) (fun z => ?_)⟩
            · refine ⟨_, rfl, p, _, dx, _, _, rfl, h3, T.cl, T.nData, rf_data _ _, _, ⟨rfl, _, rfl, _, rfl, _, _, rfl, rfl, _, rfl, l, _, rfl, SqL.of R3.lst, fun u nu => ?_⟩⟩
              have ec := cut_two (data := data) (s := s) (i := ((data.length - s.length : Nat) : Int)) rfl (sfx_at hsf2)
              have hu : (upd H3 u (.lst (cutV (data.map V.int) (some ((data.length - s.length : Nat) : Int)) (some (((data.length - s.length : Nat) : Int) + 2))))) u = some (.lst ((s.take 2).map V.int)) := by rw [upd_same, ec]
              have sU := same_new (o := .lst (cutV (data.map V.int) (some ((data.length - s.length : Nat) : Int)) (some (((data.length - s.length : Nat) : Int) + 2)))) nu
              generalize upd H3 u (.lst (cutV (data.map V.int) (some ((data.length - s.length : Nat) : Int)) (some (((data.length - s.length : Nat) : Int) + 2)))) = H4 at hu sU
              refine ⟨_, rfl, _, _, .lst (SqL.of hu) (dp_all_ints (s.take 2)), .lst (SqL.of (sU _ _ (sA _ _ hC))) (dp_all_ints [123, 125]), shaped_list _, shaped_list _, _, rfl, ifNL (fun z2 => ?_) (fun z2 => ?_)⟩
              · cases s with
                | nil =>
                  have z' : ((data.length - 0 : Nat) : Int) < ((data.map V.int).length : Int) := of_decide_eq_true z
                  rw [List.length_map] at z'
                  omega
                | cons c u2 =>
                  refine ⟨fun σ5 H5 => ∃ s pre : List Int, σ5 = [some (.ref p), some (.ref t), some (.ref d), some (.int ((data.length - r.length : Nat) : Int)), some (.ref cl), some (.int ((data.length - s.length : Nat) : Int))] ∧ s.length < (c :: u2).length ∧ Same HX H5 ∧ r = pre ++ s ∧ findC r = (pre ++ (findC s).1, (findC s).2), fun σ5 H5 ⟨s, pre, e1, e2, e3⟩ => ⟨s.length, e2, s, pre, e1, rfl, e3⟩, ?_⟩
                  refine ⟨_, rfl, _, _, rfl, rfl, u2, pre ++ [c], ?_, by simp, s3.trans sU, by rw [e0]; simp, ?_⟩
                  · have e9 : ((data.length - (c :: u2).length : Nat) : Int) + 1 = ((data.length - u2.length : Nat) : Int) := by
                      simp only [List.length_cons] at hsl ⊢
                      omega
                    rw [← e9] <;> rfl
                  · rw [ef, findC_next z2]
                    simp
              · obtain ⟨a1, a2, a3, a4, a5⟩ := fin (.inl z2)
                exact ⟨a1.trans sU, a2, a3, a4, a5⟩
            · refine fin (.inr ?_)
              have z' : ¬ ((data.length - s.length : Nat) : Int) < ((data.map V.int).length : Int) := fun y => z (decide_eq_true y)
              rw [List.length_map] at z'
              exact List.length_eq_zero_iff.mp (by omega)
          · have hy : 0 < ds.length ∧ (r.drop (bounded ds).toNat).take 2 = [123, 125] := ⟨by omega, z2⟩
            have hl2 := congrArg List.length z2
            rw [List.length_take, List.length_drop] at hl2
            simp only [List.length_cons, List.length_nil] at hl2
            refine ⟨sC.trans sU, r.take (bounded ds).toNat, r.drop (bounded ds).toNat, (List.take_append_drop _ _).symm, ?_, ?_⟩
            · unfold streamD
              rw [if_pos hy, List.drop_drop]
            · have : e = ((data.length - (r.drop (bounded ds).toNat).length : Nat) : Int) := by
                rw [List.length_drop]
                omega
              rw [← this]
      · rintro σ' H2 ⟨s2, pre, s, e0, es, rfl⟩
        have h2 := s2 _ _ h1
        have R2 := R.same s2
        have hsf2 : ∃ q, data = q ++ s := by
          obtain ⟨q, hq⟩ := hsf
          exact ⟨q ++ pre, by rw [hq, e0, List.append_assoc]⟩
        have hsl := sfx_len hsf2
        rw [es] at q
        refine ⟨_, rfl, _, _, rfl, rfl, _, rfl, p, _, dx, _, _, rfl, h2, T.cl, T.nData, rf_data _ _, l, _, rfl, .inl (SqL.of R2.lst), _, _, rfl, _, rfl, p, _, dx, _, rfl, h2, T.cl, T.nAt, rf_few _ _, ?_⟩
        have R3 : RAt (RC K) p l data (s.drop 2) (upd H2 p (.ins (RC K) dx (putF "at" (.int (if ((data.map V.int).length : Int) < ((data.length - s.length : Nat) : Int) + 2 then ((data.map V.int).length : Int) else ((data.length - s.length : Nat) : Int) + 2)) (rf l ((data.length - s0.length : Nat) : Int))))) := by
          refine R2.move h2 (sfx_drop 2 hsf2) ?_
          rw [List.length_map, List.length_drop]
          split <;> omega
        have fr3 := fr_upd (p := p) (H := H2) (o := .ins (RC K) dx (putF "at" (.int (if ((data.map V.int).length : Int) < ((data.length - s.length : Nat) : Int) + 2 then ((data.map V.int).length : Int) else ((data.length - s.length : Nat) : Int) + 2)) (rf l ((data.length - s0.length : Nat) : Int))))
        have tk3 : TK H2 (upd H2 p (.ins (RC K) dx (putF "at" (.int (if ((data.map V.int).length : Int) < ((data.length - s.length : Nat) : Int) + 2 then ((data.map V.int).length : Int) else ((data.length - s.length : Nat) : Int) + 2)) (rf l ((data.length - s0.length : Nat) : Int))))) := TK.fr fr3 fun xs z => by rw [h2] at z; cases z
        generalize upd H2 p (.ins (RC K) dx (putF "at" (.int (if ((data.map V.int).length : Int) < ((data.length - s.length : Nat) : Int) + 2 then ((data.map V.int).length : Int) else ((data.length - s.length : Nat) : Int) + 2)) (rf l ((data.length - s0.length : Nat) : Int)))) = H3 at R3 fr3 tk3
        obtain ⟨dz, h3⟩ := R3.ob
        refine ⟨_, rfl, _, rfl, p, _, dz, _, _, rfl, h3, T.cl, T.nData, rf_data _ _, _, ⟨rfl, _, rfl, _, rfl, _, rfl, l, _, rfl, SqL.of R3.lst, fun u nu => ?_⟩⟩
        have ecut := cut_between (data := data) (s := r) (t := s) (pre := pre) hsf e0
        have hu : (upd H3 u (.lst (cutV (data.map V.int) (some ((data.length - r.length : Nat) : Int)) (some ((data.length - s.length : Nat) : Int))))) u = some (.lst (pre.map V.int)) := by rw [upd_same, ecut]
        have sU := same_new (o := .lst (cutV (data.map V.int) (some ((data.length - r.length : Nat) : Int)) (some ((data.length - s.length : Nat) : Int)))) nu
        generalize upd H3 u (.lst (cutV (data.map V.int) (some ((data.length - r.length : Nat) : Int)) (some ((data.length - s.length : Nat) : Int)))) = H4 at hu sU
        refine ⟨u, _, rfl, .inl ⟨SqL.of hu, fun x nx => ⟨by show 3 ≤ sizeLine; decide, fun y ny => ?_⟩⟩⟩
        have sX := same_new (o := .tup (pre.map V.int)) nx
        have sY := same_new (o := .tup [V.str "stream", V.ref t, V.ref x]) ny
        have sA : Same H3 _ := sU.trans (sX.trans sY)
        have tk : TK H _ := fun a xs z => sA _ _ (tk3 _ _ (s2 _ _ z))
        refine q _ _ (R3.same sA) ((Fr.of s2).trans (fr3.trans (Fr.of sA))) (.stream upd_same (tk _ _ ht) (RepP.keep tk hps) (sY _ _ upd_same))
end
end K22

set_option maxHeartbeats 4000000
/-! stream_value -/
namespace K22
open PySem PySem.Spec PyProof.Rows L2
theorem all_tw (f : Int → Bool) : ∀ l : List Int, (l.takeWhile f).all f = true
  | [] => rfl
  | c :: r => by
    rw [List.takeWhile_cons]
    split
    · rename_i h
      rw [List.all_cons, h, all_tw f r] <;> rfl
    · rfl
section
variable {P : Program} {w : World} {K : PySem.W.Frag} {mg : Str → Option Value} {base : Heap}
def spStreamV (C : Addr) : Sp := fun vs H Q _ => ∃ (p l t : Addr) (data s : List Int) (us : List V) (ps : List (List Int × Val)), vs = [.ref p, .ref t] ∧ RAt C p l data s H ∧
  H t = some (.tup us) ∧ RepP H us ps ∧ ∀ u H', RAt C p l data (streamV ps s).2 H' → Fr p H H' → Rep H' u (streamV ps s).1 → Q u H'
theorem sc_stream_value : FnScope ["self", "pairs", "end", "start", "stop", "digits"] ["self", "pairs"] (defScope m_stream_value) := ⟨rfl, rfl, rfl, by decide +kernel, rfl, by decide +kernel, by decide +kernel⟩
theorem ok_stream_value (T : Tx K mg) : CalM P w K mg base (RC K) "stream_value" 3 ["self", "pairs"] (spStreamV (RC K)) := by
  obtain ⟨fd, F⟩ := T.FM_stream_value
  refine ⟨_, fd, F.ok sc_stream_value (fun vs H Q E h => ?_) (fun cdv A outer s H vs Q E hr h => ?_), T.M_stream_value, F.binds fun _ _ _ _ _ _ us hl => match us, hl with | [_, _], _ => rfl⟩
  · obtain ⟨p, l, t, data, s, us, ps, rfl, _⟩ := h
    rfl
  · obtain ⟨p, l, t, data, s, us, ps, rfl, R, ht, hps, q⟩ := h
    obtain ⟨dx, h1⟩ := R.ob
    have hr1 : Room 1 _ := hr.mono (by decide)
    refine ⟨_, pss_cons (ps_set (i := 2) sc_stream_value.nd rfl (.inl rfl) (pe_fld (pv 0) rfl))
      (pss_cons (ps_expr (pe_mcal0 T.cl (ok_skip_white T) hr (pv 0)))
      (pss_cons (ps_set (i := 3) sc_stream_value.nd rfl (.inl rfl) (pe_fld (pv 0) rfl))
      (pss_cons (ps_fld (pv 0) (pv 2) rfl)
      (pss_cons (ps_set (i := 4) sc_stream_value.nd rfl (.inl rfl) (pe_op op_add (pv 3) pe_int))
      (C8.pss_cut (ps_while PassesOwn.never (PW.pt (pw_and (pt_cmpR op_lt (pv 4) (pe_callB call_len_seq (by rfl) T.fr_len PySem.boot_len (pa_cons (pe_fld (pv 0) rfl) pa_nil)) (nomark _))
          (pw_and1 (pt_val (pe_cal (ok_is_digit T) hr1 (pa_cons (pe_ix ix_list (pe_fld (pv 0) rfl) (pv 4) (fun _ _ => rfl)) pa_nil))))))
        (pss_one (ps_set (i := 4) sc_stream_value.nd rfl (.inl rfl) (pe_op op_add (pv 4) pe_int))))
      (pss_cons (ps_set (i := 5) sc_stream_value.nd rfl (.inl rfl) (pe_slice sl_list (pe_fld (pv 0) rfl) (po_some (pe_op op_add (pv 3) pe_int)) (po_some (pv 4))))
      (pss_cons (ps_if (PW.pt (pw_or (pt_cmpR (op_neD hr.units) (pe_slice sl_list (pe_fld (pv 0) rfl) (po_some (pv 3)) (po_some (pe_op op_add (pv 3) pe_int))) (pe_lst (pa_cons (pe_gi T.i_OPEN_DATA) pa_nil)) (nomark _))
          (pw_or (pt_cmpR (op_neD hr.units) (pe_slice sl_list (pe_fld (pv 0) rfl) (po_some (pv 4)) (po_some (pe_op op_add (pv 4) pe_int))) (pe_lst (pa_cons (pe_gi T.i_CLOSE_DATA) pa_nil)) (nomark _))
          (pw_or1 (pt_cmpR op_gt (pe_callB call_len_seq (by rfl) T.fr_len PySem.boot_len (pa_cons (pv 5) pa_nil)) pe_int (nomark _))))))
        (pss_one (ps_ret (pe_tup (pa_cons pe_str (pa_cons (pv 1) pa_nil))))) pss_nil)
      (pss_one (ps_ret (pe_mcal T.cl (ok_stream_data T) hr (pv 0) (pa_cons (pv 1) (pa_cons (pv 5) (pa_cons (pe_op op_add (pv 4) pe_int) pa_nil))))))))))))), ?_⟩
    refine ⟨_, rfl, p, _, dx, _, _, rfl, h1, T.cl, T.nAt, rf_at _ _, ?_⟩
    refine ⟨_, rfl, p, dx, _, rfl, h1, rf_no _ _ (by decide +kernel) (by decide +kernel), p, l, data, s, rfl, R, fun H1 R1 fr1 => ?_⟩
    have R1 : RAt (RC K) p l data (skipW s) H1 := R1
    obtain ⟨dy, h2⟩ := R1.ob
    have hwsf := R1.sfx
    generalize hw : skipW s = w0 at R1 h2 hwsf
    have hwl := sfx_len hwsf
    refine ⟨_, rfl, p, _, dy, _, _, rfl, h2, T.cl, T.nAt, rf_at _ _, _, rfl, _, rfl, p, _, dy, _, rfl, h2, T.cl, T.nAt, rf_few _ _, ?_⟩
    have R2 := R1.move h2 R.sfx (j := ((data.length - s.length : Nat) : Int)) rfl
    have fr2 := fr_upd (p := p) (H := H1) (o := .ins (RC K) dy (putF "at" (.int ((data.length - s.length : Nat) : Int)) (rf l ((data.length - w0.length : Nat) : Int))))
    generalize upd H1 p (.ins (RC K) dy (putF "at" (.int ((data.length - s.length : Nat) : Int)) (rf l ((data.length - w0.length : Nat) : Int)))) = H2 at R2 fr2
    have fr12 := fr1.trans fr2
    obtain ⟨dz, h3⟩ := R2.ob
    have tk12 : TK H H2 := TK.fr fr12 fun xs z => by rw [h1] at z; cases z
    have ed : data.drop (data.length - w0.length + 1) = w0.drop 1 := by rw [← List.drop_drop, sfx_at hwsf]
    generalize hi0 : data.length - w0.length + 1 = i0 at ed
    refine ⟨_, rfl, _, _, rfl, rfl, ?_⟩
    refine ⟨fun σ' H' => H' = H2 ∧ ∃ pre r, w0.drop 1 = pre ++ r ∧ (w0.drop 1).takeWhile isDigit = pre ∧ σ' = [some (.ref p), some (.ref t), some (.int ((data.length - s.length : Nat) : Int)), some (.int ((data.length - w0.length : Nat) : Int)), some (.int ((i0 + pre.length : Nat) : Int)), none], ?_, ?_⟩
    · refine ⟨fun m σ H' => ∃ r pre : List Int, σ = [some (.ref p), some (.ref t), some (.int ((data.length - s.length : Nat) : Int)), some (.int ((data.length - w0.length : Nat) : Int)), some (.int ((i0 + pre.length : Nat) : Int)), none] ∧ m = r.length ∧ H' = H2 ∧ w0.drop 1 = pre ++ r ∧ (w0.drop 1).takeWhile isDigit = pre ++ r.takeWhile isDigit,
      ⟨_, w0.drop 1, [], by rw [← hi0]; rfl, rfl, rfl, rfl, rfl⟩, ?_⟩
      rintro m σ H' ⟨r, pre, rfl, rfl, rfl, e0, et⟩
      have er : data.drop (i0 + pre.length) = r := drop_more (s := s) (by rw [ed, e0])
      have elen := congrArg List.length er
      rw [List.length_drop] at elen
      have hend : r.takeWhile isDigit = [] → H' = H' ∧ ∃ pre' r', w0.drop 1 = pre' ++ r' ∧ (w0.drop 1).takeWhile isDigit = pre' ∧ ([some (.ref p), some (.ref t), some (.int ((data.length - s.length : Nat) : Int)), some (.int ((data.length - w0.length : Nat) : Int)), some (.int ((i0 + pre.length : Nat) : Int)), none] : L2.St) = [some (.ref p), some (.ref t), some (.int ((data.length - s.length : Nat) : Int)), some (.int ((data.length - w0.length : Nat) : Int)), some (.int ((i0 + pre'.length : Nat) : Int)), none] := by
        intro hz
        rw [hz, List.append_nil] at et
        exact ⟨rfl, pre, r, e0, et, rfl⟩
      refine ⟨_, rfl, _, rfl, p, _, dz, _, _, rfl, h3, T.cl, T.nData, rf_data _ _, l, _, rfl, .inl (SqL.of R2.lst), _, _, rfl, rfl, _, rfl, ite2 (fun z => ?_) (fun z => ?_)⟩
      · have z' : ((i0 + pre.length : Nat) : Int) < ((data.map V.int).length : Int) := of_decide_eq_true z
        rw [List.length_map] at z'
        cases r with
        | nil => simp only [List.length_nil] at elen; omega
        | cons c t =>
          have hc : (data.map V.int)[i0 + pre.length]? = some (.int c) := by rw [List.getElem?_map, ← List.head?_drop, er] <;> rfl
          refine ⟨_, rfl, p, _, dz, _, _, rfl, h3, T.cl, T.nData, rf_data _ _, _, rfl, l, _, _, _, rfl, rfl, SqL.of R2.lst, atI_nat hc, c, rfl, _, rfl, ite2 (fun z2 => ?_) (fun z2 => ?_)⟩
          · have z2' : isDigit c = true := z2
            refine ⟨fun σ3 H3 => ∃ r pre : List Int, σ3 = [some (.ref p), some (.ref _), some (.int ((data.length - s.length : Nat) : Int)), some (.int ((data.length - w0.length : Nat) : Int)), some (.int ((i0 + pre.length : Nat) : Int)), none] ∧ r.length < (c :: t).length ∧ H3 = H' ∧ w0.drop 1 = pre ++ r ∧ (w0.drop 1).takeWhile isDigit = pre ++ r.takeWhile isDigit,
              fun σ3 H3 ⟨r, pre, e1, e2, e3⟩ => ⟨r.length, e2, r, pre, e1, rfl, e3⟩, ?_⟩
            refine ⟨_, rfl, _, _, rfl, rfl, t, pre ++ [c], ?_, by simp, rfl, by rw [e0]; simp, ?_⟩
            · rw [List.length_append, ← Nat.add_assoc] <;> rfl
            · rw [et, List.takeWhile_cons, if_pos z2']
              simp
          · refine hend ?_
            rw [List.takeWhile_cons, if_neg (show ¬ isDigit c = true from z2)]
      · refine hend ?_
        have z' : ¬ ((i0 + pre.length : Nat) : Int) < ((data.map V.int).length : Int) := fun y => z (decide_eq_true y)
        rw [List.length_map] at z'
        cases r with
        | nil => rfl
        | cons c t => simp only [List.length_cons] at elen; omega
    · rintro σ' H' ⟨rfl, pre, r, e0, et, rfl⟩
      have er : data.drop (i0 + pre.length) = r := drop_more (s := s) (by rw [ed, e0])
      have erd : (w0.drop 1).dropWhile isDigit = r := by
        have := List.takeWhile_append_dropWhile (p := isDigit) (l := w0.drop 1)
        rw [et] at this
        exact List.append_cancel_left (this.trans e0)
      refine ⟨_, rfl, p, _, dz, _, _, rfl, h3, T.cl, T.nData, rf_data _ _, _, ⟨rfl, _, _, rfl, rfl, _, rfl, _, rfl, _, rfl, l, _, rfl, SqL.of R2.lst, fun u nu => ?_⟩⟩
      have ec : cutV (data.map V.int) (some (((data.length - w0.length : Nat) : Int) + 1)) (some ((i0 + pre.length : Nat) : Int)) = pre.map V.int := by
        rw [show (((data.length - w0.length : Nat) : Int) + 1) = ((i0 : Nat) : Int) by omega, cut_ints, ed, e0, Nat.add_sub_cancel_left, List.take_left]
      have hu : (upd H' u (.lst (cutV (data.map V.int) (some (((data.length - w0.length : Nat) : Int) + 1)) (some ((i0 + pre.length : Nat) : Int))))) u = some (.lst (pre.map V.int)) := by rw [upd_same, ec]
      have sU := same_new (o := .lst (cutV (data.map V.int) (some (((data.length - w0.length : Nat) : Int) + 1)) (some ((i0 + pre.length : Nat) : Int)))) nu
      generalize upd H' u (.lst (cutV (data.map V.int) (some (((data.length - w0.length : Nat) : Int) + 1)) (some ((i0 + pre.length : Nat) : Int)))) = H3 at hu sU
      have no : streamV ps s = (.dict ps, s) → ∀ H4, Same H3 H4 → (1 + 1 ≤ sizeLine ∧ ∀ r, H4 r = none → Q (.ref r) (upd H4 r (.tup [V.str "dict", V.ref t]))) := by
        intro e H4 s4
        rw [e] at q
        refine ⟨by decide, fun y ny => ?_⟩
        have sY := same_new (o := .tup [V.str "dict", V.ref t]) ny
        have sA := sU.trans (s4.trans sY)
        have tk : TK H _ := fun a xs z => sA _ _ (tk12 _ _ z)
        exact q _ _ (R2.same sA) (fr12.trans (Fr.of sA)) (.dict upd_same (tk _ _ ht) (RepP.keep tk hps))
      have R3 := R2.same sU
      have h4 := sU _ _ h3
      -- the first byte
      refine ⟨_, rfl, p, _, dz, _, _, rfl, h4, T.cl, T.nData, rf_data _ _, _, ⟨rfl, _, rfl, _, rfl, _, _, rfl, rfl, _, rfl, l, _, rfl, SqL.of R3.lst, fun v nv => ?_⟩⟩
      have ec1 := cut_one (data := data) (s := w0) (i := ((data.length - w0.length : Nat) : Int)) rfl (sfx_at hwsf)
      have hv : (upd H3 v (.lst (cutV (data.map V.int) (some ((data.length - w0.length : Nat) : Int)) (some (((data.length - w0.length : Nat) : Int) + 1))))) v = some (.lst ((w0.take 1).map V.int)) := by rw [upd_same, ec1]
      have sV := same_new (o := .lst (cutV (data.map V.int) (some ((data.length - w0.length : Nat) : Int)) (some (((data.length - w0.length : Nat) : Int) + 1)))) nv
      generalize upd H3 v (.lst (cutV (data.map V.int) (some ((data.length - w0.length : Nat) : Int)) (some (((data.length - w0.length : Nat) : Int) + 1)))) = H4 at hv sV
      refine ⟨by show 1 ≤ sizeLine; decide, fun x nx => ?_⟩
      have sX := same_new (o := .lst [V.int 123]) nx
      have hX : (upd H4 x (.lst [V.int 123])) x = some (.lst (([123] : List Int).map V.int)) := upd_same
      generalize upd H4 x (.lst [V.int 123]) = H5 at sX hX
      refine ⟨_, _, .lst (SqL.of (sX _ _ hv)) (dp_all_ints (w0.take 1)), .lst (SqL.of hX) (dp_all_ints [123]), shaped_list _, shaped_list _, _, rfl, ifNL (fun z => ?_) (fun z => ?_)⟩
      · refine iteT ⟨_, rfl, no ?_ _ (sV.trans sX)⟩
        unfold streamV
        rw [hw]
        cases w0 with
        | nil => rfl
        | cons c r' =>
          refine if_neg fun y => z ?_
          rw [y.1] <;> rfl
      · obtain ⟨r', ew⟩ : ∃ r', w0 = 123 :: r' := by
          cases w0 with
          | nil => cases z
          | cons c r' =>
            have : c = 123 := by simpa using z
            exact ⟨r', by rw [this]⟩
        have ew1 : w0.drop 1 = r' := by rw [ew] <;> rfl
        rw [ew1] at et erd e0
        have s35 := sV.trans sX
        have h6 := s35 _ _ h4
        have R5 := R3.same s35
        refine ⟨_, rfl, p, _, dz, _, _, rfl, h6, T.cl, T.nData, rf_data _ _, _, ⟨rfl, _, rfl, _, rfl, _, _, rfl, rfl, _, rfl, l, _, rfl, SqL.of R5.lst, fun v2 nv2 => ?_⟩⟩
        have ec2 := cut_one (data := data) (s := r) (i := ((i0 + pre.length : Nat) : Int)) rfl er
        have hv2 : (upd H5 v2 (.lst (cutV (data.map V.int) (some ((i0 + pre.length : Nat) : Int)) (some (((i0 + pre.length : Nat) : Int) + 1))))) v2 = some (.lst ((r.take 1).map V.int)) := by rw [upd_same, ec2]
        have sV2 := same_new (o := .lst (cutV (data.map V.int) (some ((i0 + pre.length : Nat) : Int)) (some (((i0 + pre.length : Nat) : Int) + 1)))) nv2
        generalize upd H5 v2 (.lst (cutV (data.map V.int) (some ((i0 + pre.length : Nat) : Int)) (some (((i0 + pre.length : Nat) : Int) + 1)))) = H6 at hv2 sV2
        refine ⟨by show 1 ≤ sizeLine; decide, fun x2 nx2 => ?_⟩
        have sX2 := same_new (o := .lst [V.int 125]) nx2
        have hX2 : (upd H6 x2 (.lst [V.int 125])) x2 = some (.lst (([125] : List Int).map V.int)) := upd_same
        generalize upd H6 x2 (.lst [V.int 125]) = H7 at sX2 hX2
        have s37 := s35.trans (sV2.trans sX2)
        refine ⟨_, _, .lst (SqL.of (sX2 _ _ hv2)) (dp_all_ints (r.take 1)), .lst (SqL.of hX2) (dp_all_ints [125]), shaped_list _, shaped_list _, _, rfl, ifNL (fun z2 => ?_) (fun z2 => ?_)⟩
        · refine iteT ⟨_, rfl, no ?_ _ s37⟩
          unfold streamV
          rw [hw, ew]
          refine if_neg fun y => z2 ?_
          rw [← erd]
          exact y.2.1
        · have hD : H7 u = some (.lst (pre.map V.int)) := s37 _ _ hu
          refine ⟨_, rfl, u, _, rfl, .inl (SqL.of hD), _, _, rfl, rfl, _, rfl, ite2 (fun z3 => ?_) (fun z3 => ?_)⟩
          · have z3' : ((pre.map V.int).length : Int) > 9 := of_decide_eq_true z3
            rw [List.length_map] at z3'
            refine ⟨_, rfl, no ?_ _ s37⟩
            unfold streamV
            rw [hw, ew]
            refine if_neg fun y => ?_
            have := y.2.2
            rw [et] at this
            omega
          · have z3' : ¬ ((pre.map V.int).length : Int) > 9 := fun y => z3 (decide_eq_true y)
            rw [List.length_map] at z3'
            obtain ⟨r2, er2⟩ : ∃ r2, r = 125 :: r2 := by
              cases r with
              | nil => cases z2
              | cons c r2 =>
                have : c = 125 := by simpa using z2
                exact ⟨r2, by rw [this]⟩
            have eS : streamV ps s = streamD ps pre r2 := by
              unfold streamV
              rw [hw, ew]
              show (if _ then _ else _) = _
              rw [if_pos ⟨rfl, by rw [erd]; exact z2, by rw [et]; omega⟩, et, erd, er2] <;> rfl
            rw [eS] at q
            have sA := sU.trans s37
            have tk : TK H H7 := fun a xs z => sA _ _ (tk12 _ _ z)
            have h7 := sA _ _ h3
            have sf2 : ∃ pre2, data = pre2 ++ r2 := by
              have : ∃ pre2, data = pre2 ++ 125 :: r2 := by
                rw [ew] at hwsf
                obtain ⟨a, ha⟩ := hwsf
                exact ⟨a ++ 123 :: pre, by rw [ha, e0, er2]; simp⟩
              exact sfx_tail this
            have erl := congrArg List.length er
            rw [er2, List.length_drop, List.length_cons] at erl
            have e9 : ((i0 + pre.length : Nat) : Int) + 1 = ((data.length - r2.length : Nat) : Int) := by omega
            refine ⟨_, rfl, p, dz, _, rfl, h7, rf_no _ _ (by decide +kernel) (by decide +kernel), _, rfl, _, rfl, _, rfl, _, _, rfl, rfl, ?_⟩
            refine ⟨p, l, t, u, data, s, r2, pre, us, ps, ?_, R2.same sA, sf2, tk _ _ ht, RepP.keep tk hps, hD, ?_, by omega, fun x H8 R8 fr8 rep => q _ _ R8 (fr12.trans ((Fr.of sA).trans fr8)) rep⟩
            · rw [← e9] <;> rfl
            · rw [← et]
              exact all_tw isDigit r'
end
end K22

set_option maxHeartbeats 4000000
/-! tuple(d.items()), the keys tuples -/
namespace PySem
open AutoSeq1 (wpAny_loadPart')
theorem meets_tuple_of_items {r d : Addr} {es : Array DictEntry} {ep : Nat} : Meets (Builtin.«tuple.__new__» ⟨[.type "tuple", .ref r], []⟩)
    (fun A R s => A.handled = none ∧ s.heap.IsItemsView r d ∧ DT.Raw s.heap d es ep ∧ es.size ≤ sizeLine ∧
      ∀ (h' : Heap) (tk : Nat) (as : List Addr), (∀ b o, s.heap.get? b = some o → h'.get? b = some o) → s.heap.objs.size < h'.objs.size → as.length = es.size → DT.Made es s.heap.objs.size h' as →
        R (.ok (.ret (.ref h'.objs.size))) { s with heap := h'.push { cls := .type "tuple", data := .seq (as.map Value.ref).toArray }, toks := tk }) :=
  .of_wp fun prog w A R s h => by
    obtain ⟨hp, g, dd, tk0, os⟩ := s
    obtain ⟨hh, hv, hm, hn, h⟩ := h
    have hsub := sub_tuple_self
    have hinit := init_tuple_lookup
    have hmh := madeHere_tuple
    have hT : Shared.TypeIs ⟨hp, g, dd, tk0, os⟩ (.ref r) "dict_items" := let ⟨o, ho, hc, _⟩ := hv; ⟨o, ho, hc⟩
    wp_walk using wpAny_typeOf hT, DT.collectI (A := A.in1) (es := es) (ep := ep) (d := d) hh hv hm hn
    intro h' tk as hk hlt hl hG
    show wpAny _ _ (Builtin.Tuple.tupleExact (as.map Value.ref).toArray >>= fun v => ret v) _ _ _
    unfold Builtin.Tuple.tupleExact
    refine wpAny_bind (wpAny_newObj_type ?_ (by show (as.map Value.ref).toArray.size ≤ sizeLine; rw [List.size_toArray, List.length_map, hl]; exact hn))
    refine wpAny_pure ⟨_, rfl, ?_⟩
    exact h h' tk as hk hlt hl hG
end PySem
namespace K22
open PySem PySem.Spec PyProof.Rows L2
def rTupItems : List V → Hp → VK → Prop := fun vs H Q => ∃ (p a : Addr) (kvs : List (List L2.Key × V)), vs = [.ref p] ∧ H p = some (DX.itemsO p a) ∧ H a = some (.dT kvs) ∧
  ∀ (H' : Hp) (l : Addr) (ts : List Addr), Same H H' → H l = none → H' l = some (.tup (ts.map V.ref)) → Paired (fun (t : Addr) (q : List L2.Key × V) => ∃ kq, H' t = some (.tup [.ref kq, q.2]) ∧ H' kq = some (.tup (q.1.map kV))) ts kvs → Q (.ref l) H'
theorem paired_of {α β : Type} {F : α → β → Prop} : ∀ {xs : List α} {ys : List β}, xs.length = ys.length → (∀ (j : Nat) (x : α) (y : β), xs[j]? = some x → ys[j]? = some y → F x y) → Paired F xs ys
  | [], [], _, _ => .nil
  | [], _ :: _, h, _ => by cases h
  | _ :: _, [], h, _ => by cases h
  | x :: xs, y :: ys, h, g => .cons (g 0 x y rfl rfl) (paired_of (Nat.succ.inj h) fun j a b e1 e2 => g (j + 1) a b e1 e2)
section
variable {X : Cx}
theorem call_tupleItems (hc : X.calm = true) : CallR X (.type "tuple") rTupItems := by
  intro pins s σ H xs us Q I r h
  obtain ⟨p, a, kvs, rfl, hp, ha, q⟩ := h
  obtain rfl := Vals.ref1 r
  have view : s.heap.IsItemsView p a := (show ObjOk X.prog X.w H s.heap p (DX.itemsO p a) from I.hok p _ hp).1
  obtain ⟨z, hd, xs', rel, o, es, ep, ho, hx, hdat, hes, his, hn⟩ := dt_of I.hok ha
  have l1 : kvs.length = xs'.length := Paired.length rel
  have l2 : es.size = xs'.length := size_of_entries hes
  have hh : X.A.handled = none := I.ok.hd hc
  refine callType_new F.called_tuple (by decide) (F.typeCall_tuple_1 _) (F.newCall_tuple_1 _) (fun obj => F.args_object_init_2 obj _) F.entry_tuple_new
    (meets_tuple_of_items (d := a) (es := es) (ep := ep)) ⟨hh, view, ⟨o, ho, hx, hdat⟩, by omega, fun h' tk as hk hlt hl hG => ⟨⟨_, Heap.get?_push_size _ rfl, rfl⟩, ?_⟩⟩
  have lak : as.length = kvs.length := by omega
  have nd : as.Nodup := List.Pairwise.imp (fun h => Nat.ne_of_lt h) hG.rise
  have I1 : Inv X pins σ H { s with heap := h', toks := tk } := I.kept (t' := tk) hk
  obtain ⟨H2, I3, g, qt⟩ := DX.takeT (P := fun b vs => ∃ (j : Nat) (e : List L2.Key × V) (kq : Addr), as[j]? = some b ∧ kvs[j]? = some e ∧ vs = [.ref kq, e.2] ∧ H kq = some (.tup (e.1.map kV))) I as _ I1 nd fun b hb => by
    obtain ⟨j, hj⟩ := List.mem_iff_getElem?.mp hb
    obtain ⟨en, he, hg⟩ := hG.pairs j b hj
    rw [entry_at hes j] at he
    cases hxj : xs'[j]? with
    | none =>
      rw [hxj] at he
      exact nomatch (show (none : Option DictEntry) = some en from he)
    | some x =>
      rw [hxj] at he
      have een : entryOfKey (tupleKind (mixKind X.prog X.w)) x = en := Option.some.inj he
      obtain ⟨e0, he0, r1, r2, r3⟩ := DX.pget rel hxj
      have hbl : s.heap.objs.size ≤ b := Nat.le_of_lt (hG.above b hb)
      refine ⟨hbl, I.hok.fresh hbl, [.ref x.2.1, e0.2], ⟨j, e0, x.2.1, hj, he0, rfl, r2⟩, fun H3 => ⟨(by rw [sizeLine_eq]; show 2 ≤ 16777216; omega), [Value.ref x.2.1, x.2.2], .cons rfl (.cons r3 .nil), ⟨_, hg, rfl, 0, ?_⟩⟩⟩
      rw [← een]
      all_goals rfl
  have hn0 : H h'.objs.size = none := I.hok.fresh (Nat.le_of_lt hlt)
  have I4 : Inv X pins σ (upd H2 h'.objs.size (.tup (as.map V.ref))) { s with heap := h'.push { cls := .type "tuple", data := .seq (as.map Value.ref).toArray }, toks := tk } :=
    I3.laid (t' := tk) (fun b o e => Heap.get?_push_of_some _ e) (Nat.le_refl _) (show ObjOk X.prog X.w _ _ _ (.tup (as.map V.ref)) from ⟨by rw [List.length_map]; omega, as.map Value.ref, LiI.vals_refs as, IsTup.new _ _⟩)
  have hl2 : H2 h'.objs.size = none := I3.hok.fresh (Nat.le_refl _)
  have sL := same_new (o := .tup (as.map V.ref)) hl2
  refine ⟨.ref h'.objs.size, _, I4, rfl, q _ _ as (fun b o e => sL _ _ (g b o e)) hn0 upd_same (paired_of lak fun j b e e1 e2 => ?_)⟩
  obtain ⟨vs, ⟨j', e', kq, j1, j2, ev, hkq⟩, hH⟩ := qt b (List.mem_of_getElem? e1)
  have eij : j = j' := (List.getElem?_inj (List.getElem?_eq_some_iff.mp e1).1 nd).mp (e1.trans j1.symm)
  subst eij
  have ee : e' = e := Option.some.inj (j2.symm.trans e2)
  rw [ev, ee] at hH
  rw [ee] at hkq
  exact ⟨kq, sL _ _ hH, sL _ _ (g _ _ hkq)⟩
end
end K22

/-! The reader's mirror: its equations, its induction, the fuel. -/
namespace K22
abbrev gStop (ar : Nat) (c : Int) (r : List Int) : Prop := (ar = 1 ∧ c = 93) ∨ (ar = 2 ∧ (c :: r).take 2 = [62, 62])
abbrev gPlain (c : Int) (r : List Int) : Prop := c = 40 ∨ c = 47 ∨ c = 64 ∨ (c = 60 ∧ (c :: r).take 2 ≠ [60, 60])
abbrev gItem (c : Int) (r : List Int) : Prop := c = 40 ∨ c = 60 ∨ c = 91 ∨ isReg c = true ∨ isMark 64 (c :: r) = true
def closeL (s : List Int) : List Int := if s.take 1 = [93] then s.drop 1 else s
section
variable {n ar deep : Nat} {s r : List Int} {c : Int} {ps : List (List Int × Val)}
theorem pVal_nil (h : skipS false s = []) : pVal (n + 1) ar deep s = some (none, []) := by
  conv => lhs; unfold pVal
  rw [h]
theorem pVal_mark (h : skipS false s = c :: r) (hm : isMark 35 (c :: r) = true) : pVal (n + 1) ar deep s = some (none, c :: r) := by
  conv => lhs; unfold pVal
  rw [h]
  exact if_pos hm
theorem pVal_stop (h : skipS false s = c :: r) (hs : gStop ar c r) : pVal (n + 1) ar deep s = some (none, c :: r) := by
  conv => lhs; unfold pVal
  rw [h]
  by_cases hm : isMark 35 (c :: r) = true
  · exact if_pos hm
  · exact (if_neg hm).trans (if_pos hs)
theorem pVal_word (h : skipS false s = c :: r) (hm : ¬ isMark 35 (c :: r) = true) (hs : ¬ gStop ar c r) (hr : isReg c = true) :
    pVal (n + 1) ar deep s = (match wordVal (takeR (c :: r)) with
        | some v => some (some v, dropR (c :: r))
        | none => pVal n ar deep (dropR (c :: r))) := by
  conv => lhs; unfold pVal
  rw [h]
  exact (if_neg hm).trans ((if_neg hs).trans (if_pos hr))
theorem pVal_plain (h : skipS false s = c :: r) (hm : ¬ isMark 35 (c :: r) = true) (hs : ¬ gStop ar c r) (hr : ¬ isReg c = true) (hp : gPlain c r) :
    pVal (n + 1) ar deep s = (match plainV c (c :: r) with
        | (some v, s2) => some (some v, s2)
        | (none, s2) => pVal n ar deep s2) := by
  conv => lhs; unfold pVal
  rw [h]
  exact (if_neg hm).trans ((if_neg hs).trans ((if_neg hr).trans (if_pos hp)))
theorem pVal_list (h : skipS false s = c :: r) (hm : ¬ isMark 35 (c :: r) = true) (hs : ¬ gStop ar c r) (hr : ¬ isReg c = true) (hp : ¬ gPlain c r) (hl : deep < 16 ∧ c = 91) :
    pVal (n + 1) ar deep s = (match pList n deep r with
        | some (vs, s2) => some (some (.list vs), closeL s2)
        | none => none) := by
  conv => lhs; unfold pVal
  rw [h]
  exact (if_neg hm).trans ((if_neg hs).trans ((if_neg hr).trans ((if_neg hp).trans (if_pos hl))))
theorem pVal_dict (h : skipS false s = c :: r) (hm : ¬ isMark 35 (c :: r) = true) (hs : ¬ gStop ar c r) (hr : ¬ isReg c = true) (hp : ¬ gPlain c r) (hl : ¬ (deep < 16 ∧ c = 91)) (hd : deep < 16 ∧ c = 60) :
    pVal (n + 1) ar deep s = (match pDict n deep [] (r.drop 1) with
        | some (v, s2) => some (some v, s2)
        | none => none) := by
  conv => lhs; unfold pVal
  rw [h]
  exact (if_neg hm).trans ((if_neg hs).trans ((if_neg hr).trans ((if_neg hp).trans ((if_neg hl).trans (if_pos hd)))))
theorem pVal_skip (h : skipS false s = c :: r) (hm : ¬ isMark 35 (c :: r) = true) (hs : ¬ gStop ar c r) (hr : ¬ isReg c = true) (hp : ¬ gPlain c r) (hl : ¬ (deep < 16 ∧ c = 91)) (hd : ¬ (deep < 16 ∧ c = 60)) :
    pVal (n + 1) ar deep s = pVal n ar deep r := by
  conv => lhs; unfold pVal
  rw [h]
  exact (if_neg hm).trans ((if_neg hs).trans ((if_neg hr).trans ((if_neg hp).trans ((if_neg hl).trans (if_neg hd)))))
theorem pList_eq : pList (n + 1) deep s = (match pVal n 1 (deep + 1) s with
    | none => none
    | some (none, s2) => some ([], s2)
    | some (some v, s2) => (match pList n deep s2 with
      | none => none
      | some (vs, s3) => some (v :: vs, s3))) := by
  conv => lhs; unfold pList
  all_goals rfl
theorem pDict_nil (h : skipS false s = []) : pDict (n + 1) deep ps s = some (.dict ps, []) := by
  conv => lhs; unfold pDict
  rw [h]
theorem pDict_mark (h : skipS false s = c :: r) (hm : isMark 35 (c :: r) = true) : pDict (n + 1) deep ps s = some (.dict ps, c :: r) := by
  conv => lhs; unfold pDict
  rw [h]
  exact if_pos hm
theorem pDict_end (h : skipS false s = c :: r) (hm : ¬ isMark 35 (c :: r) = true) (he : (c :: r).take 2 = [62, 62]) : pDict (n + 1) deep ps s = some (streamV ps (r.drop 1)) := by
  conv => lhs; unfold pDict
  rw [h]
  exact (if_neg hm).trans (if_pos he)
theorem pDict_name (h : skipS false s = c :: r) (hm : ¬ isMark 35 (c :: r) = true) (he : ¬ (c :: r).take 2 = [62, 62]) (hn : c = 47) :
    pDict (n + 1) deep ps s = (match pVal n 2 (deep + 1) (dropR r) with
        | none => none
        | some (v, s2) => pDict n deep (putA ps (unesc (takeR r)) (v.getD .none)) s2) := by
  conv => lhs; unfold pDict
  rw [h]
  exact (if_neg hm).trans ((if_neg he).trans (if_pos hn))
theorem pDict_item (h : skipS false s = c :: r) (hm : ¬ isMark 35 (c :: r) = true) (he : ¬ (c :: r).take 2 = [62, 62]) (hn : ¬ c = 47) (hi : gItem c r) :
    pDict (n + 1) deep ps s = (match pVal n 2 (deep + 1) (c :: r) with
        | none => none
        | some (_, s2) => pDict n deep ps s2) := by
  conv => lhs; unfold pDict
  rw [h]
  exact (if_neg hm).trans ((if_neg he).trans ((if_neg hn).trans (if_pos hi)))
theorem pDict_skip (h : skipS false s = c :: r) (hm : ¬ isMark 35 (c :: r) = true) (he : ¬ (c :: r).take 2 = [62, 62]) (hn : ¬ c = 47) (hi : ¬ gItem c r) :
    pDict (n + 1) deep ps s = pDict n deep ps r := by
  conv => lhs; unfold pDict
  rw [h]
  exact (if_neg hm).trans ((if_neg he).trans ((if_neg hn).trans (if_neg hi)))
end
/-- what holds of the reader's results: motives and their cases -/
structure Ind (V : Nat → Nat → List Int → Option Val × List Int → Prop) (L : Nat → List Int → List Val × List Int → Prop) (D : Nat → List (List Int × Val) → List Int → Val × List Int → Prop) : Prop where
  v_nil : ∀ ar deep s, skipS false s = [] → V ar deep s (none, [])
  v_stop : ∀ ar deep s c r, skipS false s = c :: r → isMark 35 (c :: r) = true ∨ gStop ar c r → V ar deep s (none, c :: r)
  v_word : ∀ ar deep s c r v, skipS false s = c :: r → isReg c = true → wordVal (takeR (c :: r)) = some v → V ar deep s (some v, dropR (c :: r))
  v_word0 : ∀ ar deep s c r x, skipS false s = c :: r → isReg c = true → V ar deep (dropR (c :: r)) x → V ar deep s x
  v_plain : ∀ ar deep s c r v s2, skipS false s = c :: r → gPlain c r → plainV c (c :: r) = (some v, s2) → V ar deep s (some v, s2)
  v_plain0 : ∀ ar deep s c r s2 x, skipS false s = c :: r → gPlain c r → plainV c (c :: r) = (none, s2) → V ar deep s2 x → V ar deep s x
  v_list : ∀ ar deep s r vs s2, skipS false s = 91 :: r → deep < 16 → L deep r (vs, s2) → V ar deep s (some (.list vs), closeL s2)
  v_dict : ∀ ar deep s r v s2, skipS false s = 60 :: r → deep < 16 → D deep [] (r.drop 1) (v, s2) → V ar deep s (some v, s2)
  v_skip : ∀ ar deep s c r x, skipS false s = c :: r → V ar deep r x → V ar deep s x
  l_nil : ∀ deep s s2, V 1 (deep + 1) s (none, s2) → L deep s ([], s2)
  l_cons : ∀ deep s v s2 vs s3, V 1 (deep + 1) s (some v, s2) → L deep s2 (vs, s3) → L deep s (v :: vs, s3)
  d_nil : ∀ deep ps s, skipS false s = [] → D deep ps s (.dict ps, [])
  d_mark : ∀ deep ps s c r, skipS false s = c :: r → D deep ps s (.dict ps, c :: r)
  d_end : ∀ deep ps s c r, skipS false s = c :: r → (c :: r).take 2 = [62, 62] → D deep ps s (streamV ps (r.drop 1))
  d_name : ∀ deep ps s r v s2 x, skipS false s = 47 :: r → V 2 (deep + 1) (dropR r) (v, s2) → D deep (putA ps (unesc (takeR r)) (v.getD .none)) s2 x → D deep ps s x
  d_item : ∀ deep ps s c r v s2 x, skipS false s = c :: r → V 2 (deep + 1) (c :: r) (v, s2) → D deep ps s2 x → D deep ps s x
  d_skip : ∀ deep ps s c r x, skipS false s = c :: r → D deep ps r x → D deep ps s x
theorem Ind.all {V : Nat → Nat → List Int → Option Val × List Int → Prop} {L : Nat → List Int → List Val × List Int → Prop} {D : Nat → List (List Int × Val) → List Int → Val × List Int → Prop} (I : Ind V L D) :
    ∀ n, (∀ ar deep s x, pVal n ar deep s = some x → V ar deep s x) ∧ (∀ deep s x, pList n deep s = some x → L deep s x) ∧ (∀ deep ps s x, pDict n deep ps s = some x → D deep ps s x)
  | 0 => by
    refine ⟨fun ar deep s x h => ?_, fun deep s x h => ?_, fun deep ps s x h => ?_⟩
    · unfold pVal at h; cases h
    · unfold pList at h; cases h
    · unfold pDict at h; cases h
  | n + 1 => by
    obtain ⟨iv, il, id⟩ := Ind.all I n
    refine ⟨fun ar deep s x h => ?_, fun deep s x h => ?_, fun deep ps s x h => ?_⟩
    · cases e : skipS false s with
      | nil =>
        rw [pVal_nil e] at h
        cases h
        exact I.v_nil _ _ _ e
      | cons c r =>
        by_cases hm : isMark 35 (c :: r) = true
        · rw [pVal_mark e hm] at h
          cases h
          exact I.v_stop _ _ _ _ _ e (.inl hm)
        · by_cases hs : gStop ar c r
          · rw [pVal_stop e hs] at h
            cases h
            exact I.v_stop _ _ _ _ _ e (.inr hs)
          · by_cases hr : isReg c = true
            · rw [pVal_word e hm hs hr] at h
              cases hw : wordVal (takeR (c :: r)) with
              | some v =>
                rw [hw] at h
                cases h
                exact I.v_word _ _ _ _ _ _ e hr hw
              | none =>
                rw [hw] at h
                exact I.v_word0 _ _ _ _ _ _ e hr (iv _ _ _ _ h)
            · by_cases hp : gPlain c r
              · rw [pVal_plain e hm hs hr hp] at h
                match hw : plainV c (c :: r) with
                | (some v, s2) =>
                  rw [hw] at h
                  cases h
                  exact I.v_plain _ _ _ _ _ _ _ e hp hw
                | (none, s2) =>
                  rw [hw] at h
                  exact I.v_plain0 _ _ _ _ _ _ _ e hp hw (iv _ _ _ _ h)
              · by_cases hl : deep < 16 ∧ c = 91
                · rw [pVal_list e hm hs hr hp hl] at h
                  cases hw : pList n deep r with
                  | none => rw [hw] at h; cases h
                  | some y =>
                    rw [hw] at h
                    cases h
                    obtain ⟨h1, h2⟩ := hl
                    subst h2
                    exact I.v_list _ _ _ _ _ _ e h1 (il _ _ _ hw)
                · by_cases hd : deep < 16 ∧ c = 60
                  · rw [pVal_dict e hm hs hr hp hl hd] at h
                    cases hw : pDict n deep [] (r.drop 1) with
                    | none => rw [hw] at h; cases h
                    | some y =>
                      rw [hw] at h
                      cases h
                      obtain ⟨h1, h2⟩ := hd
                      subst h2
                      exact I.v_dict _ _ _ _ _ _ e h1 (id _ _ _ _ hw)
                  · rw [pVal_skip e hm hs hr hp hl hd] at h
                    exact I.v_skip _ _ _ _ _ _ e (iv _ _ _ _ h)
    · rw [pList_eq] at h
      match hw : pVal n 1 (deep + 1) s with
      | none => rw [hw] at h; cases h
      | some (none, s2) =>
        rw [hw] at h
        cases h
        exact I.l_nil _ _ _ (iv _ _ _ _ hw)
      | some (some v, s2) =>
        rw [hw] at h
        match hl : pList n deep s2 with
        | none => simp only [hl] at h; cases h
        | some (vs, s3) =>
          simp only [hl] at h
          cases h
          exact I.l_cons _ _ _ _ _ _ (iv _ _ _ _ hw) (il _ _ _ hl)
    · cases e : skipS false s with
      | nil =>
        rw [pDict_nil e] at h
        cases h
        exact I.d_nil _ _ _ e
      | cons c r =>
        by_cases hm : isMark 35 (c :: r) = true
        · rw [pDict_mark e hm] at h
          cases h
          exact I.d_mark _ _ _ _ _ e
        · by_cases he : (c :: r).take 2 = [62, 62]
          · rw [pDict_end e hm he] at h
            have h' := Option.some.inj h
            rw [← h']
            exact I.d_end _ _ _ _ _ e he
          · by_cases hn : c = 47
            · rw [pDict_name e hm he hn] at h
              cases hw : pVal n 2 (deep + 1) (dropR r) with
              | none => rw [hw] at h; cases h
              | some y =>
                rw [hw] at h
                subst hn
                exact I.d_name _ _ _ _ _ _ _ e (iv _ _ _ _ hw) (id _ _ _ _ h)
            · by_cases hi : gItem c r
              · rw [pDict_item e hm he hn hi] at h
                cases hw : pVal n 2 (deep + 1) (c :: r) with
                | none => rw [hw] at h; cases h
                | some y =>
                  rw [hw] at h
                  exact I.d_item _ _ _ _ _ _ _ _ e (iv _ _ _ _ hw) (id _ _ _ _ h)
              · rw [pDict_skip e hm he hn hi] at h
                exact I.d_skip _ _ _ _ _ _ e (id _ _ _ _ h)
/-! ### more fuel -/
theorem fuel1 : ∀ n, (∀ ar deep s x, pVal n ar deep s = some x → pVal (n + 1) ar deep s = some x) ∧ (∀ deep s x, pList n deep s = some x → pList (n + 1) deep s = some x) ∧ (∀ deep ps s x, pDict n deep ps s = some x → pDict (n + 1) deep ps s = some x)
  | 0 => by
    refine ⟨fun ar deep s x h => ?_, fun deep s x h => ?_, fun deep ps s x h => ?_⟩
    · unfold pVal at h; cases h
    · unfold pList at h; cases h
    · unfold pDict at h; cases h
  | n + 1 => by
    obtain ⟨iv, il, id⟩ := fuel1 n
    refine ⟨fun ar deep s x h => ?_, fun deep s x h => ?_, fun deep ps s x h => ?_⟩
    · cases e : skipS false s with
      | nil => rw [pVal_nil e] at h ⊢; exact h
      | cons c r =>
        by_cases hm : isMark 35 (c :: r) = true
        · rw [pVal_mark e hm] at h ⊢; exact h
        · by_cases hs : gStop ar c r
          · rw [pVal_stop e hs] at h ⊢; exact h
          · by_cases hr : isReg c = true
            · rw [pVal_word e hm hs hr] at h ⊢
              cases hw : wordVal (takeR (c :: r)) with
              | some v => rw [hw] at h; exact h
              | none => rw [hw] at h; exact iv _ _ _ _ h
            · by_cases hp : gPlain c r
              · rw [pVal_plain e hm hs hr hp] at h ⊢
                match hw : plainV c (c :: r) with
                | (some v, s2) => rw [hw] at h; exact h
                | (none, s2) => rw [hw] at h; exact iv _ _ _ _ h
              · by_cases hl : deep < 16 ∧ c = 91
                · rw [pVal_list e hm hs hr hp hl] at h ⊢
                  cases hw : pList n deep r with
                  | none => rw [hw] at h; cases h
                  | some y => rw [hw] at h; rw [il _ _ _ hw]; exact h
                · by_cases hd : deep < 16 ∧ c = 60
                  · rw [pVal_dict e hm hs hr hp hl hd] at h ⊢
                    cases hw : pDict n deep [] (r.drop 1) with
                    | none => rw [hw] at h; cases h
                    | some y => rw [hw] at h; rw [id _ _ _ _ hw]; exact h
                  · rw [pVal_skip e hm hs hr hp hl hd] at h ⊢
                    exact iv _ _ _ _ h
    · rw [pList_eq] at h ⊢
      match hw : pVal n 1 (deep + 1) s with
      | none => rw [hw] at h; cases h
      | some (none, s2) =>
        rw [hw] at h
        rw [iv _ _ _ _ hw]
        exact h
      | some (some v, s2) =>
        rw [hw] at h
        rw [iv _ _ _ _ hw]
        match hl : pList n deep s2 with
        | none => simp only [hl] at h; cases h
        | some (vs, s3) =>
          simp only [hl] at h
          simp only [il _ _ _ hl]
          exact h
    · cases e : skipS false s with
      | nil => rw [pDict_nil e] at h ⊢; exact h
      | cons c r =>
        by_cases hm : isMark 35 (c :: r) = true
        · rw [pDict_mark e hm] at h ⊢; exact h
        · by_cases he : (c :: r).take 2 = [62, 62]
          · rw [pDict_end e hm he] at h ⊢; exact h
          · by_cases hn : c = 47
            · rw [pDict_name e hm he hn] at h ⊢
              cases hw : pVal n 2 (deep + 1) (dropR r) with
              | none => rw [hw] at h; cases h
              | some y =>
                rw [hw] at h
                rw [iv _ _ _ _ hw]
                exact id _ _ _ _ h
            · by_cases hi : gItem c r
              · rw [pDict_item e hm he hn hi] at h ⊢
                cases hw : pVal n 2 (deep + 1) (c :: r) with
                | none => rw [hw] at h; cases h
                | some y =>
                  rw [hw] at h
                  rw [iv _ _ _ _ hw]
                  exact id _ _ _ _ h
              · rw [pDict_skip e hm he hn hi] at h ⊢
                exact id _ _ _ _ h
theorem fuelV {n m ar deep : Nat} {s : List Int} {x : Option Val × List Int} (hm : n ≤ m) (h : pVal n ar deep s = some x) : pVal m ar deep s = some x := by
  induction hm with
  | refl => exact h
  | step _ ih => exact (fuel1 _).1 _ _ _ _ ih
theorem fuelL {n m deep : Nat} {s : List Int} {x : List Val × List Int} (hm : n ≤ m) (h : pList n deep s = some x) : pList m deep s = some x := by
  induction hm with
  | refl => exact h
  | step _ ih => exact (fuel1 _).2.1 _ _ _ ih
theorem fuelD {n m deep : Nat} {ps : List (List Int × Val)} {s : List Int} {x : Val × List Int} (hm : n ≤ m) (h : pDict n deep ps s = some x) : pDict m deep ps s = some x := by
  induction hm with
  | refl => exact h
  | step _ ih => exact (fuel1 _).2.2 _ _ _ _ ih
/-! ### results, whatever the fuel -/
def PV (ar deep : Nat) (s : List Int) (v : Option Val) (t : List Int) : Prop := ∃ n, pVal n ar deep s = some (v, t)
def PL (deep : Nat) (s : List Int) (vs : List Val) (t : List Int) : Prop := ∃ n, pList n deep s = some (vs, t)
def PD (deep : Nat) (ps : List (List Int × Val)) (s : List Int) (v : Val) (t : List Int) : Prop := ∃ n, pDict n deep ps s = some (v, t)
theorem PV.one {ar deep : Nat} {s t t' : List Int} {v v' : Option Val} (a : PV ar deep s v t) (b : PV ar deep s v' t') : v = v' ∧ t = t' := by
  obtain ⟨n, a⟩ := a
  obtain ⟨m, b⟩ := b
  have a' := fuelV (Nat.le_max_left n m) a
  have b' := fuelV (Nat.le_max_right n m) b
  rw [a'] at b'
  injection b' with b'
  injection b' with b1 b2
  exact ⟨b1, b2⟩
section
variable {ar deep : Nat} {s r t t2 : List Int} {c : Int} {ps : List (List Int × Val)} {v : Option Val} {u : Val} {vs : List Val}
theorem PV.nil (h : skipS false s = []) : PV ar deep s none [] := ⟨1, pVal_nil h⟩
theorem PV.mark (h : skipS false s = c :: r) (hm : isMark 35 (c :: r) = true) : PV ar deep s none (c :: r) := ⟨1, pVal_mark h hm⟩
theorem PV.stop (h : skipS false s = c :: r) (hs : gStop ar c r) : PV ar deep s none (c :: r) := ⟨1, pVal_stop h hs⟩
theorem PV.word (h : skipS false s = c :: r) (hm : ¬ isMark 35 (c :: r) = true) (hs : ¬ gStop ar c r) (hr : isReg c = true) (hw : wordVal (takeR (c :: r)) = some u) : PV ar deep s (some u) (dropR (c :: r)) :=
  ⟨1, by rw [pVal_word h hm hs hr, hw]⟩
theorem PV.word0 (h : skipS false s = c :: r) (hm : ¬ isMark 35 (c :: r) = true) (hs : ¬ gStop ar c r) (hr : isReg c = true) (hw : wordVal (takeR (c :: r)) = none) (k : PV ar deep (dropR (c :: r)) v t) : PV ar deep s v t := by
  obtain ⟨n, k⟩ := k
  exact ⟨n + 1, by rw [pVal_word h hm hs hr, hw]; exact k⟩
theorem PV.plain (h : skipS false s = c :: r) (hm : ¬ isMark 35 (c :: r) = true) (hs : ¬ gStop ar c r) (hr : ¬ isReg c = true) (hp : gPlain c r) (hw : plainV c (c :: r) = (some u, t)) : PV ar deep s (some u) t :=
  ⟨1, by rw [pVal_plain h hm hs hr hp, hw]⟩
theorem PV.plain0 (h : skipS false s = c :: r) (hm : ¬ isMark 35 (c :: r) = true) (hs : ¬ gStop ar c r) (hr : ¬ isReg c = true) (hp : gPlain c r) (hw : plainV c (c :: r) = (none, t2)) (k : PV ar deep t2 v t) : PV ar deep s v t := by
  obtain ⟨n, k⟩ := k
  exact ⟨n + 1, by rw [pVal_plain h hm hs hr hp, hw]; exact k⟩
theorem PV.list (h : skipS false s = c :: r) (hm : ¬ isMark 35 (c :: r) = true) (hs : ¬ gStop ar c r) (hr : ¬ isReg c = true) (hp : ¬ gPlain c r) (hl : deep < 16 ∧ c = 91) (k : PL deep r vs t) : PV ar deep s (some (.list vs)) (closeL t) := by
  obtain ⟨n, k⟩ := k
  exact ⟨n + 1, by rw [pVal_list h hm hs hr hp hl, k]⟩
theorem PV.dict (h : skipS false s = c :: r) (hm : ¬ isMark 35 (c :: r) = true) (hs : ¬ gStop ar c r) (hr : ¬ isReg c = true) (hp : ¬ gPlain c r) (hl : ¬ (deep < 16 ∧ c = 91)) (hd : deep < 16 ∧ c = 60) (k : PD deep [] (r.drop 1) u t) : PV ar deep s (some u) t := by
  obtain ⟨n, k⟩ := k
  exact ⟨n + 1, by rw [pVal_dict h hm hs hr hp hl hd, k]⟩
theorem PV.skip (h : skipS false s = c :: r) (hm : ¬ isMark 35 (c :: r) = true) (hs : ¬ gStop ar c r) (hr : ¬ isReg c = true) (hp : ¬ gPlain c r) (hl : ¬ (deep < 16 ∧ c = 91)) (hd : ¬ (deep < 16 ∧ c = 60)) (k : PV ar deep r v t) : PV ar deep s v t := by
  obtain ⟨n, k⟩ := k
  exact ⟨n + 1, by rw [pVal_skip h hm hs hr hp hl hd]; exact k⟩
theorem PL.nil (k : PV 1 (deep + 1) s none t) : PL deep s [] t := by
  obtain ⟨n, k⟩ := k
  exact ⟨n + 1, by rw [pList_eq, k]⟩
theorem PL.cons (k : PV 1 (deep + 1) s (some u) t2) (l : PL deep t2 vs t) : PL deep s (u :: vs) t := by
  obtain ⟨n, k⟩ := k
  obtain ⟨m, l⟩ := l
  exact ⟨max n m + 1, by rw [pList_eq, fuelV (Nat.le_max_left n m) k]; simp only [fuelL (Nat.le_max_right n m) l]⟩
theorem PD.nil (h : skipS false s = []) : PD deep ps s (.dict ps) [] := ⟨1, pDict_nil h⟩
theorem PD.mark (h : skipS false s = c :: r) (hm : isMark 35 (c :: r) = true) : PD deep ps s (.dict ps) (c :: r) := ⟨1, pDict_mark h hm⟩
theorem PD.end (h : skipS false s = c :: r) (hm : ¬ isMark 35 (c :: r) = true) (he : (c :: r).take 2 = [62, 62]) : PD deep ps s (streamV ps (r.drop 1)).1 (streamV ps (r.drop 1)).2 := ⟨1, pDict_end h hm he⟩
theorem PD.name (h : skipS false s = c :: r) (hm : ¬ isMark 35 (c :: r) = true) (he : ¬ (c :: r).take 2 = [62, 62]) (hn : c = 47) (k : PV 2 (deep + 1) (dropR r) v t2) (l : PD deep (putA ps (unesc (takeR r)) (v.getD .none)) t2 u t) : PD deep ps s u t := by
  obtain ⟨n, k⟩ := k
  obtain ⟨m, l⟩ := l
  exact ⟨max n m + 1, by rw [pDict_name h hm he hn, fuelV (Nat.le_max_left n m) k]; exact fuelD (Nat.le_max_right n m) l⟩
theorem PD.item (h : skipS false s = c :: r) (hm : ¬ isMark 35 (c :: r) = true) (he : ¬ (c :: r).take 2 = [62, 62]) (hn : ¬ c = 47) (hi : gItem c r) (k : PV 2 (deep + 1) (c :: r) v t2) (l : PD deep ps t2 u t) : PD deep ps s u t := by
  obtain ⟨n, k⟩ := k
  obtain ⟨m, l⟩ := l
  exact ⟨max n m + 1, by rw [pDict_item h hm he hn hi, fuelV (Nat.le_max_left n m) k]; exact fuelD (Nat.le_max_right n m) l⟩
theorem PD.skip (h : skipS false s = c :: r) (hm : ¬ isMark 35 (c :: r) = true) (he : ¬ (c :: r).take 2 = [62, 62]) (hn : ¬ c = 47) (hi : ¬ gItem c r) (l : PD deep ps r u t) : PD deep ps s u t := by
  obtain ⟨m, l⟩ := l
  exact ⟨m + 1, by rw [pDict_skip h hm he hn hi]; exact l⟩
end
end K22

/-! How much is read. -/
namespace K22
theorem len_dw {α : Type} (f : α → Bool) (l : List α) : (l.dropWhile f).length ≤ l.length := (List.dropWhile_sublist f).length_le
theorem len_skipS : ∀ (b : Bool) (s : List Int), (skipS b s).length ≤ s.length
  | b, [] => by cases b <;> exact Nat.le_refl _
  | false, c :: r => by
    have h1 := len_skipS false r
    have h2 := len_skipS true r
    unfold skipS
    split
    · simp only [List.length_cons]; omega
    · split
      · simp only [List.length_cons]; omega
      · exact Nat.le_refl _
  | true, c :: r => by
    have h1 := len_skipS false r
    have h2 := len_skipS true r
    unfold skipS
    split
    · simp only [List.length_cons]; omega
    · simp only [List.length_cons]; omega
theorem len_dropR {c : Int} {r : List Int} (h : isReg c = true) : (dropR (c :: r)).length < (c :: r).length := by
  unfold dropR
  rw [List.dropWhile_cons, if_pos h]
  have := len_dw isReg r
  simp only [List.length_cons]
  omega
theorem len_mark {c n : Int} {r t : List Int} (h : markOf (c :: r) = some (n, t)) : t.length < (c :: r).length := by
  have h : (if _ then _ else _) = _ := h
  split at h
  · have := len_dw isDigit r
    injection h with h
    injection h with _ h
    rw [← h]
    simp only [List.length_cons]
    omega
  · cases h
theorem len_escP (s : List Int) : (escP s).2.length ≤ s.length := escP_le s
theorem len_pText (k : Nat) (s : List Int) : (pText k s).2.length ≤ s.length := by
  match s with
  | [] => unfold pText; exact Nat.le_refl _
  | c :: r =>
    have h0 := escP_le r
    have h1 := len_pText k (escP r).2
    have h2 := len_pText (k + 1) r
    have h3 := len_pText (k - 1) r
    have h4 := len_pText k r
    unfold pText
    split
    · simp only [List.length_cons]; omega
    · split
      · simp only [List.length_cons]; omega
      · split
        · split
          · simp only [List.length_cons]; omega
          · simp only [List.length_cons]; omega
        · simp only [List.length_cons]; omega
termination_by s.length
decreasing_by all_goals (simp only [List.length_cons]; first | omega | (have := escP_le r; omega))
theorem len_plainV (c : Int) (r : List Int) : (plainV c (c :: r)).2.length < (c :: r).length := by
  unfold plainV
  split
  · split
    · cases h : markOf (c :: r) with
      | none => simp
      | some x =>
        obtain ⟨n, t⟩ := x
        exact len_mark h
    · simp
  · split
    · have := len_dw isReg r
      show (dropR r).length < r.length + 1
      unfold dropR
      omega
    · split
      · have := len_pText 1 r
        show (pText 1 r).2.length < r.length + 1
        omega
      · have := len_dw (fun x => decide (x ≠ (62 : Int))) r
        show ((r.dropWhile fun x => decide (x ≠ 62)).drop 1).length < r.length + 1
        rw [List.length_drop]
        omega
theorem len_closeL (s : List Int) : (closeL s).length ≤ s.length := by
  unfold closeL
  split
  · rw [List.length_drop]; omega
  · exact Nat.le_refl _
theorem len_findC : ∀ s : List Int, (findC s).2.length ≤ s.length
  | [] => Nat.le_refl _
  | c :: r => by
    have := len_findC r
    unfold findC
    split
    · show (r.drop 1).length ≤ r.length + 1
      rw [List.length_drop]; omega
    · show (findC r).2.length ≤ r.length + 1
      omega
theorem len_streamV (ps : List (List Int × Val)) (s : List Int) : (streamV ps s).2.length ≤ s.length := by
  unfold streamV
  have hw := len_dw isWhite s
  cases h : skipW s with
  | nil => exact Nat.le_refl _
  | cons c r =>
    have hl : r.length + 1 ≤ s.length := by
      have e : (skipW s).length = r.length + 1 := by rw [h] <;> rfl
      unfold skipW at e
      omega
    show ((if _ then _ else _ : Val × List Int)).2.length ≤ _
    split
    · have h1 := len_dw isDigit r
      unfold streamD
      split
      · show (List.drop _ (List.drop 1 (r.dropWhile isDigit))).length ≤ _
        rw [List.length_drop, List.length_drop]
        omega
      · have h2 := len_findC ((r.dropWhile isDigit).drop 1)
        rw [List.length_drop] at h2
        show (findC ((r.dropWhile isDigit).drop 1)).2.length ≤ _
        omega
    · exact Nat.le_refl _
theorem len_ind : Ind (fun ar _ s x => (x.1 = none ∧ x.2 = skipS false s ∧ (∀ c r, skipS false s = c :: r → isMark 35 (c :: r) = true ∨ gStop ar c r)) ∨ x.2.length < (skipS false s).length) (fun _ s x => x.2.length ≤ s.length) (fun _ _ s x => x.2.length ≤ s.length) where
  v_nil := fun ar deep s h => .inl ⟨rfl, h.symm, fun c r e => by rw [h] at e; cases e⟩
  v_stop := fun ar deep s c r h hh => .inl ⟨rfl, h.symm, fun c' r' e => by rw [h] at e; cases e; exact hh⟩
  v_word := fun ar deep s c r v h hr hw => .inr (by rw [h]; exact len_dropR hr)
  v_word0 := fun ar deep s c r x h hr ih => .inr (by
    have h1 := len_dropR (r := r) hr
    have h2 := len_skipS false (dropR (c :: r))
    rw [h]
    rcases ih with ⟨_, e, _⟩ | ih
    · rw [e]; omega
    · omega)
  v_plain := fun ar deep s c r v s2 h hp hw => .inr (by
    have := len_plainV c r
    rw [h]
    rw [hw] at this
    exact this)
  v_plain0 := fun ar deep s c r s2 x h hp hw ih => .inr (by
    have h1 := len_plainV c r
    rw [hw] at h1
    have h2 := len_skipS false s2
    rw [h]
    simp only [] at h1
    rcases ih with ⟨_, e, _⟩ | ih
    · rw [e]; omega
    · omega)
  v_list := fun ar deep s r vs s2 h hd ih => .inr (by
    have := len_closeL s2
    rw [h]
    simp only [List.length_cons]
    simp only [] at ih
    omega)
  v_dict := fun ar deep s r v s2 h hd ih => .inr (by
    rw [h]
    rw [List.length_drop] at ih
    simp only [List.length_cons]
    simp only [] at ih
    omega)
  v_skip := fun ar deep s c r x h ih => .inr (by
    have h2 := len_skipS false r
    rw [h]
    simp only [List.length_cons]
    rcases ih with ⟨_, e, _⟩ | ih
    · rw [e]; omega
    · omega)
  l_nil := fun deep s s2 ih => by
    have h2 := len_skipS false s
    rcases ih with ⟨_, e, _⟩ | ih
    · have e' : s2 = skipS false s := e
      show s2.length ≤ _
      rw [e']; omega
    · have ih' : s2.length < _ := ih
      show s2.length ≤ _
      omega
  l_cons := fun deep s v s2 vs s3 ih l => by
    have h2 := len_skipS false s
    have l' : s3.length ≤ s2.length := l
    show s3.length ≤ _
    rcases ih with ⟨e, _, _⟩ | ih
    · cases e
    · have ih' : s2.length < _ := ih
      omega
  d_nil := fun deep ps s h => Nat.zero_le _
  d_mark := fun deep ps s c r h => by
    have h2 := len_skipS false s
    rw [h] at h2
    exact h2
  d_end := fun deep ps s c r h he => by
    have h2 := len_skipS false s
    have h1 := len_streamV ps (r.drop 1)
    rw [h] at h2
    rw [List.length_drop] at h1
    simp only [List.length_cons] at h2
    omega
  d_name := fun deep ps s r v s2 x h ih l => by
    have h2 := len_skipS false s
    have h3 := len_skipS false (dropR r)
    have h4 := len_dw isReg r
    rw [h] at h2
    simp only [List.length_cons] at h2
    have h5 : (dropR r).length ≤ r.length := h4
    rcases ih with ⟨_, e, _⟩ | ih
    · have e' : s2 = skipS false (dropR r) := e
      rw [e'] at l
      omega
    · have ih' : s2.length < _ := ih
      omega
  d_item := fun deep ps s c r v s2 x h ih l => by
    have h2 := len_skipS false s
    have h3 := len_skipS false (c :: r)
    rw [h] at h2
    rcases ih with ⟨_, e, _⟩ | ih
    · have e' : s2 = skipS false (c :: r) := e
      rw [e'] at l
      omega
    · have ih' : s2.length < _ := ih
      omega
  d_skip := fun deep ps s c r x h l => by
    have h2 := len_skipS false s
    rw [h] at h2
    simp only [List.length_cons] at h2
    omega
theorem PV.len {ar deep : Nat} {s t : List Int} {v : Option Val} (h : PV ar deep s v t) : (v = none ∧ t = skipS false s ∧ (∀ c r, skipS false s = c :: r → isMark 35 (c :: r) = true ∨ gStop ar c r)) ∨ t.length < (skipS false s).length := by
  obtain ⟨n, h⟩ := h
  exact (len_ind.all n).1 _ _ _ _ h
theorem PV.le {ar deep : Nat} {s t : List Int} {v : Option Val} (h : PV ar deep s v t) : t.length ≤ s.length := by
  have h2 := len_skipS false s
  rcases h.len with ⟨_, e, _⟩ | h
  · rw [e]; exact h2
  · omega
theorem PV.lt {ar deep : Nat} {s t : List Int} {v : Val} (h : PV ar deep s (some v) t) : t.length < s.length := by
  have h2 := len_skipS false s
  rcases h.len with ⟨e, _, _⟩ | h
  · cases e
  · omega
end K22

set_option maxHeartbeats 4000000
/-! list_value -/
namespace K22
open PySem PySem.Spec PyProof.Rows L2
def arS : Nat → Str
  | 1 => "list"
  | 2 => "dict"
  | _ => ""
section
variable {P : Program} {w : World} {K : PySem.W.Frag} {mg : Str → Option Value} {base : Heap}
def spValue (C : Addr) (deep : Nat) : Sp := fun vs H Q _ => ∃ (p l : Addr) (data s : List Int) (ar : Nat), vs = [.ref p, .str (arS ar), .int (deep : Int)] ∧ ar ≤ 2 ∧ RAt C p l data s H ∧
  ∀ v t u H', PV ar deep s v t → RAt C p l data t H' → Fr p H H' → RepO H' u v → Q u H'
def spListV (C : Addr) (deep : Nat) : Sp := fun vs H Q _ => deep < 16 ∧ ∃ (p l : Addr) (data : List Int) (c : Int) (r : List Int), vs = [.ref p, .int (deep : Int)] ∧ RAt C p l data (c :: r) H ∧
  ∀ vs t u H', PL deep r vs t → RAt C p l data (closeL t) H' → Fr p H H' → Rep H' u (.list vs) → Q u H'
def spDictV (C : Addr) (deep : Nat) : Sp := fun vs H Q _ => deep < 16 ∧ ∃ (p l : Addr) (data : List Int) (c : Int) (r : List Int), vs = [.ref p, .int (deep : Int)] ∧ RAt C p l data (c :: r) H ∧ 1 ≤ r.length ∧
  ∀ v t u H', PD deep [] (r.drop 1) v t → RAt C p l data t H' → Fr p H H' → Rep H' u v → Q u H'
theorem RAt.tk {C p l : Addr} {data s : List Int} {H H' : Hp} (R : RAt C p l data s H) (f : Fr p H H') : TK H H' := TK.fr f fun xs z => by
  obtain ⟨dx, h⟩ := R.ob
  rw [h] at z
  cases z
def vn : Option Val → Nat
  | none => 0
  | some _ => 1
theorem sc_list_value : FnScope ["self", "deep", "items", "value"] ["self", "deep"] (defScope m_list_value) := ⟨rfl, rfl, rfl, by decide +kernel, rfl, by decide +kernel, by decide +kernel⟩
/-- between two turns of list_value's loop -/
structure LInv (C p l d : Addr) (data r : List Int) (deep : Nat) (H : Hp) (s : List Int) (v : Option Val) (u : V) (H' : Hp) : Prop where
  rat : RAt C p l data s H'
  it : ∃ us vs, H' d = some (.lst us) ∧ RepL H' us vs ∧ us.length + s.length ≤ r.length ∧ (v ≠ none → us.length + 1 + s.length ≤ r.length) ∧
    ∀ vs' t, (match v with | none => vs' = [] ∧ t = s | some x => ∃ ws, vs' = x :: ws ∧ PL deep s ws t) → PL deep r (vs ++ vs') t
  rep : RepO H' u v
  fr : Fr p H H'
theorem ok_list_value (T : Tx K mg) {deep k : Nat} (hk : 1 ≤ k) (cv : CalM P w K mg base (RC K) "value" k ["self", "around", "deep"] (spValue (RC K) (deep + 1))) :
    CalM P w K mg base (RC K) "list_value" (k + 1) ["self", "deep"] (spListV (RC K) deep) := by
  obtain ⟨fd, F⟩ := T.FM_list_value
  refine ⟨_, fd, F.ok sc_list_value (fun vs H Q E h => ?_) (fun cdv A outer s H vs Q E hr h => ?_), T.M_list_value, F.binds fun _ _ _ _ _ _ us hl => match us, hl with | [_, _], _ => rfl⟩
  · obtain ⟨_, p, l, data, c, r, rfl, _⟩ := h
    rfl
  · obtain ⟨hd16, p, l, data, c, r, rfl, R0, q⟩ := h
    obtain ⟨dx, h0⟩ := R0.ob
    have hr1 : Room 1 _ := hr.mono hk
    refine ⟨_, pss_cons (ps_fld (pv 0) (pe_op op_add (pe_fld (pv 0) rfl) pe_int) rfl)
      (pss_cons (ps_set (i := 2) sc_list_value.nd rfl (.inl rfl) (pe_lst pa_nil))
      (pss_cons (ps_set (i := 3) sc_list_value.nd rfl (.inl rfl) (pe_mcal T.cl cv hr (pv 0) (pa_cons pe_str (pa_cons (pe_op op_add (pv 1) pe_int) pa_nil))))
      (C8.pss_cut (ps_while PassesOwn.never (pt_cmpR op_notN (pv 3) pe_non (nomark _))
        (pss_cons (ps_expr (pe_bm PySem.F.plainAttrs_list PySem.F.slot_list_append PySem.F.type_list_append mt_append (pv 2) (pa_cons (pv 3) pa_nil)))
        (pss_one (ps_set (i := 3) sc_list_value.nd rfl (.inl rfl) (pe_mcal T.cl cv hr (pv 0) (pa_cons pe_str (pa_cons (pe_op op_add (pv 1) pe_int) pa_nil)))))))
      (C8.pss_cut (ps_if (pt_cmpR op_eq (pe_mcal0 T.cl (ok_here T) hr1 (pv 0)) (pe_gi T.i_LIST_END) (nomark _))
        (pss_one (ps_fld (pv 0) (pe_op op_add (pe_fld (pv 0) rfl) pe_int) rfl)) pss_nil)
      (pss_one (ps_ret (pe_tup (pa_cons pe_str (pa_cons (pe_callTy call_tuple_of (by rfl) T.fr_tuple (by decide +kernel) (pa_cons (pv 2) pa_nil)) pa_nil))))))))), ?_⟩
    refine ⟨_, rfl, p, _, dx, _, _, rfl, h0, T.cl, T.nAt, rf_at _ _, _, _, rfl, rfl, _, rfl, p, _, dx, _, rfl, h0, T.cl, T.nAt, rf_few _ _, ?_⟩
    have R1 : RAt (RC K) p l data r _ := R0.step h0
    have fr1 := fr_upd (p := p) (H := H) (o := .ins (RC K) dx (putF "at" (.int (((data.length - (c :: r).length : Nat) : Int) + 1)) (rf l ((data.length - (c :: r).length : Nat) : Int))))
    generalize upd H p (.ins (RC K) dx (putF "at" (.int (((data.length - (c :: r).length : Nat) : Int) + 1)) (rf l ((data.length - (c :: r).length : Nat) : Int)))) = H1 at R1 fr1
    refine ⟨Nat.zero_le _, fun d nd => ?_⟩
    have sD := same_new (o := .lst []) nd
    have hdH : H d = none := fr1.free h0 R1.any nd
    have hD : (upd H1 d (.lst [])) d = some (.lst []) := upd_same
    have R2 := R1.same sD
    generalize upd H1 d (.lst []) = H2 at sD hD R2
    have ndp : d ≠ p := ne_of hD (R2.ob.choose_spec) (by intro z; cases z)
    obtain ⟨dy, h2⟩ := R2.ob
    have fr2 := fr1.trans (Fr.of sD)
    refine ⟨_, rfl, p, dy, _, rfl, h2, rf_no _ _ (by decide +kernel) (by decide +kernel), _, rfl, _, _, rfl, rfl, ?_⟩
    refine ⟨p, l, data, r, 1, rfl, by decide, R2, fun v t u H3 hpv R3 fr3 rep3 => ?_⟩
    have hlr : r.length ≤ 100000 := Nat.le_trans R1.le R1.small
    refine ⟨fun σ' H' => ∃ t vs us, σ' = [some (.ref p), some (.int (deep : Int)), some (.ref d), some .non] ∧ RAt (RC K) p l data t H' ∧ H' d = some (.lst us) ∧ RepL H' us vs ∧ PL deep r vs t ∧ Fr p H H', ?_, ?_⟩
    · refine ⟨fun m σ H' => ∃ s v u, σ = [some (.ref p), some (.int (deep : Int)), some (.ref d), some u] ∧ m = s.length + vn v ∧ LInv (RC K) p l d data r deep H s v u H', ⟨_, t, v, u, rfl, rfl, R3, ⟨[], [], fr3 _ _ hD ndp, .nil, by have := hpv.le; simp; omega, ?_, ?_⟩, rep3, fr2.trans fr3⟩, ?_⟩
      · intro hv
        cases v with
        | none => exact absurd rfl hv
        | some x => have := hpv.lt; simp; omega
      · intro vs' t' hh
        cases v with
        | none =>
          obtain ⟨e1, e2⟩ := hh
          rw [e1, e2]
          exact PL.nil hpv
        | some x =>
          obtain ⟨ws, e1, e2⟩ := hh
          rw [e1]
          exact PL.cons hpv e2
      · rintro m σ H' ⟨s, v, u, rfl, rfl, I⟩
        refine ⟨_, rfl, rfl, _, rfl, ?_⟩
        obtain ⟨us, vs, hus, hrep, hlen, hlen1, hpl⟩ := I.it
        cases v with
        | none =>
          have eu : u = .non := I.rep
          subst eu
          refine iteF ⟨s, vs, us, rfl, I.rat, hus, hrep, ?_, I.fr⟩
          have := hpl [] s ⟨rfl, rfl⟩
          rw [List.append_nil] at this
          exact this
        | some x =>
          have hrx : Rep H' u x := I.rep
          obtain ⟨ua, eu⟩ := hrx.isRef
          rw [eu] at hrx
          subst eu
          refine iteT ?_
          refine ⟨fun σ3 H3 => ∃ s' v u, σ3 = [some (.ref p), some (.int (deep : Int)), some (.ref d), some u] ∧ s'.length + vn v < s.length + 1 ∧ LInv (RC K) p l d data r deep H s' v u H3, fun σ3 H3 ⟨s, v, u, e1, e2, e3⟩ => ⟨_, e2, s, v, u, e1, rfl, e3⟩, ?_⟩
          have hl1 := hlen1 (by intro z; cases z)
          have RI := I.rat
          refine ⟨_, rfl, .inl ⟨rfl, _, SqL.of hus⟩, _, rfl, d, _, _, rfl, rfl, hus, line_big (by omega), ?_⟩
          have R4 : RAt (RC K) p l data s (upd H' d (.lst (us ++ [.ref ua]))) := by
            obtain ⟨dz, hz⟩ := RI.ob
            have hdl : d ≠ l := fun z => by
              rw [z, RI.lst] at hus
              have e := HO.lst.inj (Option.some.inj hus)
              have e2 := R0.lst
              rw [← z, hdH] at e2
              cases e2
            exact ⟨⟨dz, by rw [upd_ne ndp.symm]; exact hz⟩, by rw [upd_ne hdl.symm]; exact RI.lst, RI.sfx, RI.small, RI.byt⟩
          have tk4 : TK H' (upd H' d (.lst (us ++ [.ref ua]))) := fun a xs z => by
            rw [upd_ne (fun y => by rw [y, hus] at z; cases z)]
            exact z
          have fr4 : Fr p H (upd H' d (.lst (us ++ [.ref ua]))) := fun b o hb hbp => by
            rw [upd_ne (ne_of_none hb hdH)]
            exact I.fr b o hb hbp
          have hus4 : (upd H' d (.lst (us ++ [.ref ua]))) d = some (.lst (us ++ [.ref ua])) := upd_same
          generalize upd H' d (.lst (us ++ [.ref ua])) = H4 at R4 tk4 fr4 hus4
          obtain ⟨dz, hz⟩ := R4.ob
          refine ⟨_, rfl, p, dz, _, rfl, hz, rf_no _ _ (by decide +kernel) (by decide +kernel), _, rfl, _, _, rfl, rfl, ?_⟩
          refine ⟨p, l, data, s, 1, rfl, by decide, R4, fun v' t' u' H5 hpv' R5 fr5 rep5 => ?_⟩
          have tk5 := R4.tk fr5
          have hle := hpv'.le
          refine ⟨t', v', u', rfl, ?_, R5, ⟨us ++ [.ref ua], vs ++ [x], fr5 _ _ hus4 ndp, RepL.keep tk5 (RepL.snoc (RepL.keep tk4 hrep) (Rep.keep tk4 hrx)), by simp; omega, ?_, ?_⟩, rep5, fr4.trans fr5⟩
          · cases v' with
            | none => exact Nat.lt_succ_of_le hle
            | some y => exact Nat.succ_lt_succ hpv'.lt
          · intro hv
            cases v' with
            | none => exact absurd rfl hv
            | some y => have := hpv'.lt; simp; omega
          · intro vs' t2 hh
            rw [List.append_assoc]
            refine hpl _ _ ⟨vs', rfl, ?_⟩
            cases v' with
            | none =>
              obtain ⟨e1, e2⟩ := hh
              rw [e1, e2]
              exact PL.nil hpv'
            | some y =>
              obtain ⟨ws, e1, e2⟩ := hh
              rw [e1]
              exact PL.cons hpv' e2
    · rintro σ' H' ⟨t, vs, us, rfl, R, hus, hrep, hpl, fr⟩
      obtain ⟨dz, h3⟩ := R.ob
      refine ⟨fun σ' H3 => σ' = [some (.ref p), some (.int (deep : Int)), some (.ref d), some .non] ∧ RAt (RC K) p l data (closeL t) H3 ∧ Fr p H' H3, ?_, ?_⟩
      · refine ⟨_, rfl, p, dz, _, rfl, h3, rf_no _ _ (by decide +kernel) (by decide +kernel), p, l, data, t, rfl, R, rfl, _, rfl, ifI (fun e => ?_) (fun e => ?_)⟩
        · cases t with
          | nil => exact absurd e (by decide)
          | cons b t' =>
            have e' : b = 93 := e
            have ec : closeL (b :: t') = t' := by
              unfold closeL
              rw [if_pos (by rw [e']; rfl)] <;> rfl
            rw [ec]
            exact ⟨_, rfl, p, _, dz, _, _, rfl, h3, T.cl, T.nAt, rf_at _ _, _, _, rfl, rfl, _, rfl, p, _, dz, _, rfl, h3, T.cl, T.nAt, rf_few _ _, rfl, R.step h3, fr_upd⟩
        · have ec : closeL t = t := by
            unfold closeL
            refine if_neg fun z => e ?_
            cases t with
            | nil => cases z
            | cons b t' => exact (List.cons.inj z).1
          rw [ec]
          exact ⟨rfl, R, Fr.refl _ _⟩
      · rintro σ' H3 ⟨rfl, R3, fr3⟩
        have tk := R.tk fr3
        have hus3 := fr3 _ _ hus ndp
        refine ⟨_, rfl, d, _, rfl, .inl ⟨SqL.of hus3, fun x nx => ⟨by show 2 ≤ sizeLine; decide, fun y ny => ?_⟩⟩⟩
        have sX := same_new (o := .tup us) nx
        have sY := same_new (o := .tup [V.str "list", V.ref x]) ny
        have sA : Same H3 _ := sX.trans sY
        refine q _ _ _ _ hpl (R3.same sA) (fr.trans (fr3.trans (Fr.of sA))) (.list upd_same (sY _ _ upd_same) (RepL.keep (TK.of sA) (RepL.keep tk hrep)))
end
end K22

set_option maxHeartbeats 4000000
/-! value -/
namespace K22
open PySem PySem.Spec PyProof.Rows L2
theorem arS_list {ar : Nat} (h : ar ≤ 2) : decide (V.str (arS ar) = V.str "list") = decide (ar = 1) := by
  match ar, h with
  | 0, _ => decide +kernel
  | 1, _ => decide +kernel
  | 2, _ => decide +kernel
theorem arS_dict {ar : Nat} (h : ar ≤ 2) : decide (V.str (arS ar) = V.str "dict") = decide (ar = 2) := by
  match ar, h with
  | 0, _ => decide +kernel
  | 1, _ => decide +kernel
  | 2, _ => decide +kernel
theorem ifD {b : Bool} {p : Prop} [Decidable p] {A B : Prop} (e : b = decide p) (a : p → A) (n : ¬ p → B) : if b = true then A else B := by
  by_cases h : p
  · rw [e, decide_eq_true h]
    exact iteT (a h)
  · rw [e, decide_eq_false h]
    exact iteF (n h)
section
variable {P : Program} {w : World} {K : PySem.W.Frag} {mg : Str → Option Value} {base : Heap}
theorem sc_value : FnScope ["self", "around", "deep", "code", "found"] ["self", "around", "deep"] (defScope m_value) := ⟨rfl, rfl, rfl, by decide +kernel, rfl, by decide +kernel, by decide +kernel⟩
theorem ok_value (T : Tx K mg) {deep k : Nat} (hd : deep ≤ 16) (hk : 4 ≤ k) (cl : CalM P w K mg base (RC K) "list_value" k ["self", "deep"] (spListV (RC K) deep)) (cd : CalM P w K mg base (RC K) "dict_value" k ["self", "deep"] (spDictV (RC K) deep)) :
    CalM P w K mg base (RC K) "value" (k + 1) ["self", "around", "deep"] (spValue (RC K) deep) := by
  obtain ⟨fd, F⟩ := T.FM_value
  refine ⟨_, fd, F.ok sc_value (fun vs H Q E h => ?_) (fun cdv A outer s H vs Q E hr h => ?_), T.M_value, F.binds fun _ _ _ _ _ _ us hl => match us, hl with | [_, _, _], _ => rfl⟩
  · obtain ⟨p, l, data, s, ar, rfl, _⟩ := h
    rfl
  · obtain ⟨p, l, data, s0, ar, rfl, har, R0, q⟩ := h
    have hr1 : Room 1 _ := hr.mono (by omega)
    have hr2 : Room 2 _ := hr.mono (by omega)
    have hr3 : Room 3 _ := hr.mono (by omega)
    have hr4 : Room 4 _ := hr.mono hk
    have al := arS_list har
    have ad := arS_dict har
    obtain ⟨dxp, hp0⟩ := R0.ob
    refine ⟨_, pss_one (ps_while PassesOwn.never (pt_val pe_bl)
      (pss_cons (ps_expr (pe_mcal0 T.cl (ok_skip_space T) hr3 (pv 0)))
      (pss_cons (ps_set (i := 3) sc_value.nd rfl (.inl rfl) (pe_mcal0 T.cl (ok_here T) hr1 (pv 0)))
      (pss_cons (ps_if (PW.pt (pw_or (pt_cmpR op_lt (pv 3) pe_int (nomark _)) (pw_or1 (pt_val (pe_mcal T.cl (ok_is_mark T) hr3 (pv 0) (pa_cons (pe_gi T.i_OBJECT) pa_nil)))))) (pss_one (ps_ret pe_non)) pss_nil)
      (C8.pss_cut (ps_if (PW.pt (pw_or (PW.pt (pw_and (pt_cmpR op_eq (pv 1) pe_str (nomark _)) (pw_and1 (pt_cmpR op_eq (pv 3) (pe_gi T.i_LIST_END) (nomark _)))))
          (pw_or1 (PW.pt (pw_and (pt_cmpR op_eq (pv 1) pe_str (nomark _)) (pw_and1 (pt_val (pe_mcal T.cl (ok_starts T) hr1 (pv 0) (pa_cons (pe_gi T.i_MORE) (pa_cons (pe_gi T.i_MORE) pa_nil)))))))))) (pss_one (ps_ret pe_non)) pss_nil)
      (pss_cons (ps_set (i := 4) sc_value.nd rfl (.inl rfl) pe_non)
      (C8.pss_cut (ps_if (pt_val (pe_cal (ok_is_regular T) hr1 (pa_cons (pv 3) pa_nil)))
        (pss_one (ps_set (i := 4) sc_value.nd rfl (.inl rfl) (pe_mcal0 T.cl (ok_word_value T) hr3 (pv 0))))
        (pss_one (ps_if (PW.pt (pw_or (pt_cmpR op_in_seq (pv 3) (pe_tup (pa_cons (pe_gi T.i_TEXT) (pa_cons (pe_gi T.i_NAME) (pa_cons (pe_gi T.i_REFERENCE) pa_nil)))) rfl)
            (pw_or1 (PW.pt (pw_and (pt_cmpR op_eq (pv 3) (pe_gi T.i_LESS) (nomark _)) (pw_and1 (pt_not (pt_val (pe_mcal T.cl (ok_starts T) hr1 (pv 0) (pa_cons (pe_gi T.i_LESS) (pa_cons (pe_gi T.i_LESS) pa_nil)))))))))))
          (pss_one (ps_set (i := 4) sc_value.nd rfl (.inl rfl) (pe_mcal T.cl (ok_plain_value T) hr4 (pv 0) (pa_cons (pv 3) pa_nil))))
          (pss_one (ps_if (PW.pt (pw_and (pt_cmpR op_lt (pv 2) (pe_gi T.i_MOST_DEEP) (nomark _)) (pw_and1 (pt_cmpR op_eq (pv 3) (pe_gi T.i_LIST) (nomark _)))))
            (pss_one (ps_ret (pe_mcal T.cl cl hr (pv 0) (pa_cons (pv 2) pa_nil))))
            (pss_one (ps_if (PW.pt (pw_and (pt_cmpR op_lt (pv 2) (pe_gi T.i_MOST_DEEP) (nomark _)) (pw_and1 (pt_cmpR op_eq (pv 3) (pe_gi T.i_LESS) (nomark _)))))
              (pss_one (ps_ret (pe_mcal T.cl cd hr (pv 0) (pa_cons (pv 2) pa_nil))))
              (pss_one (ps_fld (pv 0) (pe_op op_add (pe_fld (pv 0) rfl) pe_int) rfl)))))))))
      (pss_one (ps_if (pt_cmpR op_notN (pv 4) pe_non (nomark _)) (pss_one (ps_ret (pv 4))) pss_nil))))))))), ?_⟩
    refine ⟨fun m σ H' => ∃ s x3 x4, σ = [some (.ref p), some (.str (arS ar)), some (.int (deep : Int)), x3, x4] ∧ m = s.length ∧ RAt (RC K) p l data s H' ∧ Fr p H H' ∧ ∀ v t, PV ar deep s v t → PV ar deep s0 v t,
      ⟨_, s0, none, none, rfl, rfl, R0, Fr.refl _ _, fun v t h => h⟩, ?_⟩
    rintro m σ H' ⟨s, x3, x4, rfl, rfl, R, fr, hpv⟩
    obtain ⟨dx, h1⟩ := R.ob
    refine ⟨_, rfl, iteT ?_⟩
    refine ⟨fun σ3 H3 => ∃ s3 x3 x4, σ3 = [some (.ref p), some (.str (arS ar)), some (.int (deep : Int)), x3, x4] ∧ s3.length < s.length ∧ RAt (RC K) p l data s3 H3 ∧ Fr p H H3 ∧ ∀ v t, PV ar deep s3 v t → PV ar deep s0 v t,
      fun σ3 H3 ⟨s3, x3, x4, e1, e2, e3⟩ => ⟨_, e2, s3, x3, x4, e1, rfl, e3⟩, ?_⟩
    refine ⟨_, rfl, p, dx, _, rfl, h1, rf_no _ _ (by decide +kernel) (by decide +kernel), p, l, data, s, rfl, R, fun H1 R1 fr1 => ?_⟩
    have R1 : RAt (RC K) p l data (skipS false s) H1 := R1
    have hsl := len_skipS false s
    have frA := fr.trans fr1
    obtain ⟨dy, h2⟩ := R1.ob
    refine ⟨_, rfl, p, dy, _, rfl, h2, rf_no _ _ (by decide +kernel) (by decide +kernel), p, l, data, _, rfl, R1, ?_⟩
    cases hsk : skipS false s with
    | nil =>
      rw [hsk] at R1
      refine ⟨_, rfl, _, _, rfl, rfl, _, rfl, ifB_t (by decide) ?_⟩
      exact q _ _ _ _ (hpv _ _ (PV.nil hsk)) R1 frA rfl
    | cons c r =>
      rw [hsk] at R1 h2 hsl
      have hc0 := (R1.sb (b := c) List.mem_cons_self).1
      have hnl : ¬ (c < 0) := by omega
      refine ⟨_, rfl, _, _, rfl, rfl, _, rfl, ifB_f hnl ?_⟩
      refine ⟨_, rfl, p, dy, _, rfl, h2, rf_no _ _ (by decide +kernel) (by decide +kernel), p, l, data, c :: r, 35, rfl, R1, fun H2 s2 => ⟨_, rfl, ?_⟩⟩
      have R2 := R1.same s2
      have h3 := s2 _ _ h2
      have frB := frA.trans (Fr.of (p := p) s2)
      by_cases hm : isMark 35 (c :: r) = true
      · rw [hm]
        refine iteT ?_
        exact q _ _ _ _ (hpv _ _ (PV.mark hsk hm)) R2 frB rfl
      · rw [show isMark 35 (c :: r) = false by simpa using hm]
        refine iteF ?_
        refine ⟨fun σ' H3 => σ' = [some (.ref p), some (.str (arS ar)), some (.int (deep : Int)), some (.int c), x4] ∧ Same H2 H3 ∧ ¬ gStop ar c r, ?_, ?_⟩
        · -- what stops
          have stopQ : gStop ar c r → ∀ H3, Same H2 H3 → Q .non H3 := fun hs H3 s3 => q _ _ _ _ (hpv _ _ (PV.stop hsk hs)) (R2.same s3) (frB.trans (Fr.of s3)) rfl
          refine ⟨_, rfl, rfl, _, rfl, ifD al (fun ea => ?_) (fun ea => ?_)⟩
          · refine ⟨_, rfl, rfl, _, rfl, ifI (fun e => ?_) (fun e => ?_)⟩
            · exact stopQ (.inl ⟨ea, e⟩) _ (Same.refl _)
            · refine ⟨_, rfl, rfl, _, rfl, ifD ad (fun eb => by omega) (fun eb => ?_)⟩
              exact ⟨rfl, Same.refl _, fun g => g.elim (fun g => e g.2) fun g => eb g.1⟩
          · refine ⟨_, rfl, rfl, _, rfl, ifD ad (fun eb => ?_) (fun eb => ?_)⟩
            · refine ⟨_, rfl, p, dy, _, rfl, h3, rf_no _ _ (by decide +kernel) (by decide +kernel), p, l, data, c :: r, 62, 62, rfl, R2, fun H3 s3 => ⟨_, rfl, ifB (fun z => ?_) (fun z => ?_)⟩⟩
              · exact stopQ (.inr ⟨eb, z⟩) _ s3
              · exact ⟨rfl, s3, fun g => g.elim (fun g => ea g.1) fun g => z g.2⟩
            · exact ⟨rfl, Same.refl _, fun g => g.elim (fun g => ea g.1) fun g => eb g.1⟩
        · rintro σ' H3 ⟨rfl, s3, hs⟩
          have R3 := R2.same s3
          have h4 := s3 _ _ h3
          have frC := frB.trans (Fr.of (p := p) s3)
          have hb : (c :: r).length ≤ s.length := hsl
          refine ⟨fun σ' H' => ∃ s2 u v, σ' = [some (.ref p), some (.str (arS ar)), some (.int (deep : Int)), some (.int c), some u] ∧ RAt (RC K) p l data s2 H' ∧ Fr p H H' ∧ RepO H' u v ∧ s2.length < s.length ∧
            (match v with | none => ∀ v' t, PV ar deep s2 v' t → PV ar deep s v' t | some x => PV ar deep s (some x) s2), ?_, ?_⟩
          · refine ⟨_, rfl, c, rfl, _, rfl, ifD (p := isReg c = true) (by simp) (fun hr => ?_) (fun hr => ?_)⟩
            · refine ⟨_, rfl, p, dy, _, rfl, h4, rf_no _ _ (by decide +kernel) (by decide +kernel), p, l, data, c :: r, rfl, R3, fun u H5 R5 fr5 rep5 => ?_⟩
              have := len_dropR (r := r) hr
              refine ⟨dropR (c :: r), u, _, rfl, R5, frC.trans fr5, rep5, by omega, ?_⟩
              cases hw : wordVal (takeR (c :: r)) with
              | none => exact fun v' t k => PV.word0 hsk hm hs hr hw k
              | some x => exact PV.word hsk hm hs hr hw
            · have plain : gPlain c r → ∀ H5, Same H3 H5 → ∃ dz, H5 p = some (.ins (RC K) dz (rf l ((data.length - (c :: r).length : Nat) : Int))) ∧ RAt (RC K) p l data (c :: r) H5 ∧ ∀ u H6, RAt (RC K) p l data (plainV c (c :: r)).2 H6 → Fr p H5 H6 → RepO H6 u (plainV c (c :: r)).1 →
                  ∃ s2 u' v, ([some (.ref p), some (.str (arS ar)), some (.int (deep : Int)), some (.int c), some u] : L2.St) = [some (.ref p), some (.str (arS ar)), some (.int (deep : Int)), some (.int c), some u'] ∧ RAt (RC K) p l data s2 H6 ∧ Fr p H H6 ∧ RepO H6 u' v ∧ s2.length < s.length ∧
                    (match v with | none => ∀ v' t, PV ar deep s2 v' t → PV ar deep s v' t | some x => PV ar deep s (some x) s2) := by
                intro hp H5 s5
                refine ⟨dy, s5 _ _ h4, R3.same s5, fun u H6 R6 fr6 rep6 => ?_⟩
                have := len_plainV c r
                refine ⟨(plainV c (c :: r)).2, u, _, rfl, R6, (frC.trans (Fr.of s5)).trans fr6, rep6, by omega, ?_⟩
                match hw : plainV c (c :: r) with
                | (none, t2) => exact fun v' t k => PV.plain0 hsk hm hs hr hp hw k
                | (some x, t2) => exact PV.plain hsk hm hs hr hp hw
              refine ⟨_, rfl, by show 3 ≤ sizeLine; decide, fun tp ntp => ?_⟩
              have sT := same_new (o := .tup [V.int 40, V.int 47, V.int 64]) ntp
              have hT : SqT K (upd H3 tp (.tup [V.int 40, V.int 47, V.int 64])) tp (([40, 47, 64] : List Int).map V.int) := SqT.of upd_same
              generalize upd H3 tp (.tup [V.int 40, V.int 47, V.int 64]) = H4 at hT sT
              have R4 := R3.same sT
              have h5 := sT _ _ h4
              have frD := frC.trans (Fr.of (p := p) sT)
              refine ⟨_, _, rfl, .inr hT, rfl, flat_ints _, _, rfl, ifD (in_eq c [40, 47, 64]) (fun z => ?_) (fun z => ?_)⟩
              · have hp : gPlain c r := by
                  have := of_decide_eq_true (p := c ∈ [40, 47, 64]) (by simpa using z)
                  simp only [List.mem_cons, List.not_mem_nil, or_false] at this
                  rcases this with e | e | e
                  · exact .inl e
                  · exact .inr (.inl e)
                  · exact .inr (.inr (.inl e))
                obtain ⟨dz, e1, e2, e3⟩ := plain hp H4 sT
                exact ⟨_, rfl, p, dz, _, rfl, e1, rf_no _ _ (by decide +kernel) (by decide +kernel), _, rfl, p, l, data, r, c, rfl, e2, fun u H6 R6 fr6 rep6 => e3 u H6 R6 fr6 rep6⟩
              · have z' : ¬ (c = 40 ∨ c = 47 ∨ c = 64) := by
                  intro y
                  refine z ?_
                  rcases y with e | e | e <;> simp [e]
                -- the step over one byte
                have skipQ : ¬ gPlain c r → ¬ (deep < 16 ∧ c = 91) → ¬ (deep < 16 ∧ c = 60) → ∀ H5, Same H4 H5 → ∃ dz, H5 p = some (.ins (RC K) dz (rf l ((data.length - (c :: r).length : Nat) : Int))) ∧
                    ∃ s2 u' v, ([some (.ref p), some (.str (arS ar)), some (.int (deep : Int)), some (.int c), some .non] : L2.St) = [some (.ref p), some (.str (arS ar)), some (.int (deep : Int)), some (.int c), some u'] ∧ RAt (RC K) p l data s2 (upd H5 p (.ins (RC K) dz (putF "at" (.int (((data.length - (c :: r).length : Nat) : Int) + 1)) (rf l ((data.length - (c :: r).length : Nat) : Int))))) ∧
                    Fr p H (upd H5 p (.ins (RC K) dz (putF "at" (.int (((data.length - (c :: r).length : Nat) : Int) + 1)) (rf l ((data.length - (c :: r).length : Nat) : Int))))) ∧ RepO (upd H5 p (.ins (RC K) dz (putF "at" (.int (((data.length - (c :: r).length : Nat) : Int) + 1)) (rf l ((data.length - (c :: r).length : Nat) : Int))))) u' v ∧ s2.length < s.length ∧
                    (match v with | none => ∀ v' t, PV ar deep s2 v' t → PV ar deep s v' t | some x => PV ar deep s (some x) s2) := by
                  intro g1 g2 g3 H5 s5
                  have h6 := s5 _ _ h5
                  refine ⟨dy, h6, r, .non, none, rfl, (R4.same s5).step h6, (frD.trans (Fr.of s5)).trans fr_upd, rfl, ?_, fun v' t k => PV.skip hsk hm hs hr g1 g2 g3 k⟩
                  simp only [List.length_cons] at hb
                  omega
                refine ⟨_, rfl, rfl, _, rfl, ifI (fun e => ?_) (fun e => ?_)⟩
                · refine ⟨_, rfl, p, dy, _, rfl, h5, rf_no _ _ (by decide +kernel) (by decide +kernel), p, l, data, c :: r, 60, 60, rfl, R4, fun H5 s5 => ⟨_, rfl, ?_⟩⟩
                  have h6 := s5 _ _ h5
                  by_cases z2 : (c :: r).take 2 = [60, 60]
                  · have hng : ¬ gPlain c r := fun g => by
                      rcases g with g | g | g | g
                      · exact z' (.inl g)
                      · exact z' (.inr (.inl g))
                      · exact z' (.inr (.inr g))
                      · exact g.2 z2
                    rw [decide_eq_true z2]
                    refine iteF ?_
                    refine ⟨_, rfl, _, _, rfl, rfl, _, rfl, ifB (fun hd16 => ?_) (fun hd16 => ?_)⟩
                    · refine ⟨_, rfl, rfl, _, rfl, ifI_f (i := c) (j := 91) (by omega) ?_⟩
                      refine ⟨_, rfl, _, _, rfl, rfl, _, rfl, ifB_t hd16 ?_⟩
                      refine ⟨_, rfl, rfl, _, rfl, ifI_t (i := c) (j := 60) e ?_⟩
                      refine ⟨_, rfl, p, dy, _, rfl, h6, rf_no _ _ (by decide +kernel) (by decide +kernel), _, rfl, ?_⟩
                      refine ⟨by omega, p, l, data, c, r, rfl, R4.same s5, ?_, fun v t u H7 hpd R7 fr7 rep7 => ?_⟩
                      · cases r with
                        | nil => cases z2
                        | cons a b => simp
                      · exact q _ _ _ _ (hpv _ _ (PV.dict hsk hm hs hr hng (fun y => by omega) ⟨by omega, e⟩ hpd)) R7 ((frD.trans (Fr.of s5)).trans fr7) rep7
                    · refine ⟨_, rfl, _, _, rfl, rfl, _, rfl, ifB_f hd16 ?_⟩
                      obtain ⟨dz, hz, rest⟩ := skipQ hng (fun y => by omega) (fun y => by omega) H5 s5
                      exact ⟨_, rfl, p, _, dz, _, _, rfl, hz, T.cl, T.nAt, rf_at _ _, _, _, rfl, rfl, _, rfl, p, _, dz, _, rfl, hz, T.cl, T.nAt, rf_few _ _, rest⟩
                  · rw [decide_eq_false z2]
                    obtain ⟨dz, e1, e2, e3⟩ := plain (.inr (.inr (.inr ⟨e, z2⟩))) H5 (sT.trans s5)
                    exact iteT ⟨_, rfl, p, dz, _, rfl, e1, rf_no _ _ (by decide +kernel) (by decide +kernel), _, rfl, p, l, data, r, c, rfl, e2, fun u H6 R6 fr6 rep6 => e3 u H6 R6 fr6 rep6⟩
                · have hng : ¬ gPlain c r := fun g => by
                    rcases g with g | g | g | g
                    · exact z' (.inl g)
                    · exact z' (.inr (.inl g))
                    · exact z' (.inr (.inr g))
                    · exact e g.1
                  refine ⟨_, rfl, _, _, rfl, rfl, _, rfl, ifB (fun hd16 => ?_) (fun hd16 => ?_)⟩
                  · refine ⟨_, rfl, rfl, _, rfl, ifI (fun e2 => ?_) (fun e2 => ?_)⟩
                    · refine ⟨_, rfl, p, dy, _, rfl, h5, rf_no _ _ (by decide +kernel) (by decide +kernel), _, rfl, ?_⟩
                      refine ⟨by omega, p, l, data, c, r, rfl, R4, fun vs t u H7 hpl R7 fr7 rep7 => ?_⟩
                      exact q _ _ _ _ (hpv _ _ (PV.list hsk hm hs hr hng ⟨by omega, e2⟩ hpl)) R7 (frD.trans fr7) rep7
                    · refine ⟨_, rfl, _, _, rfl, rfl, _, rfl, ifB_t hd16 ?_⟩
                      refine ⟨_, rfl, rfl, _, rfl, ifI_f e ?_⟩
                      obtain ⟨dz, hz, rest⟩ := skipQ hng (fun y => e2 y.2) (fun y => e y.2) H4 (Same.refl _)
                      exact ⟨_, rfl, p, _, dz, _, _, rfl, hz, T.cl, T.nAt, rf_at _ _, _, _, rfl, rfl, _, rfl, p, _, dz, _, rfl, hz, T.cl, T.nAt, rf_few _ _, rest⟩
                  · refine ⟨_, rfl, _, _, rfl, rfl, _, rfl, ifB_f hd16 ?_⟩
                    obtain ⟨dz, hz, rest⟩ := skipQ hng (fun y => by omega) (fun y => e y.2) H4 (Same.refl _)
                    exact ⟨_, rfl, p, _, dz, _, _, rfl, hz, T.cl, T.nAt, rf_at _ _, _, _, rfl, rfl, _, rfl, p, _, dz, _, rfl, hz, T.cl, T.nAt, rf_few _ _, rest⟩
          · rintro σ' H4 ⟨s2, u, v, rfl, R4, fr4, rep4, hlt, hv⟩
            refine ⟨_, rfl, rfl, _, rfl, ?_⟩
            cases v with
            | none =>
              have eu : u = .non := rep4
              subst eu
              refine iteF ⟨s2, _, _, rfl, hlt, R4, fr4, fun v' t k => hpv _ _ (hv v' t k)⟩
            | some x =>
              have rx : Rep H4 u x := rep4
              obtain ⟨ua, eu⟩ := rx.isRef
              subst eu
              exact iteT ⟨_, rfl, q _ _ _ _ (hpv _ _ hv) R4 fr4 rep4⟩
end
end K22

set_option maxHeartbeats 4000000
/-! dict_value -/
namespace K22
open PySem PySem.Spec PyProof.Rows L2
theorem skipS_idem : ∀ (b : Bool) (s : List Int), skipS false (skipS b s) = skipS b s
  | true, [] => rfl
  | false, [] => rfl
  | false, c :: r => by
    have h1 := skipS_idem false r
    have h2 := skipS_idem true r
    by_cases hw : isWhite c = true
    · rw [show skipS false (c :: r) = skipS false r by conv => lhs; unfold skipS; rw [if_pos hw]]
      exact h1
    · by_cases h37 : c = 37
      · rw [show skipS false (c :: r) = skipS true r by conv => lhs; unfold skipS; rw [if_neg hw, if_pos h37]]
        exact h2
      · have e : skipS false (c :: r) = c :: r := by conv => lhs; unfold skipS; rw [if_neg hw, if_neg h37]
        rw [e, e]
  | true, c :: r => by
    have h1 := skipS_idem false r
    have h2 := skipS_idem true r
    by_cases hw : c ∈ lends
    · rw [show skipS true (c :: r) = skipS false r by conv => lhs; unfold skipS; rw [if_pos hw]]
      exact h1
    · rw [show skipS true (c :: r) = skipS true r by conv => lhs; unfold skipS; rw [if_neg hw]]
      exact h2
/-- a dict under construction -/
inductive RepK (H : Hp) : List (List L2.Key × V) → List (List Int × Val) → Prop
  | nil : RepK H [] []
  | cons {k : List Int} {u : V} {v : Val} {kvs : List (List L2.Key × V)} {ps : List (List Int × Val)} : Rep H u v → RepK H kvs ps → RepK H ((k.map Sum.inl, u) :: kvs) ((k, v) :: ps)
theorem RepK.keep {H H' : Hp} (t : TK H H') {kvs : List (List L2.Key × V)} {ps : List (List Int × Val)} (r : RepK H kvs ps) : RepK H' kvs ps := by
  induction r with
  | nil => exact .nil
  | cons h _ ih => exact .cons (Rep.keep t h) ih
theorem RepK.len {H : Hp} {kvs : List (List L2.Key × V)} {ps : List (List Int × Val)} (r : RepK H kvs ps) : kvs.length = ps.length := by
  induction r with
  | nil => rfl
  | cons h _ ih => rw [List.length_cons, List.length_cons, ih]
theorem inl_inj : ∀ {a b : List Int}, a.map (Sum.inl : Int → L2.Key) = b.map Sum.inl → a = b
  | [], [], _ => rfl
  | [], _ :: _, h => by cases h
  | _ :: _, [], h => by cases h
  | x :: a, y :: b, h => by
    rw [List.map_cons, List.map_cons] at h
    injection h with h1 h2
    rw [Sum.inl.inj h1, inl_inj h2]
theorem inl_dec (a b : List Int) : decide (a.map (Sum.inl : Int → L2.Key) = b.map Sum.inl) = decide (a = b) := by
  by_cases h : a = b
  · rw [h, decide_eq_true rfl, decide_eq_true rfl]
  · rw [decide_eq_false h, decide_eq_false fun e => h (inl_inj e)]
theorem RepK.any {H : Hp} {kvs : List (List L2.Key × V)} {ps : List (List Int × Val)} (r : RepK H kvs ps) (k : List Int) : (kvs.any fun kv => decide (kv.1 = k.map Sum.inl)) = (ps.any fun kv => decide (kv.1 = k)) := by
  induction r with
  | nil => rfl
  | cons h _ ih => rw [List.any_cons, List.any_cons, ih, inl_dec]
theorem RepK.snoc {H : Hp} {kvs : List (List L2.Key × V)} {ps : List (List Int × Val)} (r : RepK H kvs ps) {k : List Int} {u : V} {v : Val} (h : Rep H u v) : RepK H (kvs ++ [(k.map Sum.inl, u)]) (ps ++ [(k, v)]) := by
  induction r with
  | nil => exact .cons h .nil
  | cons a _ ih => exact .cons a ih
theorem RepK.sub {H : Hp} {kvs : List (List L2.Key × V)} {ps : List (List Int × Val)} (r : RepK H kvs ps) {k : List Int} {u : V} {v : Val} (h : Rep H u v) :
    RepK H (kvs.map (fun kv => if kv.1 = k.map Sum.inl then (kv.1, u) else kv)) (ps.map (fun kv => if kv.1 = k then (kv.1, v) else kv)) := by
  induction r with
  | nil => exact .nil
  | @cons k' u' v' kvs ps a _ ih =>
    rw [List.map_cons, List.map_cons]
    by_cases e : k' = k
    · have e2 : (k'.map (Sum.inl : Int → L2.Key)) = k.map Sum.inl := by rw [e]
      rw [if_pos e2, if_pos e]
      exact .cons h ih
    · have e2 : ¬ (k'.map (Sum.inl : Int → L2.Key)) = k.map Sum.inl := fun z => e (inl_inj z)
      rw [if_neg e2, if_neg e]
      exact .cons a ih
theorem RepK.put {H : Hp} {kvs : List (List L2.Key × V)} {ps : List (List Int × Val)} (r : RepK H kvs ps) {k : List Int} {u : V} {v : Val} (h : Rep H u v) : RepK H (putK kvs (k.map Sum.inl) u) (putA ps k v) := by
  unfold putK putA
  have e := r.any k
  by_cases c : (ps.any fun kv => decide (kv.1 = k)) = true
  · rw [if_pos (e.trans c), if_pos c]
    exact r.sub h
  · rw [if_neg (fun z => c (e.symm.trans z)), if_neg c]
    exact r.snoc h
theorem putA_len {ps : List (List Int × Val)} (k : List Int) (v : Val) : (putA ps k v).length ≤ ps.length + 1 := by
  unfold putA
  split
  · rw [List.length_map]; omega
  · rw [List.length_append]; simp
theorem repP_of {H : Hp} {ts : List Addr} {kvs : List (List L2.Key × V)} {ps : List (List Int × Val)} (p : Paired (fun (t : Addr) (q : List L2.Key × V) => ∃ kq, H t = some (.tup [.ref kq, q.2]) ∧ H kq = some (.tup (q.1.map kV))) ts kvs) (r : RepK H kvs ps) : RepP H (ts.map V.ref) ps := by
  induction r generalizing ts with
  | nil => cases p; exact .nil
  | cons h _ ih =>
    cases p with
    | cons a t =>
      obtain ⟨kq, h1, h2⟩ := a
      refine .cons h1 (h2.trans ?_) h (ih t)
      rw [List.map_map] <;> rfl
section
variable {P : Program} {w : World} {K : PySem.W.Frag} {mg : Str → Option Value} {base : Heap}
theorem sc_dict_value : FnScope ["self", "deep", "pairs", "code", "key", "value"] ["self", "deep"] (defScope m_dict_value) := ⟨rfl, rfl, rfl, by decide +kernel, rfl, by decide +kernel, by decide +kernel⟩
theorem ok_dict_value (T : Tx K mg) {deep k : Nat} (hk : 3 ≤ k) (cv : CalM P w K mg base (RC K) "value" k ["self", "around", "deep"] (spValue (RC K) (deep + 1))) :
    CalM P w K mg base (RC K) "dict_value" (k + 1) ["self", "deep"] (spDictV (RC K) deep) := by
  obtain ⟨fd, F⟩ := T.FM_dict_value
  refine ⟨_, fd, F.ok sc_dict_value (fun vs H Q E h => ?_) (fun cdv A outer s H vs Q E hr h => ?_), T.M_dict_value, F.binds fun _ _ _ _ _ _ us hl => match us, hl with | [_, _], _ => rfl⟩
  · obtain ⟨_, p, l, data, c, r, rfl, _⟩ := h
    rfl
  · obtain ⟨hd16, p, l, data, c0, r0, rfl, R0, hr0, q⟩ := h
    obtain ⟨dx, h0⟩ := R0.ob
    have hr1 : Room 1 _ := hr.mono (by omega)
    have hr2 : Room 2 _ := hr.mono (by omega)
    have hr3 : Room 3 _ := hr.mono hk
    have hu1 : ∀ {A : Around}, Room k A → A.units + 1 < cLine := fun r => by have := r.un; omega
    refine ⟨_, pss_cons (ps_fld (pv 0) (pe_op op_add (pe_fld (pv 0) rfl) pe_int) rfl)
      (pss_cons (ps_set (i := 2) sc_dict_value.nd rfl (.inl rfl) pe_dnewT)
      (pss_one (ps_while PassesOwn.never (pt_val pe_bl)
        (pss_cons (ps_expr (pe_mcal0 T.cl (ok_skip_space T) hr3 (pv 0)))
        (pss_cons (ps_set (i := 3) sc_dict_value.nd rfl (.inl rfl) (pe_mcal0 T.cl (ok_here T) hr1 (pv 0)))
        (C8.pss_cut (ps_if (PW.pt (pw_or (pt_cmpR op_lt (pv 3) pe_int (nomark _)) (pw_or1 (pt_val (pe_mcal T.cl (ok_is_mark T) hr3 (pv 0) (pa_cons (pe_gi T.i_OBJECT) pa_nil))))))
          (pss_one (ps_ret (pe_tup (pa_cons pe_str (pa_cons (pe_callTy (call_tupleItems (by rfl)) (by rfl) T.fr_tuple (by decide +kernel) (pa_cons (pe_bm0 PySem.F.plainAttrs_dict PySem.F.slot_dict_items PySem.F.type_dict_items DX.mt_itemsT (pv 2)) pa_nil)) pa_nil))))) pss_nil)
        (pss_cons (ps_if (pt_val (pe_mcal T.cl (ok_starts T) hr1 (pv 0) (pa_cons (pe_gi T.i_MORE) (pa_cons (pe_gi T.i_MORE) pa_nil))))
          (pss_cons (ps_fld (pv 0) (pe_op op_add (pe_fld (pv 0) rfl) pe_int) rfl)
            (pss_one (ps_ret (pe_mcal T.cl (ok_stream_value T) hr3 (pv 0) (pa_cons (pe_callTy (call_tupleItems (by rfl)) (by rfl) T.fr_tuple (by decide +kernel) (pa_cons (pe_bm0 PySem.F.plainAttrs_dict PySem.F.slot_dict_items PySem.F.type_dict_items DX.mt_itemsT (pv 2)) pa_nil)) pa_nil))))) pss_nil)
        (pss_one (ps_if (pt_cmpR op_eq (pv 3) (pe_gi T.i_NAME) (nomark _))
          (pss_cons (ps_fld (pv 0) (pe_op op_add (pe_fld (pv 0) rfl) pe_int) rfl)
          (pss_cons (ps_set (i := 4) sc_dict_value.nd rfl (.inl rfl) (pe_cal (ok_unescape T) hr2 (pa_cons (pe_mcal0 T.cl (ok_word T) hr2 (pv 0)) (pa_cons (pe_gi T.i_TILDE) pa_nil))))
          (pss_cons (ps_set (i := 5) sc_dict_value.nd rfl (.inl rfl) (pe_mcal T.cl cv hr (pv 0) (pa_cons pe_str (pa_cons (pe_op op_add (pv 1) pe_int) pa_nil))))
          (pss_one (ps_dput (hu1 hr) (pv 2) (pv 4) (pe_ifExp (pt_cmpR op_isN (pv 5) pe_non (nomark _)) (pe_tup (pa_cons pe_str pa_nil)) (pv 5)) (by rfl))))))
          (pss_one (ps_if (PW.pt (pw_or (pt_cmpR op_in_seq (pv 3) (pe_tup (pa_cons (pe_gi T.i_TEXT) (pa_cons (pe_gi T.i_LESS) (pa_cons (pe_gi T.i_LIST) pa_nil)))) rfl)
              (pw_or (pt_val (pe_cal (ok_is_regular T) hr1 (pa_cons (pv 3) pa_nil))) (pw_or1 (pt_val (pe_mcal T.cl (ok_is_mark T) hr3 (pv 0) (pa_cons (pe_gi T.i_REFERENCE) pa_nil)))))))
            (pss_one (ps_expr (pe_mcal T.cl cv hr (pv 0) (pa_cons pe_str (pa_cons (pe_op op_add (pv 1) pe_int) pa_nil)))))
            (pss_one (ps_fld (pv 0) (pe_op op_add (pe_fld (pv 0) rfl) pe_int) rfl))))))))))))), ?_⟩
    refine ⟨_, rfl, p, _, dx, _, _, rfl, h0, T.cl, T.nAt, rf_at _ _, _, _, rfl, rfl, _, rfl, p, _, dx, _, rfl, h0, T.cl, T.nAt, rf_few _ _, ?_⟩
    have R1 : RAt (RC K) p l data (r0.drop 1) (upd H p (.ins (RC K) dx (putF "at" (.int (((data.length - (c0 :: r0).length : Nat) : Int) + 2)) (rf l ((data.length - (c0 :: r0).length : Nat) : Int))))) := by
      refine R0.move h0 (sfx_drop 1 (sfx_tail R0.sfx)) ?_
      have := R0.le
      rw [List.length_drop]
      simp only [List.length_cons] at this ⊢
      omega
    have fr1 := fr_upd (p := p) (H := H) (o := .ins (RC K) dx (putF "at" (.int (((data.length - (c0 :: r0).length : Nat) : Int) + 2)) (rf l ((data.length - (c0 :: r0).length : Nat) : Int))))
    generalize upd H p (.ins (RC K) dx (putF "at" (.int (((data.length - (c0 :: r0).length : Nat) : Int) + 2)) (rf l ((data.length - (c0 :: r0).length : Nat) : Int)))) = H1 at R1 fr1
    generalize r0.drop 1 = z0 at R1 q
    refine fun D nD => ?_
    have hDH : H D = none := fr1.free h0 R1.any nD
    have sD := same_new (o := .dT []) nD
    have hD1 : (upd H1 D (.dT [])) D = some (.dT []) := upd_same
    have R2 := R1.same sD
    generalize upd H1 D (.dT []) = H2 at sD hD1 R2
    have ndp : D ≠ p := ne_of hD1 (R2.ob.choose_spec) (by intro z; cases z)
    have hz0 : z0.length ≤ 100000 := Nat.le_trans R1.le R1.small
    have hDl : D ≠ l := fun z => by
      have := R0.lst
      rw [← z, hDH] at this
      cases this
    refine ⟨fun m σ H' => ∃ s ps kvs x3 x4 x5, σ = [some (.ref p), some (.int (deep : Int)), some (.ref D), x3, x4, x5] ∧ m = s.length ∧ RAt (RC K) p l data s H' ∧ Fr p H H' ∧ H' D = some (.dT kvs) ∧ RepK H' kvs ps ∧ kvs.length + s.length ≤ z0.length ∧ ∀ v t, PD deep ps s v t → PD deep [] z0 v t,
      ⟨_, z0, [], [], none, none, none, rfl, rfl, R2, fr1.trans (Fr.of sD), hD1, .nil, by simp, fun v t h => h⟩, ?_⟩
    rintro m σ H' ⟨s, ps, kvs, x3, x4, x5, rfl, rfl, R, fr, hD, hK, hlen, hpd⟩
    obtain ⟨dy, h1⟩ := R.ob
    refine ⟨_, rfl, iteT ?_⟩
    refine ⟨fun σ3 H3 => ∃ s3 ps kvs x3 x4 x5, σ3 = [some (.ref p), some (.int (deep : Int)), some (.ref D), x3, x4, x5] ∧ s3.length < s.length ∧ RAt (RC K) p l data s3 H3 ∧ Fr p H H3 ∧ H3 D = some (.dT kvs) ∧ RepK H3 kvs ps ∧ kvs.length + s3.length ≤ z0.length ∧ ∀ v t, PD deep ps s3 v t → PD deep [] z0 v t,
      fun σ3 H3 ⟨s3, ps, kvs, x3, x4, x5, e1, e2, e3⟩ => ⟨_, e2, s3, ps, kvs, x3, x4, x5, e1, rfl, e3⟩, ?_⟩
    refine ⟨_, rfl, p, dy, _, rfl, h1, rf_no _ _ (by decide +kernel) (by decide +kernel), p, l, data, s, rfl, R, fun H3 R3 fr3 => ?_⟩
    have R3 : RAt (RC K) p l data (skipS false s) H3 := R3
    have hsl := len_skipS false s
    have frA := fr.trans fr3
    have hD3 := fr3 _ _ hD ndp
    have hK3 := hK.keep (R.tk fr3)
    obtain ⟨dz, h3⟩ := R3.ob
    refine ⟨_, rfl, p, dz, _, rfl, h3, rf_no _ _ (by decide +kernel) (by decide +kernel), p, l, data, _, rfl, R3, ?_⟩
    generalize hsk : skipS false s = s1 at R3 h3 hsl
    have keepD : ∀ {H4 : Hp}, Same H3 H4 → H4 D = some (.dT kvs) := fun s4 => s4 _ _ hD3
    -- the pairs as a tuple, from any heap behind
    have pairsT : ∀ {H4 H5 : Hp} {vw : Addr} {ts : List Addr}, TK H3 H4 → H4 vw = none → Same (upd H4 vw (DX.itemsO vw D)) H5 → Paired (fun (t : Addr) (q : List L2.Key × V) => ∃ kq, H5 t = some (.tup [.ref kq, q.2]) ∧ H5 kq = some (.tup (q.1.map kV))) ts kvs → RepP H5 (ts.map V.ref) ps := by
      intro H4 H5 vw ts t4 nv sm hp
      refine repP_of hp (hK3.keep fun a xs z => sm _ _ ?_)
      rw [upd_ne (ne_of_none (t4 _ _ z) nv)]
      exact t4 _ _ z
    have ret : PD deep ps s (.dict ps) s1 → ∀ H4, Same H3 H4 → ∀ vw, H4 vw = none → ∀ H5 l' ts, Same (upd H4 vw (DX.itemsO vw D)) H5 → H5 l' = some (.tup (ts.map V.ref)) → Paired (fun (t : Addr) (q : List L2.Key × V) => ∃ kq, H5 t = some (.tup [.ref kq, q.2]) ∧ H5 kq = some (.tup (q.1.map kV))) ts kvs →
        ∀ y, H5 y = none → Q (.ref y) (upd H5 y (.tup [.str "dict", .ref l'])) := by
      intro hh H4 s4 vw nv H5 l' ts sm hl hp y ny
      have sA : Same H3 H5 := s4.trans ((same_new nv).trans sm)
      have sY := same_new (o := .tup [V.str "dict", V.ref l']) ny
      exact q _ _ _ _ (hpd _ _ hh) (R3.same (sA.trans sY)) (frA.trans (Fr.of (sA.trans sY))) (.dict upd_same (sY _ _ hl) (RepP.keep (TK.of sY) (pairsT (TK.of s4) nv sm hp)))
    refine ⟨fun σ' H' => σ' = [some (.ref p), some (.int (deep : Int)), some (.ref D), some (.int (s1.headD (-1))), x4, x5] ∧ Same H3 H' ∧ ∃ c r, s1 = c :: r ∧ ¬ isMark 35 (c :: r) = true, ?_, ?_⟩
    · cases s1 with
      | nil =>
        have hD4 := hD3
        refine ⟨_, rfl, _, _, rfl, rfl, _, rfl, ifB_t (by decide) ?_⟩
        exact ⟨_, rfl, .inr (.inr (.inl ⟨rfl, .inr ⟨_, hD4⟩⟩)), D, kvs, rfl, rfl, hD4, fun vw nv => ⟨vw, D, kvs, rfl, upd_same, by rw [upd_ne (ne_of_none hD4 nv)]; exact hD4, fun H5 l' ts sm nl hl hp => ⟨by show 2 ≤ sizeLine; decide, fun y ny => ret (PD.nil hsk) _ (Same.refl _) vw nv H5 l' ts sm hl hp y ny⟩⟩⟩
      | cons c r =>
        have hc0 := (R3.sb (b := c) List.mem_cons_self).1
        have hnl : ¬ (c < 0) := by omega
        refine ⟨_, rfl, _, _, rfl, rfl, _, rfl, ifB_f hnl ?_⟩
        refine ⟨_, rfl, p, dz, _, rfl, h3, rf_no _ _ (by decide +kernel) (by decide +kernel), p, l, data, c :: r, 35, rfl, R3, fun H4 s4 => ⟨_, rfl, ?_⟩⟩
        have hD4 := keepD s4
        by_cases hm : isMark 35 (c :: r) = true
        · rw [hm]
          refine iteT ?_
          exact ⟨_, rfl, .inr (.inr (.inl ⟨rfl, .inr ⟨_, hD4⟩⟩)), D, kvs, rfl, rfl, hD4, fun vw nv => ⟨vw, D, kvs, rfl, upd_same, by rw [upd_ne (ne_of_none hD4 nv)]; exact hD4, fun H5 l' ts sm nl hl hp => ⟨by show 2 ≤ sizeLine; decide, fun y ny => ret (PD.mark hsk hm) _ s4 vw nv H5 l' ts sm hl hp y ny⟩⟩⟩
        · rw [show isMark 35 (c :: r) = false by simpa using hm]
          exact iteF ⟨rfl, s4, c, r, rfl, hm⟩
    · rintro σ' H4 ⟨rfl, s4, c, r, rfl, hm⟩
      have R4 := R3.same s4
      have h4 := s4 _ _ h3
      have frB := frA.trans (Fr.of (p := p) s4)
      have hb : r.length + 1 ≤ s.length := hsl
      refine ⟨_, rfl, p, dz, _, rfl, h4, rf_no _ _ (by decide +kernel) (by decide +kernel), p, l, data, c :: r, 62, 62, rfl, R4, fun H5 s5 => ⟨_, rfl, ifB (fun he => ?_) (fun he => ?_)⟩⟩
      · -- the end
        have h5 := s5 _ _ h4
        have R5 := R4.same s5
        refine ⟨_, rfl, p, _, dz, _, _, rfl, h5, T.cl, T.nAt, rf_at _ _, _, _, rfl, rfl, _, rfl, p, _, dz, _, rfl, h5, T.cl, T.nAt, rf_few _ _, ?_⟩
        have R6 : RAt (RC K) p l data (r.drop 1) (upd H5 p (.ins (RC K) dz (putF "at" (.int (((data.length - (c :: r).length : Nat) : Int) + 2)) (rf l ((data.length - (c :: r).length : Nat) : Int))))) := by
          refine R5.move h5 (sfx_drop 1 (sfx_tail R5.sfx)) ?_
          have h7 := R5.le
          have h8 := congrArg List.length he
          rw [List.length_take] at h8
          rw [List.length_drop]
          simp only [List.length_cons, List.length_nil] at h7 h8 ⊢
          omega
        have fr6 := fr_upd (p := p) (H := H5) (o := .ins (RC K) dz (putF "at" (.int (((data.length - (c :: r).length : Nat) : Int) + 2)) (rf l ((data.length - (c :: r).length : Nat) : Int))))
        have t6 : TK H3 (upd H5 p (.ins (RC K) dz (putF "at" (.int (((data.length - (c :: r).length : Nat) : Int) + 2)) (rf l ((data.length - (c :: r).length : Nat) : Int))))) := fun a xs z => R5.tk fr6 _ _ ((s4.trans s5) _ _ z)
        have hD6 := fr6 _ _ (keepD (s4.trans s5)) ndp
        generalize upd H5 p (.ins (RC K) dz (putF "at" (.int (((data.length - (c :: r).length : Nat) : Int) + 2)) (rf l ((data.length - (c :: r).length : Nat) : Int)))) = H6 at R6 fr6 t6 hD6
        obtain ⟨dw, h6⟩ := R6.ob
        refine ⟨_, rfl, p, dw, _, rfl, h6, rf_no _ _ (by decide +kernel) (by decide +kernel), _, rfl, .inr (.inr (.inl ⟨rfl, .inr ⟨_, hD6⟩⟩)), D, kvs, rfl, rfl, hD6, fun vw nv => ⟨vw, D, kvs, rfl, upd_same, by rw [upd_ne (ne_of_none hD6 nv)]; exact hD6, fun H7 l' ts sm nl hl hp => ?_⟩⟩
        have sA : Same H6 H7 := (same_new nv).trans sm
        refine ⟨p, l, l', data, r.drop 1, ts.map V.ref, ps, rfl, R6.same sA, hl, pairsT t6 nv sm hp, fun u H8 R8 fr8 rep8 => ?_⟩
        exact q _ _ _ _ (hpd _ _ (PD.end hsk hm he)) R8 (((frB.trans (Fr.of s5)).trans fr6).trans ((Fr.of sA).trans fr8)) rep8
      · have h5 := s5 _ _ h4
        have R5 := R4.same s5
        have frC := frB.trans (Fr.of (p := p) s5)
        have s35 := s4.trans s5
        refine ⟨_, rfl, rfl, _, rfl, ifI (fun hn => ?_) (fun hn => ?_)⟩
        · -- a name
          refine ⟨_, rfl, p, _, dz, _, _, rfl, h5, T.cl, T.nAt, rf_at _ _, _, _, rfl, rfl, _, rfl, p, _, dz, _, rfl, h5, T.cl, T.nAt, rf_few _ _, ?_⟩
          have R6 := R5.step h5
          have fr6 := fr_upd (p := p) (H := H5) (o := .ins (RC K) dz (putF "at" (.int (((data.length - (c :: r).length : Nat) : Int) + 1)) (rf l ((data.length - (c :: r).length : Nat) : Int))))
          generalize upd H5 p (.ins (RC K) dz (putF "at" (.int (((data.length - (c :: r).length : Nat) : Int) + 1)) (rf l ((data.length - (c :: r).length : Nat) : Int)))) = H6 at R6 fr6
          obtain ⟨dw, h6⟩ := R6.ob
          refine ⟨_, rfl, p, dw, _, rfl, h6, rf_no _ _ (by decide +kernel) (by decide +kernel), p, l, data, r, rfl, R6, fun a H7 na ha R7 fr7 => ?_⟩
          have hrl : r.length ≤ 100000 := Nat.le_trans R6.le R6.small
          refine ⟨a, takeR r, rfl, SqL.of ha, Nat.le_trans (tw_le _ _) hrl, fun t H8 nt s8 ht => ?_⟩
          have R8 : RAt (RC K) p l data (dropR r) H8 := R7.same s8
          obtain ⟨dq, h8⟩ := R8.ob
          refine ⟨_, rfl, p, dq, _, rfl, h8, rf_no _ _ (by decide +kernel) (by decide +kernel), _, rfl, _, _, rfl, rfl, ?_⟩
          refine ⟨p, l, data, dropR r, 2, rfl, by decide, R8, fun v t9 u H9 hpv R9 fr9 rep9 => ?_⟩
          have fr39 : Fr p H3 H9 := (Fr.of s35).trans (fr6.trans (fr7.trans ((Fr.of s8).trans fr9)))
          have frD : Fr p H H9 := frA.trans fr39
          have hD9 := fr39 _ _ hD3 ndp
          have hK9 := hK3.keep (R3.tk fr39)
          have htp : t ≠ p := ne_of ht h8 (by intro z; cases z)
          have ht9 := fr9 _ _ ht htp
          have hle := hpv.le
          have hdr : (dropR r).length ≤ r.length := len_dw isReg r
          have key : ((unesc (takeR r)).map (Sum.inl : Int → L2.Key)).map kV = (unesc (takeR r)).map V.int := by rw [List.map_map] <;> rfl
          have putQ : ∀ (u' : V) (H10 : Hp), Same H9 H10 → Rep H10 u' (v.getD .none) → ∀ x3 x4 x5, H10 D = some (.dT kvs) ∧ H10 t = some (.tup (((unesc (takeR r)).map (Sum.inl : Int → L2.Key)).map kV)) ∧
              ∃ s3 ps' kvs' y3 y4 y5, ([some (.ref p), some (.int (deep : Int)), some (.ref D), x3, x4, x5] : L2.St) = [some (.ref p), some (.int (deep : Int)), some (.ref D), y3, y4, y5] ∧ s3.length < s.length ∧ RAt (RC K) p l data s3 (upd H10 D (.dT (putK kvs ((unesc (takeR r)).map Sum.inl) u'))) ∧ Fr p H (upd H10 D (.dT (putK kvs ((unesc (takeR r)).map Sum.inl) u'))) ∧
                (upd H10 D (.dT (putK kvs ((unesc (takeR r)).map Sum.inl) u'))) D = some (.dT kvs') ∧ RepK (upd H10 D (.dT (putK kvs ((unesc (takeR r)).map Sum.inl) u'))) kvs' ps' ∧ kvs'.length + s3.length ≤ z0.length ∧ ∀ v t, PD deep ps' s3 v t → PD deep [] z0 v t := by
            intro u' H10 s10 rep x3 x4 x5
            have hD10 := s10 _ _ hD9
            have hK10 := hK9.keep (TK.of s10)
            have hP := hK10.put (k := unesc (takeR r)) rep
            have hPl := hP.len
            have hPa := putA_len (ps := ps) (unesc (takeR r)) (v.getD .none)
            have hl0 := hK10.len
            have R10 := R9.same s10
            obtain ⟨dv, hv⟩ := R10.ob
            refine ⟨hD10, by rw [key]; exact s10 _ _ ht9, t9, _, _, x3, x4, x5, rfl, by omega, ⟨⟨dv, by rw [upd_ne ndp.symm]; exact hv⟩, by rw [upd_ne hDl.symm]; exact R10.lst, R10.sfx, R10.small, R10.byt⟩, ?_, upd_same, hP.keep ?_, by omega, fun v' t' k => hpd _ _ (PD.name hsk hm he hn hpv k)⟩
            · intro b o hb hbp
              rw [upd_ne (ne_of_none hb hDH)]
              exact s10 _ _ (frD b o hb hbp)
            · intro a xs z
              rw [upd_ne (fun y => by rw [y, hD10] at z; cases z)]
              exact z
          have hkl : kvs.length < sizeLine := line_big (by omega)
          refine ⟨_, rfl, rfl, _, rfl, ?_⟩
          cases v with
          | none =>
            have eu : u = .non := rep9
            subst eu
            refine iteT ⟨by show 1 ≤ sizeLine; decide, fun y ny => ?_⟩
            have sY := same_new (o := .tup [V.str "none"]) ny
            obtain ⟨e1, e2, e3⟩ := putQ (.ref y) _ sY (.none upd_same) (some (.int c)) (some (.ref t)) (some .non)
            exact ⟨_, rfl, _, rfl, D, _, rfl, DPut.t e1 e2 hkl, e3⟩
          | some x =>
            have rx : Rep H9 u x := rep9
            obtain ⟨ua, eu⟩ := rx.isRef
            subst eu
            obtain ⟨e1, e2, e3⟩ := putQ (.ref ua) _ (Same.refl _) rx (some (.int c)) (some (.ref t)) (some (.ref ua))
            exact iteF ⟨_, rfl, _, rfl, _, rfl, D, _, rfl, DPut.t e1 e2 hkl, e3⟩
        · -- an item that is dropped
          have itemQ : gItem c r → ∀ H6, Same H5 H6 → ∃ dw, H6 p = some (.ins (RC K) dw (rf l ((data.length - (c :: r).length : Nat) : Int))) ∧ RAt (RC K) p l data (c :: r) H6 ∧ ∀ v t u H7, PV 2 (deep + 1) (c :: r) v t → RAt (RC K) p l data t H7 → Fr p H6 H7 → RepO H7 u v →
              ∃ s3 ps' kvs' y3 y4 y5, ([some (.ref p), some (.int (deep : Int)), some (.ref D), some (.int c), x4, x5] : L2.St) = [some (.ref p), some (.int (deep : Int)), some (.ref D), y3, y4, y5] ∧ s3.length < s.length ∧ RAt (RC K) p l data s3 H7 ∧ Fr p H H7 ∧ H7 D = some (.dT kvs') ∧ RepK H7 kvs' ps' ∧ kvs'.length + s3.length ≤ z0.length ∧ ∀ v t, PD deep ps' s3 v t → PD deep [] z0 v t := by
            intro hi H6 s6
            refine ⟨dz, s6 _ _ h5, R5.same s6, fun v t u H7 hpv R7 fr7 _ => ?_⟩
            have fr37 : Fr p H3 H7 := (Fr.of (s35.trans s6)).trans fr7
            have e1 : skipS false (c :: r) = c :: r := by
              have := skipS_idem false s
              rw [hsk] at this
              exact this
            have hlt : t.length < (c :: r).length := by
              rcases hpv.len with ⟨_, _, h⟩ | h
              · rcases h c r e1 with h | h
                · exact absurd h hm
                · rcases h with h | h
                  · exact absurd h.1 (by decide)
                  · exact absurd h.2 he
              · rw [e1] at h
                exact h
            simp only [List.length_cons] at hlt
            exact ⟨t, ps, kvs, _, _, _, rfl, by omega, R7, frA.trans fr37, fr37 _ _ hD3 ndp, hK3.keep (R3.tk fr37), by omega, fun v' t' k => hpd _ _ (PD.item hsk hm he hn hi hpv k)⟩
          refine ⟨_, rfl, by show 3 ≤ sizeLine; decide, fun tp ntp => ?_⟩
          have sT := same_new (o := .tup [V.int 40, V.int 60, V.int 91]) ntp
          have hT : SqT K (upd H5 tp (.tup [V.int 40, V.int 60, V.int 91])) tp (([40, 60, 91] : List Int).map V.int) := SqT.of upd_same
          generalize upd H5 tp (.tup [V.int 40, V.int 60, V.int 91]) = H6 at hT sT
          refine ⟨_, _, rfl, .inr hT, rfl, flat_ints _, _, rfl, ifD (in_eq c [40, 60, 91]) (fun z => ?_) (fun z => ?_)⟩
          · have hi : gItem c r := by
              have := of_decide_eq_true (p := c ∈ [40, 60, 91]) (by simpa using z)
              simp only [List.mem_cons, List.not_mem_nil, or_false] at this
              rcases this with e | e | e
              · exact .inl e
              · exact .inr (.inl e)
              · exact .inr (.inr (.inl e))
            obtain ⟨dw, e1, e2, e3⟩ := itemQ hi H6 sT
            exact ⟨_, rfl, p, dw, _, rfl, e1, rf_no _ _ (by decide +kernel) (by decide +kernel), _, rfl, _, _, rfl, rfl, p, l, data, c :: r, 2, rfl, by decide, e2, fun v t u H7 hpv R7 fr7 rep7 => e3 v t u H7 hpv R7 fr7 rep7⟩
          · have z' : ¬ (c = 40 ∨ c = 60 ∨ c = 91) := by
              intro y
              refine z ?_
              rcases y with e | e | e <;> simp [e]
            refine ⟨_, rfl, c, rfl, _, rfl, ifD (p := isReg c = true) (by simp) (fun hrg => ?_) (fun hrg => ?_)⟩
            · obtain ⟨dw, e1, e2, e3⟩ := itemQ (.inr (.inr (.inr (.inl hrg)))) H6 sT
              exact ⟨_, rfl, p, dw, _, rfl, e1, rf_no _ _ (by decide +kernel) (by decide +kernel), _, rfl, _, _, rfl, rfl, p, l, data, c :: r, 2, rfl, by decide, e2, fun v t u H7 hpv R7 fr7 rep7 => e3 v t u H7 hpv R7 fr7 rep7⟩
            · have h6 := sT _ _ h5
              have R6 := R5.same sT
              refine ⟨_, rfl, p, dz, _, rfl, h6, rf_no _ _ (by decide +kernel) (by decide +kernel), p, l, data, c :: r, 64, rfl, R6, fun H7 s7 => ⟨_, rfl, ?_⟩⟩
              by_cases hmk : isMark 64 (c :: r) = true
              · rw [hmk]
                obtain ⟨dw, e1, e2, e3⟩ := itemQ (.inr (.inr (.inr (.inr hmk)))) H7 (sT.trans s7)
                exact iteT ⟨_, rfl, p, dw, _, rfl, e1, rf_no _ _ (by decide +kernel) (by decide +kernel), _, rfl, _, _, rfl, rfl, p, l, data, c :: r, 2, rfl, by decide, e2, fun v t u H7 hpv R7 fr7 rep7 => e3 v t u H7 hpv R7 fr7 rep7⟩
              · rw [show isMark 64 (c :: r) = false by simpa using hmk]
                have hng : ¬ gItem c r := by
                  intro g
                  rcases g with g | g | g | g | g
                  · exact z' (.inl g)
                  · exact z' (.inr (.inl g))
                  · exact z' (.inr (.inr g))
                  · exact hrg g
                  · exact hmk g
                have h7 := s7 _ _ h6
                have R7 := R6.same s7
                refine iteF ⟨_, rfl, p, _, dz, _, _, rfl, h7, T.cl, T.nAt, rf_at _ _, _, _, rfl, rfl, _, rfl, p, _, dz, _, rfl, h7, T.cl, T.nAt, rf_few _ _, ?_⟩
                have fr8 := fr_upd (p := p) (H := H7) (o := .ins (RC K) dz (putF "at" (.int (((data.length - (c :: r).length : Nat) : Int) + 1)) (rf l ((data.length - (c :: r).length : Nat) : Int))))
                have R8 := R7.step h7
                generalize upd H7 p (.ins (RC K) dz (putF "at" (.int (((data.length - (c :: r).length : Nat) : Int) + 1)) (rf l ((data.length - (c :: r).length : Nat) : Int)))) = H8 at R8 fr8
                have fr38 : Fr p H3 H8 := (Fr.of (s35.trans (sT.trans s7))).trans fr8
                exact ⟨r, ps, kvs, _, _, _, rfl, by omega, R8, frA.trans fr38, fr38 _ _ hD3 ndp, hK3.keep (R3.tk fr38), by omega, fun v' t' k => hpd _ _ (PD.skip hsk hm he hn hng k)⟩
end
end K22

/-! The reader of objects: its equations and fuel. -/
namespace K22
abbrev gRoot (c : Int) (r : List Int) : Prop := takeR (c :: r) = wROOT ∧ isMark 64 (skipS false (dropR (c :: r))) = true
section
variable {n : Nat} {obs : List (Int × Val)} {root k : Int} {c : Int} {r s s2 : List Int}
theorem pObjs_nil : pObjs (n + 1) obs root [] = some (obs, root) := by
  unfold pObjs
  rfl
theorem pObjs_mark (hm : isMark 35 (c :: r) = true) (hk : markOf (c :: r) = some (k, s2)) : pObjs (n + 1) obs root (c :: r) = (match pVal n 0 0 s2 with
    | none => none
    | some (v, s3) => pObjs n (putA obs k (v.getD .none)) root (skipS false s3)) := by
  conv => lhs; unfold pObjs
  refine (if_pos hm).trans ?_
  rw [hk]
  all_goals rfl
theorem pObjs_root (hm : ¬ isMark 35 (c :: r) = true) (hr : isReg c = true) (h : gRoot c r) (hk : markOf (skipS false (dropR (c :: r))) = some (k, s2)) : pObjs (n + 1) obs root (c :: r) = pObjs n obs k (skipS false s2) := by
  conv => lhs; unfold pObjs
  exact (if_neg hm).trans ((if_pos hr).trans ((if_pos h).trans (by rw [hk])))
theorem pObjs_word (hm : ¬ isMark 35 (c :: r) = true) (hr : isReg c = true) (h : ¬ gRoot c r) : pObjs (n + 1) obs root (c :: r) = pObjs n obs root (skipS false (dropR (c :: r))) := by
  conv => lhs; unfold pObjs
  exact (if_neg hm).trans ((if_pos hr).trans (if_neg h))
theorem pObjs_skip (hm : ¬ isMark 35 (c :: r) = true) (hr : ¬ isReg c = true) : pObjs (n + 1) obs root (c :: r) = pObjs n obs root (skipS false r) := by
  conv => lhs; unfold pObjs
  exact (if_neg hm).trans (if_neg hr)
end
theorem mark_of_is {g : Int} {s : List Int} (h : isMark g s = true) : ∃ k t, markOf s = some (k, t) := by
  unfold isMark at h
  cases e : markOf s with
  | none => rw [e] at h; simp at h
  | some z => exact ⟨z.1, z.2, rfl⟩
theorem pObjs_fuel1 : ∀ n obs root s x, pObjs n obs root s = some x → pObjs (n + 1) obs root s = some x
  | 0, obs, root, s, x, h => by unfold pObjs at h; cases h
  | n + 1, obs, root, s, x, h => by
    cases s with
    | nil => rw [pObjs_nil] at h ⊢; exact h
    | cons c r =>
      by_cases hm : isMark 35 (c :: r) = true
      · obtain ⟨k, t, hk⟩ := mark_of_is hm
        rw [pObjs_mark hm hk] at h ⊢
        cases hv : pVal n 0 0 t with
        | none => rw [hv] at h; cases h
        | some y =>
          rw [hv] at h
          rw [(fuel1 n).1 _ _ _ _ hv]
          exact pObjs_fuel1 _ _ _ _ _ h
      · by_cases hr : isReg c = true
        · by_cases hg : gRoot c r
          · obtain ⟨k, t, hk⟩ := mark_of_is hg.2
            rw [pObjs_root hm hr hg hk] at h ⊢
            exact pObjs_fuel1 _ _ _ _ _ h
          · rw [pObjs_word hm hr hg] at h ⊢
            exact pObjs_fuel1 _ _ _ _ _ h
        · rw [pObjs_skip hm hr] at h ⊢
          exact pObjs_fuel1 _ _ _ _ _ h
theorem fuelO {n m : Nat} {obs : List (Int × Val)} {root : Int} {s : List Int} {x : List (Int × Val) × Int} (hm : n ≤ m) (h : pObjs n obs root s = some x) : pObjs m obs root s = some x := by
  induction hm with
  | refl => exact h
  | step _ ih => exact pObjs_fuel1 _ _ _ _ _ ih
def PO (obs : List (Int × Val)) (root : Int) (s : List Int) (obs' : List (Int × Val)) (root' : Int) : Prop := ∃ n, pObjs n obs root s = some (obs', root')
section
variable {obs obs' : List (Int × Val)} {root root' k : Int} {c : Int} {r s s2 t : List Int} {v : Option Val}
theorem PO.one {o1 o2 : List (Int × Val)} {r1 r2 : Int} (a : PO obs root s o1 r1) (b : PO obs root s o2 r2) : o1 = o2 ∧ r1 = r2 := by
  obtain ⟨n, a⟩ := a
  obtain ⟨m, b⟩ := b
  have a' := fuelO (Nat.le_max_left n m) a
  have b' := fuelO (Nat.le_max_right n m) b
  rw [a'] at b'
  injection b' with b'
  injection b' with b1 b2
  exact ⟨b1, b2⟩
theorem PO.nil : PO obs root [] obs root := ⟨1, pObjs_nil⟩
theorem PO.mark (hm : isMark 35 (c :: r) = true) (hk : markOf (c :: r) = some (k, s2)) (hv : PV 0 0 s2 v t) (h : PO (putA obs k (v.getD .none)) root (skipS false t) obs' root') : PO obs root (c :: r) obs' root' := by
  obtain ⟨n, hv⟩ := hv
  obtain ⟨m, h⟩ := h
  exact ⟨max n m + 1, by rw [pObjs_mark hm hk, fuelV (Nat.le_max_left n m) hv]; exact fuelO (Nat.le_max_right n m) h⟩
theorem PO.rootw (hm : ¬ isMark 35 (c :: r) = true) (hr : isReg c = true) (hg : gRoot c r) (hk : markOf (skipS false (dropR (c :: r))) = some (k, s2)) (h : PO obs k (skipS false s2) obs' root') : PO obs root (c :: r) obs' root' := by
  obtain ⟨n, h⟩ := h
  exact ⟨n + 1, by rw [pObjs_root hm hr hg hk]; exact h⟩
theorem PO.word (hm : ¬ isMark 35 (c :: r) = true) (hr : isReg c = true) (hg : ¬ gRoot c r) (h : PO obs root (skipS false (dropR (c :: r))) obs' root') : PO obs root (c :: r) obs' root' := by
  obtain ⟨n, h⟩ := h
  exact ⟨n + 1, by rw [pObjs_word hm hr hg]; exact h⟩
theorem PO.skip (hm : ¬ isMark 35 (c :: r) = true) (hr : ¬ isReg c = true) (h : PO obs root (skipS false r) obs' root') : PO obs root (c :: r) obs' root' := by
  obtain ⟨n, h⟩ := h
  exact ⟨n + 1, by rw [pObjs_skip hm hr]; exact h⟩
end
end K22

set_option maxHeartbeats 4000000
/-! the recursion closed; Reader(..) -/
namespace K22
open PySem PySem.Spec PyProof.Rows L2
section
variable {P : Program} {w : World} {K : PySem.W.Frag} {mg : Str → Option Value} {base : Heap}
theorem no_list (T : Tx K mg) {k : Nat} : CalM P w K mg base (RC K) "list_value" (k + 1) ["self", "deep"] (spListV (RC K) 16) := by
  obtain ⟨fd, F⟩ := T.FM_list_value
  refine ⟨_, fd, F.ok (k := k) sc_list_value (fun vs H Q E h => ?_) (fun cdv A outer s H vs Q E hr h => ?_), T.M_list_value, F.binds fun _ _ _ _ _ _ us hl => match us, hl with | [_, _], _ => rfl⟩
  · exact absurd h.1 (by decide)
  · exact absurd h.1 (by decide)
theorem no_dict (T : Tx K mg) {k : Nat} : CalM P w K mg base (RC K) "dict_value" (k + 1) ["self", "deep"] (spDictV (RC K) 16) := by
  obtain ⟨fd, F⟩ := T.FM_dict_value
  refine ⟨_, fd, F.ok (k := k) sc_dict_value (fun vs H Q E h => ?_) (fun cdv A outer s H vs Q E hr h => ?_), T.M_dict_value, F.binds fun _ _ _ _ _ _ us hl => match us, hl with | [_, _], _ => rfl⟩
  · exact absurd h.1 (by decide)
  · exact absurd h.1 (by decide)
theorem ok_values (T : Tx K mg) : ∀ j, j ≤ 16 → CalM P w K mg base (RC K) "value" (5 + 2 * j) ["self", "around", "deep"] (spValue (RC K) (16 - j))
  | 0, _ => ok_value T (k := 4) (by decide) (by decide) (no_list T (k := 3)) (no_dict T (k := 3))
  | j + 1, h => by
    have ih := ok_values T j (by omega)
    have e : 16 - j = 16 - (j + 1) + 1 := by omega
    rw [e] at ih
    have e2 : 5 + 2 * (j + 1) = 5 + 2 * j + 1 + 1 := by omega
    rw [e2]
    exact ok_value T (by omega) (by omega) (ok_list_value T (by omega) ih) (ok_dict_value T (by omega) ih)
theorem ok_value0 (T : Tx K mg) : CalM P w K mg base (RC K) "value" 37 ["self", "around", "deep"] (spValue (RC K) 0) := ok_values T 16 (by decide)
/-! ### __init__ -/
def spInit (K : PySem.W.Frag) : Sp := fun vs H Q _ => ∃ (x dx a : Addr) (data : List Int), vs = [.ref x, .ref a] ∧ H x = some (.ins (RC K) dx []) ∧ (SqL K H a (data.map V.int)) ∧ data.length ≤ 100000 ∧ (∀ b ∈ data, 0 ≤ b ∧ b ≤ 255) ∧
  ∀ l H', RAt (RC K) x l data data H' → Fr x H H' → Q .non H'
theorem sc_init : FnScope ["self", "data"] ["self", "data"] (defScope m_init) := ⟨rfl, rfl, rfl, by decide +kernel, rfl, by decide +kernel, by decide +kernel⟩
theorem ok_init (T : Tx K mg) : ∃ fd, FnOk P w K mg base CX0 1 (He.ma K (He.ga K "Reader") "__init__") fd ["self", "data"] (spInit K) ∧ Binds K fd ["self", "data"] [] := by
  obtain ⟨fd, F⟩ := T.FM_init
  refine ⟨fd, F.ok sc_init (fun vs H Q E h => ?_) (fun cdv A outer s H vs Q E hr h => ?_), F.binds fun _ _ _ _ _ _ us hl => match us, hl with | [_, _], _ => rfl⟩
  · obtain ⟨x, dx, a, data, rfl, _⟩ := h
    rfl
  · obtain ⟨x, dx, a, data, rfl, hx, hS, hlen, hb, q⟩ := h
    refine ⟨_, pss_cons (ps_fld (pv 0) (pe_callTy call_list_of (by rfl) T.fr_list (by decide +kernel) (pa_cons (pv 1) pa_nil)) rfl) (pss_one (ps_fld (pv 0) pe_int rfl)), ?_⟩
    refine ⟨_, rfl, a, _, rfl, .inl hS, fun l nl => ?_⟩
    have sL := same_new (o := .lst (data.map V.int)) nl
    have hL : (upd H l (.lst (data.map V.int))) l = some (.lst (data.map V.int)) := upd_same
    generalize upd H l (.lst (data.map V.int)) = H1 at sL hL
    have h1 := sL _ _ hx
    have nlx : l ≠ x := ne_of hL h1 (by intro z; cases z)
    refine ⟨_, rfl, x, _, dx, _, rfl, h1, T.cl, T.nData, by decide, ?_⟩
    have f1 := fr_upd (p := x) (H := H1) (o := .ins (RC K) dx (putF "data" (.ref l) []))
    have h2 : (upd H1 x (.ins (RC K) dx (putF "data" (.ref l) []))) x = some (.ins (RC K) dx (putF "data" (.ref l) [])) := upd_same
    have hL2 := f1 _ _ hL nlx
    generalize upd H1 x (.ins (RC K) dx (putF "data" (.ref l) [])) = H2 at f1 h2 hL2
    refine ⟨_, rfl, x, _, dx, _, rfl, h2, T.cl, T.nAt, (by show 1 < 1000; decide), ?_⟩
    have f2 := fr_upd (p := x) (H := H2) (o := .ins (RC K) dx (putF "at" (.int 0) (putF "data" (.ref l) [])))
    refine q l _ ⟨⟨dx, ?_⟩, f2 _ _ hL2 nlx, ⟨[], rfl⟩, hlen, hb⟩ ((Fr.of sL).trans (f1.trans f2))
    rw [upd_same, Nat.sub_self] <;> rfl
end
end K22

set_option maxHeartbeats 4000000
/-! read_objects -/
namespace K22
open PySem PySem.Spec PyProof.Rows L2
theorem same_fr {x : Addr} {H H1 H2 : Hp} (s : Same H H1) (f : Fr x H1 H2) (hx : H x = none) : Same H H2 := fun b o e => f b o (s b o e) (ne_of_none e hx)
/-- the objects by their numbers -/
inductive RepI (H : Hp) : List (L2.Key × V) → List (Int × Val) → Prop
  | nil : RepI H [] []
  | cons {n : Int} {u : V} {v : Val} {kvs : List (L2.Key × V)} {obs : List (Int × Val)} : Rep H u v → RepI H kvs obs → RepI H ((.inl n, u) :: kvs) ((n, v) :: obs)
theorem RepI.keep {H H' : Hp} (t : TK H H') {kvs : List (L2.Key × V)} {ps : List (Int × Val)} (r : RepI H kvs ps) : RepI H' kvs ps := by
  induction r with
  | nil => exact .nil
  | cons h _ ih => exact .cons (Rep.keep t h) ih
theorem RepI.len {H : Hp} {kvs : List (L2.Key × V)} {ps : List (Int × Val)} (r : RepI H kvs ps) : kvs.length = ps.length := by
  induction r with
  | nil => rfl
  | cons h _ ih => rw [List.length_cons, List.length_cons, ih]
theorem inl_dec1 (a b : Int) : decide ((Sum.inl a : L2.Key) = Sum.inl b) = decide (a = b) := by
  by_cases h : a = b
  · rw [h, decide_eq_true rfl, decide_eq_true rfl]
  · rw [decide_eq_false h, decide_eq_false fun e => h (Sum.inl.inj e)]
theorem RepI.any {H : Hp} {kvs : List (L2.Key × V)} {ps : List (Int × Val)} (r : RepI H kvs ps) (k : Int) : (kvs.any fun kv => decide (kv.1 = Sum.inl k)) = (ps.any fun kv => decide (kv.1 = k)) := by
  induction r with
  | nil => rfl
  | cons h _ ih => rw [List.any_cons, List.any_cons, ih, inl_dec1]
theorem RepI.snoc {H : Hp} {kvs : List (L2.Key × V)} {ps : List (Int × Val)} (r : RepI H kvs ps) {k : Int} {u : V} {v : Val} (h : Rep H u v) : RepI H (kvs ++ [(Sum.inl k, u)]) (ps ++ [(k, v)]) := by
  induction r with
  | nil => exact .cons h .nil
  | cons a _ ih => exact .cons a ih
theorem RepI.sub {H : Hp} {kvs : List (L2.Key × V)} {ps : List (Int × Val)} (r : RepI H kvs ps) {k : Int} {u : V} {v : Val} (h : Rep H u v) :
    RepI H (kvs.map (fun kv => if kv.1 = Sum.inl k then (kv.1, u) else kv)) (ps.map (fun kv => if kv.1 = k then (kv.1, v) else kv)) := by
  induction r with
  | nil => exact .nil
  | @cons k' u' v' kvs ps a _ ih =>
    rw [List.map_cons, List.map_cons]
    by_cases e : k' = k
    · have e2 : (Sum.inl k' : L2.Key) = Sum.inl k := by rw [e]
      rw [if_pos e2, if_pos e]
      exact .cons h ih
    · have e2 : ¬ (Sum.inl k' : L2.Key) = Sum.inl k := fun z => e (Sum.inl.inj z)
      rw [if_neg e2, if_neg e]
      exact .cons a ih
theorem RepI.put {H : Hp} {kvs : List (L2.Key × V)} {ps : List (Int × Val)} (r : RepI H kvs ps) {k : Int} {u : V} {v : Val} (h : Rep H u v) : RepI H (putK kvs (Sum.inl k) u) (putA ps k v) := by
  unfold putK putA
  have e := r.any k
  by_cases c : (ps.any fun kv => decide (kv.1 = k)) = true
  · rw [if_pos (e.trans c), if_pos c]
    exact r.sub h
  · rw [if_neg (fun z => c (e.symm.trans z)), if_neg c]
    exact r.snoc h
theorem putA_len1 {ps : List (Int × Val)} (k : Int) (v : Val) : (putA ps k v).length ≤ ps.length + 1 := by
  unfold putA
  split
  · rw [List.length_map]; omega
  · rw [List.length_append]; simp
section
variable {P : Program} {w : World} {K : PySem.W.Frag} {mg : Str → Option Value} {base : Heap}
def spReadObjs (K : PySem.W.Frag) : Sp := fun vs H Q _ => ∃ (a : Addr) (data : List Int), vs = [.ref a] ∧ SqL K H a (data.map V.int) ∧ data.length ≤ 100000 ∧ (∀ b ∈ data, 0 ≤ b ∧ b ≤ 255) ∧
  ∀ (t D : Addr) (kvs : List (L2.Key × V)) (obs : List (Int × Val)) (root : Int) (H' : Hp), Same H H' → PO [] 0 (skipS false data) obs root → kvs.length ≤ data.length → H' t = some (.tup [.ref D, .int root]) → H' D = some (.dK kvs) → RepI H' kvs obs → Q (.ref t) H'
theorem sc_read_objects : FnScope ["data", "reader", "objects", "root", "number", "value"] ["data"] (defScope s_read_objects) := ⟨rfl, rfl, rfl, by decide +kernel, rfl, by decide +kernel, by decide +kernel⟩
theorem ok_read_objects (T : Tx K mg) : Cal P w K mg base "read_objects" 38 ["data"] (spReadObjs K) := by
  obtain ⟨fd, F⟩ := T.F_read_objects
  refine ⟨_, fd, F.ok sc_read_objects (fun vs H Q E h => ?_) (fun cdv A outer s H vs Q E hr h => ?_), T.g_read_objects, F.kp, F.binds fun _ _ _ _ _ _ us hl => match us, hl with | [_], _ => rfl⟩
  · obtain ⟨a, data, rfl, _⟩ := h
    rfl
  · obtain ⟨a, data, rfl, hS, hlen, hbyt, q⟩ := h
    obtain ⟨fi, Fi, bi⟩ := ok_init (P := P) (w := w) (base := base) T
    have hr1 : Room 1 _ := hr.mono (by decide)
    have hr2 : Room 2 _ := hr.mono (by decide)
    have hr3 : Room 3 _ := hr.mono (by decide)
    have hu1 : ∀ {A : Around}, Room 37 A → A.units + 1 < cLine := fun r => by have := r.un; omega
    refine ⟨_, pss_cons (ps_set (i := 1) sc_read_objects.nd rfl (.inl rfl) (pe_make T.mkr Fi hr2 (by rfl) T.g_Reader bi .nil pass0 (pa_cons (pv 0) pa_nil)))
      (pss_cons (ps_set (i := 2) sc_read_objects.nd rfl (.inl rfl) pe_dnewK)
      (pss_cons (ps_set (i := 3) sc_read_objects.nd rfl (.inl rfl) pe_int)
      (pss_cons (ps_expr (pe_mcal0 T.cl (ok_skip_space T) hr3 (pv 1)))
      (C8.pss_cut (ps_while PassesOwn.never (pt_cmpR op_ge (pe_mcal0 T.cl (ok_here T) hr1 (pv 1)) pe_int (nomark _))
        (C8.pss_cut (ps_if (pt_val (pe_mcal T.cl (ok_is_mark T) hr3 (pv 1) (pa_cons (pe_gi T.i_OBJECT) pa_nil)))
          (pss_cons (ps_set (i := 4) sc_read_objects.nd rfl (.inl rfl) (pe_mcal0 T.cl (ok_take_mark T) hr3 (pv 1)))
          (pss_cons (ps_set (i := 5) sc_read_objects.nd rfl (.inl rfl) (pe_mcal T.cl (ok_value0 T) hr (pv 1) (pa_cons pe_str (pa_cons pe_int pa_nil))))
          (pss_one (ps_dput (hu1 hr) (pv 2) (pv 4) (pe_ifExp (pt_cmpR op_isN (pv 5) pe_non (nomark _)) (pe_tup (pa_cons pe_str pa_nil)) (pv 5)) (by rfl)))))
          (pss_one (ps_if (pt_val (pe_cal (ok_is_regular T) hr1 (pa_cons (pe_mcal0 T.cl (ok_here T) hr1 (pv 1)) pa_nil)))
            (pss_one (ps_if (pt_cmpR (op_eqD hr.units) (pe_callTy call_tuple_of (by rfl) T.fr_tuple (by decide +kernel) (pa_cons (pe_mcal0 T.cl (ok_word T) hr2 (pv 1)) pa_nil)) (pe_gr T.g_ROOT) (nomark _))
              (pss_cons (ps_expr (pe_mcal0 T.cl (ok_skip_space T) hr3 (pv 1)))
              (pss_one (ps_if (pt_val (pe_mcal T.cl (ok_is_mark T) hr3 (pv 1) (pa_cons (pe_gi T.i_REFERENCE) pa_nil))) (pss_one (ps_set (i := 3) sc_read_objects.nd rfl (.inl rfl) (pe_mcal0 T.cl (ok_take_mark T) hr3 (pv 1)))) pss_nil))) pss_nil))
            (pss_one (ps_fld (pv 1) (pe_op op_add (pe_fld (pv 1) rfl) pe_int) rfl)))))
        (pss_one (ps_expr (pe_mcal0 T.cl (ok_skip_space T) hr3 (pv 1))))))
      (pss_one (ps_ret (pe_tup (pa_cons (pv 2) (pa_cons (pv 3) pa_nil))))))))), ?_⟩
    refine ⟨_, rfl, fun x dx nx ndx hdx => ?_⟩
    refine ⟨x, dx, a, data, rfl, upd_same, ?_, hlen, hbyt, fun l H1 R1 fr1 => ⟨rfl, ?_⟩⟩
    · have s1 := same_new (o := .own x) ndx
      have nx2 : (upd H dx (.own x)) x = none := by rw [upd_ne hdx.symm]; exact nx
      exact (s1.trans (same_new nx2)).seq hS
    have sm1 : Same H H1 := by
      intro b o e
      refine fr1 b o ?_ (ne_of_none e nx)
      rw [upd_ne (ne_of_none e nx), upd_ne (ne_of_none e ndx)]
      exact e
    refine fun D nD => ?_
    have hDH : H D = none := by
      cases e : H D with
      | none => rfl
      | some o => rw [sm1 _ _ e] at nD; cases nD
    have sD := same_new (o := .dK []) nD
    have hD1 : (upd H1 D (.dK [])) D = some (.dK []) := upd_same
    have R2 := R1.same sD
    generalize upd H1 D (.dK []) = H2 at sD hD1 R2
    have sm2 : Same H H2 := sm1.trans sD
    have ndp : D ≠ x := ne_of hD1 (R2.ob.choose_spec) (by intro z; cases z)
    have hDl : D ≠ l := ne_of hD1 R2.lst (by intro z; cases z)
    obtain ⟨d2, h2⟩ := R2.ob
    refine ⟨_, rfl, x, d2, _, rfl, h2, rf_no _ _ (by decide +kernel) (by decide +kernel), x, l, data, data, rfl, R2, fun H3 R3 fr3 => ?_⟩
    have hs0 := len_skipS false data
    generalize hs0e : skipS false data = s0 at R3 hs0
    refine ⟨fun σ' H' => ∃ kvs obs root x4 x5, σ' = [some (.ref a), some (.ref x), some (.ref D), some (.int root), x4, x5] ∧ Same H H' ∧ H' D = some (.dK kvs) ∧ RepI H' kvs obs ∧ PO [] 0 s0 obs root ∧ kvs.length ≤ data.length, ?_, ?_⟩
    · refine ⟨fun m σ H' => ∃ s kvs obs root x4 x5, σ = [some (.ref a), some (.ref x), some (.ref D), some (.int root), x4, x5] ∧ m = s.length ∧ RAt (RC K) x l data s H' ∧ Same H H' ∧ H' D = some (.dK kvs) ∧ RepI H' kvs obs ∧ kvs.length + s.length ≤ data.length ∧ ∀ o r, PO obs root s o r → PO [] 0 s0 o r,
        ⟨_, s0, [], [], 0, none, none, rfl, rfl, R3, same_fr sm2 fr3 nx, fr3 _ _ hD1 ndp, .nil, by simpa using hs0, fun o r h => h⟩, ?_⟩
      rintro m σ H' ⟨s, kvs, obs, root, x4, x5, rfl, rfl, R, sm, hD, hI, hkl, hpo⟩
      obtain ⟨dy, h3⟩ := R.ob
      refine ⟨_, rfl, x, dy, _, rfl, h3, rf_no _ _ (by decide +kernel) (by decide +kernel), x, l, data, s, rfl, R, _, _, rfl, rfl, _, rfl, ifB (fun z => ?_) (fun z => ?_)⟩
      · cases s with
        | nil => exact absurd z (by decide)
        | cons c r =>
          refine ⟨fun σ3 H3 => ∃ s3 kvs obs root x4 x5, σ3 = [some (.ref a), some (.ref x), some (.ref D), some (.int root), x4, x5] ∧ s3.length < (c :: r).length ∧ RAt (RC K) x l data s3 H3 ∧ Same H H3 ∧ H3 D = some (.dK kvs) ∧ RepI H3 kvs obs ∧ kvs.length + s3.length ≤ data.length ∧ ∀ o r, PO obs root s3 o r → PO [] 0 s0 o r,
            fun σ3 H3 ⟨s3, kvs, obs, root, x4, x5, e1, e2, e3⟩ => ⟨_, e2, s3, kvs, obs, root, x4, x5, e1, rfl, e3⟩, ?_⟩
          simp only [List.length_cons] at hkl
          refine ⟨fun σ' H' => ∃ s3 kvs obs root x4 x5, σ' = [some (.ref a), some (.ref x), some (.ref D), some (.int root), x4, x5] ∧ s3.length < (c :: r).length ∧ RAt (RC K) x l data s3 H' ∧ Same H H' ∧ H' D = some (.dK kvs) ∧ RepI H' kvs obs ∧ kvs.length + s3.length ≤ data.length ∧ ∀ o r, PO obs root (skipS false s3) o r → PO [] 0 s0 o r, ?_, ?_⟩
          · refine ⟨_, rfl, x, dy, _, rfl, h3, rf_no _ _ (by decide +kernel) (by decide +kernel), x, l, data, c :: r, 35, rfl, R, fun H4 s4 => ⟨_, rfl, ?_⟩⟩
            have R4 := R.same s4
            have h4 := s4 _ _ h3
            have sm4 := sm.trans s4
            have hD4 := s4 _ _ hD
            have hI4 := hI.keep (TK.of s4)
            by_cases hm : isMark 35 (c :: r) = true
            · rw [hm]
              obtain ⟨k, t, hk⟩ := mark_of_is hm
              have hlt := len_mark hk
              simp only [List.length_cons] at hlt
              refine iteT ⟨_, rfl, x, dy, _, rfl, h4, rf_no _ _ (by decide +kernel) (by decide +kernel), x, l, data, c :: r, k, t, rfl, R4, hk, fun H5 R5 fr5 => ?_⟩
              obtain ⟨d5, h5⟩ := R5.ob
              refine ⟨_, rfl, x, d5, _, rfl, h5, rf_no _ _ (by decide +kernel) (by decide +kernel), x, l, data, t, 0, rfl, by decide, R5, fun v t6 u H6 hpv R6 fr6 rep6 => ?_⟩
              have fr46 := fr5.trans fr6
              have sm6 := same_fr sm4 fr46 nx
              have hD6 := fr46 _ _ hD4 ndp
              have hI6 := hI4.keep (R4.tk fr46)
              have hle := hpv.le
              have putQ : ∀ (u' : V) (H7 : Hp), Same H6 H7 → Rep H7 u' (v.getD .none) → ∀ x4 x5, H7 D = some (.dK kvs) ∧
                  ∃ s3 kvs' obs' root' y4 y5, ([some (.ref a), some (.ref x), some (.ref D), some (.int root), x4, x5] : L2.St) = [some (.ref a), some (.ref x), some (.ref D), some (.int root'), y4, y5] ∧ s3.length < (c :: r).length ∧ RAt (RC K) x l data s3 (upd H7 D (.dK (putK kvs (.inl k) u'))) ∧ Same H (upd H7 D (.dK (putK kvs (.inl k) u'))) ∧
                    (upd H7 D (.dK (putK kvs (.inl k) u'))) D = some (.dK kvs') ∧ RepI (upd H7 D (.dK (putK kvs (.inl k) u'))) kvs' obs' ∧ kvs'.length + s3.length ≤ data.length ∧ ∀ o r, PO obs' root' (skipS false s3) o r → PO [] 0 s0 o r := by
                intro u' H7 s7 rep x4 x5
                have hD7 := s7 _ _ hD6
                have hI7 := hI6.keep (TK.of s7)
                have hP := hI7.put (k := k) rep
                have hPl := hP.len
                have hPa := putA_len1 (ps := obs) k (v.getD .none)
                have hl0 := hI7.len
                have R7 := R6.same s7
                obtain ⟨dv, hv⟩ := R7.ob
                refine ⟨hD7, t6, _, _, root, x4, x5, rfl, by simp only [List.length_cons]; omega, ⟨⟨dv, by rw [upd_ne ndp.symm]; exact hv⟩, by rw [upd_ne hDl.symm]; exact R7.lst, R7.sfx, R7.small, R7.byt⟩, ?_, upd_same, hP.keep ?_, by omega, fun o r' k' => hpo _ _ (PO.mark hm hk hpv k')⟩
                · intro b o hb
                  rw [upd_ne (ne_of_none hb hDH)]
                  exact s7 _ _ (sm6 b o hb)
                · intro b xs z
                  rw [upd_ne (fun y => by rw [y, hD7] at z; cases z)]
                  exact z
              have hkl2 : kvs.length < sizeLine := line_big (by omega)
              refine ⟨_, rfl, rfl, _, rfl, ?_⟩
              cases v with
              | none =>
                have eu : u = .non := rep6
                subst eu
                refine iteT ⟨by show 1 ≤ sizeLine; decide, fun y ny => ?_⟩
                have sY := same_new (o := .tup [V.str "none"]) ny
                obtain ⟨e1, e3⟩ := putQ (.ref y) _ sY (.none upd_same) (some (.int k)) (some .non)
                exact ⟨_, rfl, _, rfl, D, _, rfl, DPut.k (k := .inl k) e1 hkl2, e3⟩
              | some y =>
                have rx : Rep H6 u y := rep6
                obtain ⟨ua, eu⟩ := rx.isRef
                subst eu
                obtain ⟨e1, e3⟩ := putQ (.ref ua) _ (Same.refl _) rx (some (.int k)) (some (.ref ua))
                exact iteF ⟨_, rfl, _, rfl, _, rfl, D, _, rfl, DPut.k (k := .inl k) e1 hkl2, e3⟩
            · rw [show isMark 35 (c :: r) = false by simpa using hm]
              refine iteF ⟨_, rfl, x, dy, _, rfl, h4, rf_no _ _ (by decide +kernel) (by decide +kernel), x, l, data, c :: r, rfl, R4, c, rfl, _, rfl, ifD (p := isReg c = true) (by simp) (fun hrg => ?_) (fun hrg => ?_)⟩
              · refine ⟨_, rfl, x, dy, _, rfl, h4, rf_no _ _ (by decide +kernel) (by decide +kernel), x, l, data, c :: r, rfl, R4, fun b H5 nb hb R5 fr5 => ?_⟩
                have hdl := len_dropR (r := r) hrg
                simp only [List.length_cons] at hdl
                refine ⟨b, _, rfl, .inl ⟨SqL.of hb, fun t nt => ?_⟩⟩
                have sT := same_new (o := .tup ((takeR (c :: r)).map V.int)) nt
                have hT : (upd H5 t (.tup ((takeR (c :: r)).map V.int))) t = some (.tup ((takeR (c :: r)).map V.int)) := upd_same
                generalize upd H5 t (.tup ((takeR (c :: r)).map V.int)) = H6 at sT hT
                have R6 := R5.same sT
                have fr46 : Fr x H4 H6 := fr5.trans (Fr.of sT)
                have sm6 := same_fr sm4 fr46 nx
                have hD6 := fr46 _ _ hD4 ndp
                have hI6 := hI4.keep (R4.tk fr46)
                refine ⟨_, _, dp_tup (SqT.of hT), dp_tup (ns := wROOT) (T.t_ROOT _), shaped_tup _, shaped_tup _, _, rfl, ifD (eqv_tup_ints _ _) (fun hw => ?_) (fun hw => ?_)⟩
                · obtain ⟨d6, h6⟩ := R6.ob
                  refine ⟨_, rfl, x, d6, _, rfl, h6, rf_no _ _ (by decide +kernel) (by decide +kernel), x, l, data, dropR (c :: r), rfl, R6, fun H7 R7 fr7 => ?_⟩
                  have hsl := len_skipS false (dropR (c :: r))
                  have sm7 := same_fr sm6 fr7 nx
                  have hD7 := fr7 _ _ hD6 ndp
                  have hI7 := hI6.keep (R6.tk fr7)
                  obtain ⟨d7, h7⟩ := R7.ob
                  refine ⟨_, rfl, x, d7, _, rfl, h7, rf_no _ _ (by decide +kernel) (by decide +kernel), x, l, data, _, 64, rfl, R7, fun H8 s8 => ⟨_, rfl, ?_⟩⟩
                  have R8 : RAt (RC K) x l data (skipS false (dropR (c :: r))) H8 := RAt.same R7 s8
                  have h8 := s8 _ _ h7
                  have sm8 := sm7.trans s8
                  have hD8 := s8 _ _ hD7
                  have hI8 := hI7.keep (TK.of s8)
                  by_cases hmk : isMark 64 (skipS false (dropR (c :: r))) = true
                  · rw [hmk]
                    obtain ⟨k, t9, hk⟩ := mark_of_is hmk
                    have hlt : t9.length ≤ (skipS false (dropR (c :: r))).length := by
                      cases e : skipS false (dropR (c :: r)) with
                      | nil => rw [e] at hk; cases hk
                      | cons c2 r2 => rw [e] at hk; exact Nat.le_of_lt (len_mark hk)
                    refine iteT ⟨_, rfl, x, d7, _, rfl, h8, rf_no _ _ (by decide +kernel) (by decide +kernel), x, l, data, _, k, t9, rfl, R8, hk, fun H9 R9 fr9 => ?_⟩
                    exact ⟨t9, kvs, obs, k, _, _, rfl, by simp only [List.length_cons]; omega, R9, same_fr sm8 fr9 nx, fr9 _ _ hD8 ndp, hI8.keep (R8.tk fr9), by omega, fun o r' k' => hpo _ _ (PO.rootw hm hrg ⟨hw, hmk⟩ hk k')⟩
                  · rw [show isMark 64 (skipS false (dropR (c :: r))) = false by simpa using hmk]
                    refine iteF ⟨_, kvs, obs, root, _, _, rfl, ?_, R8, sm8, hD8, hI8, ?_, fun o r' k' => hpo _ _ (PO.word hm hrg (fun g => hmk g.2) ?_)⟩
                    · simp only [List.length_cons]; omega
                    · omega
                    · rw [skipS_idem] at k'
                      exact k'
                · refine ⟨dropR (c :: r), kvs, obs, root, _, _, rfl, ?_, R6, sm6, hD6, hI6, ?_, fun o r' k' => hpo _ _ (PO.word hm hrg (fun g => hw g.1) k')⟩
                  · simp only [List.length_cons]; omega
                  · omega
              · refine ⟨_, rfl, x, _, dy, _, _, rfl, h4, T.cl, T.nAt, rf_at _ _, _, _, rfl, rfl, _, rfl, x, _, dy, _, rfl, h4, T.cl, T.nAt, rf_few _ _, ?_⟩
                have fr5 := fr_upd (p := x) (H := H4) (o := .ins (RC K) dy (putF "at" (.int (((data.length - (c :: r).length : Nat) : Int) + 1)) (rf l ((data.length - (c :: r).length : Nat) : Int))))
                have R5 := R4.step h4
                generalize upd H4 x (.ins (RC K) dy (putF "at" (.int (((data.length - (c :: r).length : Nat) : Int) + 1)) (rf l ((data.length - (c :: r).length : Nat) : Int)))) = H5 at R5 fr5
                exact ⟨r, kvs, obs, root, _, _, rfl, by simp, R5, same_fr sm4 fr5 nx, fr5 _ _ hD4 ndp, hI4.keep (R4.tk fr5), by omega, fun o r' k' => hpo _ _ (PO.skip hm hrg k')⟩
          · rintro σ' H4 ⟨s3, kvs, obs, root, x4, x5, rfl, hlt, R4, sm4, hD4, hI4, hkl4, hpo4⟩
            obtain ⟨d4, h4⟩ := R4.ob
            refine ⟨_, rfl, x, d4, _, rfl, h4, rf_no _ _ (by decide +kernel) (by decide +kernel), x, l, data, s3, rfl, R4, fun H5 R5 fr5 => ?_⟩
            have hsl := len_skipS false s3
            exact ⟨_, kvs, obs, root, x4, x5, rfl, Nat.lt_of_le_of_lt hsl hlt, R5, same_fr sm4 fr5 nx, fr5 _ _ hD4 ndp, hI4.keep (R4.tk fr5), by omega, hpo4⟩
      · cases s with
        | nil => exact ⟨kvs, obs, root, x4, x5, rfl, sm, hD, hI, hpo _ _ PO.nil, by omega⟩
        | cons c r => exact absurd (show (0 : Int) ≤ c from (R.sb (b := c) List.mem_cons_self).1) z
    · rintro σ' H' ⟨kvs, obs, root, x4, x5, rfl, sm, hD, hI, hpo, hkl⟩
      refine ⟨_, rfl, _, rfl, by show 2 ≤ sizeLine; decide, fun t nt => ?_⟩
      have sT := same_new (o := .tup [V.ref D, V.int root]) nt
      rw [← hs0e] at hpo
      exact q t D kvs obs root _ (sm.trans sT) hpo hkl upd_same (sT _ _ hD) (hI.keep (TK.of sT))
end
end K22

/-! The reader of objects: its induction. -/
namespace K22
theorem PO.induct {M : List (Int × Val) → Int → List Int → Prop}
    (hmark : ∀ obs root c r k s2 v t, M obs root (c :: r) → isMark 35 (c :: r) = true → markOf (c :: r) = some (k, s2) → PV 0 0 s2 v t → M (putA obs k (v.getD .none)) root (skipS false t))
    (hroot : ∀ obs root c r k s2, M obs root (c :: r) → isReg c = true → gRoot c r → markOf (skipS false (dropR (c :: r))) = some (k, s2) → M obs k (skipS false s2))
    (hword : ∀ obs root c r, M obs root (c :: r) → isReg c = true → M obs root (skipS false (dropR (c :: r))))
    (hskip : ∀ obs root c r, M obs root (c :: r) → M obs root (skipS false r)) :
    ∀ n obs root s x, M obs root s → pObjs n obs root s = some x → M x.1 x.2 []
  | 0, obs, root, s, x, m, h => by unfold pObjs at h; cases h
  | n + 1, obs, root, s, x, m, h => by
    cases s with
    | nil =>
      rw [pObjs_nil] at h
      cases h
      exact m
    | cons c r =>
      by_cases hm : isMark 35 (c :: r) = true
      · obtain ⟨k, t, hk⟩ := mark_of_is hm
        rw [pObjs_mark hm hk] at h
        cases hv : pVal n 0 0 t with
        | none => rw [hv] at h; cases h
        | some y =>
          rw [hv] at h
          exact PO.induct hmark hroot hword hskip n _ _ _ _ (hmark _ _ _ _ _ _ _ _ m hm hk ⟨n, hv⟩) h
      · by_cases hr : isReg c = true
        · by_cases hg : gRoot c r
          · obtain ⟨k, t, hk⟩ := mark_of_is hg.2
            rw [pObjs_root hm hr hg hk] at h
            exact PO.induct hmark hroot hword hskip n _ _ _ _ (hroot _ _ _ _ _ _ m hr hg hk) h
          · rw [pObjs_word hm hr hg] at h
            exact PO.induct hmark hroot hword hskip n _ _ _ _ (hword _ _ _ _ m hr) h
        · rw [pObjs_skip hm hr] at h
          exact PO.induct hmark hroot hword hskip n _ _ _ _ (hskip _ _ _ _ m) h
/-! ### keys -/
theorem putA_keys {κ β : Type} [DecidableEq κ] (kvs : List (κ × β)) (k : κ) (v : β) : (putA kvs k v).map (·.1) = if k ∈ kvs.map (·.1) then kvs.map (·.1) else kvs.map (·.1) ++ [k] := by
  unfold putA
  have e : (kvs.any fun kv => decide (kv.1 = k)) = decide (k ∈ kvs.map (·.1)) := by
    rw [Bool.eq_iff_iff]
    simp only [List.any_eq_true, decide_eq_true_eq, List.mem_map]
  rw [e]
  by_cases h : k ∈ kvs.map (·.1)
  · rw [if_pos (decide_eq_true h), if_pos h, List.map_map]
    refine List.map_congr_left fun x _ => ?_
    show (if x.1 = k then (x.1, v) else x).1 = x.1
    split <;> rfl
  · rw [if_neg (by simpa using h), if_neg h, List.map_append] <;> rfl
theorem putA_nodup {κ β : Type} [DecidableEq κ] {kvs : List (κ × β)} {k : κ} {v : β} (h : (kvs.map (·.1)).Nodup) : ((putA kvs k v).map (·.1)).Nodup := by
  rw [putA_keys]
  split
  · exact h
  · rename_i hn
    rw [List.nodup_append]
    refine ⟨h, by simp, fun a ha b hb e => hn ?_⟩
    simp only [List.mem_singleton] at hb
    rw [← hb, ← e]
    exact ha
theorem putA_mem {κ β : Type} [DecidableEq κ] {kvs : List (κ × β)} {k : κ} {v : β} {x : κ × β} (h : x ∈ putA kvs k v) : x ∈ kvs ∨ x = (k, v) := by
  unfold putA at h
  split at h
  · obtain ⟨y, hy, e⟩ := List.mem_map.mp h
    by_cases hk : y.1 = k
    · rw [if_pos hk] at e
      exact .inr (by rw [← e, hk])
    · rw [if_neg hk] at e
      exact .inl (by rw [← e]; exact hy)
  · rcases List.mem_append.mp h with h | h
    · exact .inl h
    · exact .inr (by simpa using h)
theorem PO.nodup {s : List Int} {obs : List (Int × Val)} {root : Int} (h : PO [] 0 s obs root) : (obs.map (·.1)).Nodup := by
  obtain ⟨n, h⟩ := h
  exact PO.induct (M := fun o _ _ => (o.map (fun z : Int × Val => z.1)).Nodup) (fun _ _ _ _ _ _ _ _ m _ _ _ => putA_nodup m) (fun _ _ _ _ _ _ m _ _ _ => m) (fun _ _ _ _ m _ => m) (fun _ _ _ _ m => m) n [] 0 s (obs, root) (by simp) h
/-! ### look-up -/
def lookI (n : Int) : List (Int × Val) → Option Val
  | [] => none
  | (k, v) :: r => if k = n then some v else lookI n r
theorem lookI_none {n : Int} : ∀ {obs : List (Int × Val)}, n ∉ obs.map (·.1) → lookI n obs = none
  | [], _ => rfl
  | (k, v) :: r, h => by
    have h' : ¬ (n = k ∨ n ∈ r.map (·.1)) := by simpa using h
    show (if k = n then _ else _) = _
    rw [if_neg (fun e => h' (.inl e.symm))]
    exact lookI_none fun m => h' (.inr m)
theorem lookI_some {n : Int} : ∀ {obs : List (Int × Val)}, n ∈ obs.map (·.1) → ∃ v, lookI n obs = some v ∧ (n, v) ∈ obs
  | [], h => by simp at h
  | (k, v) :: r, h => by
    by_cases e : k = n
    · exact ⟨v, if_pos e, by rw [e]; simp⟩
    · have h' : n ∈ r.map (·.1) := by
        rcases List.mem_cons.mp h with h | h
        · exact absurd h.symm e
        · exact h
      obtain ⟨u, h1, h2⟩ := lookI_some h'
      exact ⟨u, by show (if k = n then _ else _) = _; rw [if_neg e]; exact h1, List.mem_cons_of_mem _ h2⟩
def pick (obs : List (Int × Val)) (n : Int) : Int × Val := (n, (lookI n obs).getD .none)
theorem pick_skip {k : Int} {v : Val} {r : List (Int × Val)} {l : List Int} (h : k ∉ l) : l.map (pick ((k, v) :: r)) = l.map (pick r) := by
  refine List.map_congr_left fun n hn => ?_
  have : lookI n ((k, v) :: r) = lookI n r := if_neg fun e => h (by rw [e]; exact hn)
  unfold pick
  rw [this]
theorem pick_all : ∀ {obs : List (Int × Val)}, (obs.map (·.1)).Nodup → (obs.map (·.1)).map (pick obs) = obs
  | [], _ => rfl
  | (k, v) :: r, h => by
    have h' := List.nodup_cons.mp (show (k :: r.map (·.1)).Nodup from h)
    show pick ((k, v) :: r) k :: (r.map (·.1)).map (pick ((k, v) :: r)) = _
    rw [pick_skip h'.1, pick_all h'.2]
    have : lookI k ((k, v) :: r) = some v := if_pos rfl
    unfold pick
    rw [this] <;> rfl
theorem pick_perm {obs : List (Int × Val)} {ys : List Int} (h : (obs.map (·.1)).Nodup) (p : ys.Perm (obs.map (·.1))) : (ys.map (pick obs)).Perm obs := by
  have := p.map (pick obs)
  rw [pick_all h] at this
  exact this
theorem pick_keys (obs : List (Int × Val)) (ys : List Int) : (ys.map (pick obs)).map (·.1) = ys := by
  rw [List.map_map]
  exact (List.map_congr_left fun _ _ => rfl).trans (List.map_id ys)
end K22

set_option maxHeartbeats 4000000
/-! codes, get, first_pages, find -/
namespace K22
open PySem PySem.Spec PyProof.Rows L2
theorem ifF {b : Bool} {A B : Prop} (h : b = false) (x : B) : if b = true then A else B := by
  rw [h]
  exact iteF x
theorem ifT {b : Bool} {A B : Prop} (h : b = true) (x : A) : if b = true then A else B := by
  rw [h]
  exact iteT x
def cod (z : Str) : List Int := z.cps.toList.map fun n => ((n : Nat) : Int)
def wPAGES : List Int := [80, 97, 103, 101, 115]
def getP (ps : List (List Int × Val)) : Option Val := (ps.find? fun p => decide (p.1 = wPAGES)).map (·.2)
def isPages : Val → Bool
  | .dict ps => (getP ps).isSome
  | _ => false
def firstP : List (Int × Val) → Int
  | [] => 0
  | (n, v) :: r => if isPages v = true then n else firstP r
def kindS : Val → Str
  | .none => "none"
  | .bool _ => "bool"
  | .int _ => "int"
  | .name _ => "name"
  | .text _ => "text"
  | .ref _ => "ref"
  | .list _ => "list"
  | .dict _ => "dict"
  | .stream _ _ => "stream"
theorem Rep.kind {H : Hp} {u : V} {v : Val} (r : Rep H u v) : ∃ a xs, u = .ref a ∧ H a = some (.tup (.str (kindS v) :: xs)) := by
  cases r with
  | none h => exact ⟨_, _, rfl, h⟩
  | bool h => exact ⟨_, _, rfl, h⟩
  | int h => exact ⟨_, _, rfl, h⟩
  | name h _ => exact ⟨_, _, rfl, h⟩
  | text h _ => exact ⟨_, _, rfl, h⟩
  | ref h => exact ⟨_, _, rfl, h⟩
  | list h _ _ => exact ⟨_, _, rfl, h⟩
  | dict h _ _ => exact ⟨_, _, rfl, h⟩
  | stream h _ _ _ => exact ⟨_, _, rfl, h⟩
/-- the objects of a book -/
inductive RepB (H : Hp) : List V → List (Int × Val) → Prop
  | nil : RepB H [] []
  | cons {q : Addr} {u : V} {us : List V} {n : Int} {v : Val} {obs : List (Int × Val)} : H q = some (.tup [.int n, u]) → Rep H u v → RepB H us obs → RepB H (.ref q :: us) ((n, v) :: obs)
theorem RepB.keep {H H' : Hp} (t : TK H H') {us : List V} {obs : List (Int × Val)} (r : RepB H us obs) : RepB H' us obs := by
  induction r with
  | nil => exact .nil
  | cons h a _ ih => exact .cons (t _ _ h) (Rep.keep t a) ih
theorem RepB.len {H : Hp} {us : List V} {obs : List (Int × Val)} (r : RepB H us obs) : us.length = obs.length := by
  induction r with
  | nil => rfl
  | cons h _ _ ih => rw [List.length_cons, List.length_cons, ih]
theorem RepB.get {H : Hp} {us : List V} {obs : List (Int × Val)} (r : RepB H us obs) : ∀ {i : Nat} {x : V}, us[i]? = some x → ∃ q n y v, x = .ref q ∧ obs[i]? = some (n, v) ∧ H q = some (.tup [.int n, y]) ∧ Rep H y v := by
  induction r with
  | nil => intro i x h; simp at h
  | cons h a _ ih =>
    intro i x hx
    cases i with
    | zero =>
      have e := Option.some.inj hx
      subst e
      exact ⟨_, _, _, _, rfl, rfl, h, a⟩
    | succ i => exact ih hx
theorem drop_at {α : Type} {l : List α} {i : Nat} {x : α} (h : l[i]? = some x) : l.drop i = x :: l.drop (i + 1) := by
  obtain ⟨hi, rfl⟩ := List.getElem?_eq_some_iff.mp h
  exact List.drop_eq_getElem_cons hi
theorem getP_hit {k : List Int} {v : Val} {r : List (List Int × Val)} (h : k = wPAGES) : getP ((k, v) :: r) = some v := by
  unfold getP
  rw [List.find?_cons_of_pos (by simp [h])] <;> rfl
theorem getP_miss {k : List Int} {v : Val} {r : List (List Int × Val)} (h : ¬ k = wPAGES) : getP ((k, v) :: r) = getP r := by
  unfold getP
  rw [List.find?_cons_of_neg (by simp [h])]
section
variable {P : Program} {w : World} {K : PySem.W.Frag} {mg : Str → Option Value} {base : Heap}
def spCodes : Sp := fun vs H Q _ => ∃ z : Str, vs = [.str z] ∧ z.cps.size ≤ 100000 ∧ ∀ t H', H t = none → Same H H' → H' t = some (.lst ((cod z).map V.int)) → Q (.ref t) H'
theorem sc_codes : FnScope ["text", "sign"] ["text"] (defScope s_codes) := ⟨rfl, rfl, rfl, by decide +kernel, rfl, by decide +kernel, by decide +kernel⟩
theorem cod_at {z : Str} {i c : Nat} (h : z.cps[i]? = some c) : (cod z)[i]? = some (c : Int) := by
  unfold cod
  rw [List.getElem?_map, Array.getElem?_toList, h] <;> rfl
theorem cod_len (z : Str) : (cod z).length = z.cps.size := by
  unfold cod
  rw [List.length_map, Array.length_toList]
theorem ok_codes (T : Tx K mg) : Cal P w K mg base "codes" 1 ["text"] spCodes := by
  obtain ⟨fd, F⟩ := T.F_codes
  refine ⟨_, fd, F.ok sc_codes (fun vs H Q E h => ?_) (fun cdv A outer s H vs Q E hr h => ?_), T.g_codes, F.kp, F.binds fun _ _ _ _ _ _ us hl => match us, hl with | [_], _ => rfl⟩
  · obtain ⟨z, rfl, _⟩ := h
    rfl
  · obtain ⟨z, rfl, hz, q⟩ := h
    refine ⟨_, pss_one (ps_ret (pe_lc (own := [("sign", 1)]) (g := gName 1) (tt := tYes) rfl sc_codes.nd (pi_str (pv 0))
          (blkOk_by (own := [("sign", 1)]) (N := ["text", "sign"]) (sc := defScope s_codes) (by decide +kernel))
          (fun _ _ _ _ _ => pg_name (i := 1) sc_codes.nd rfl (Or.inl rfl)) (fun _ _ _ _ _ => pts_nil) (fun _ _ _ _ _ => pe_callB call_ord (by rfl) T.fr_ord (by decide +kernel) (pa_cons (pv 1) pa_nil)))), ?_⟩
    refine ⟨_, rfl, z, rfl, fun D nD => ?_⟩
    refine lc_it walk_str (fun j H3 => Same H H3 ∧ H3 D = some (.lst (((cod z).take j).map V.int))) ⟨same_new nD, upd_same⟩ (fun _ _ _ _ => trivial) ?_ ?_
    · rintro j x H3 H4 hj ⟨s3, e3⟩ ⟨rfl, c, hc, rfl⟩
      refine ⟨rfl, _, rfl, _, rfl, rfl, _, e3, ?_, ?_, ?_⟩
      · rw [List.length_map, List.length_take]
        exact line_big (by omega)
      · intro b o e
        rw [upd_ne (ne_of_none e nD)]
        exact s3 b o e
      · have hc' := cod_at hc
        rw [upd_same, List.take_add_one, hc', List.map_append] <;> rfl
    · rintro H3 ⟨s3, e3⟩
      rw [← cod_len, List.take_length] at e3
      exact q D H3 nD s3 e3
def spGet : Sp := fun vs H Q _ => ∃ (u : V) (ps : List (List Int × Val)), vs = [u, .str "Pages"] ∧ Rep H u (.dict ps) ∧ ∀ u' H', Same H H' → RepO H' u' (getP ps) → Q u' H'
theorem sc_get : FnScope ["value", "key", "codes", "one", "found", "sign"] ["value", "key"] (defScope s_get) := ⟨rfl, rfl, rfl, by decide +kernel, rfl, by decide +kernel, by decide +kernel⟩
theorem ok_get (T : Tx K mg) : Cal P w K mg base "get" 1 ["value", "key"] spGet := by
  obtain ⟨fd, F⟩ := T.F_get
  refine ⟨_, fd, F.ok sc_get (fun vs H Q E h => ?_) (fun cdv A outer s H vs Q E hr h => ?_), T.g_get, F.kp, F.binds fun _ _ _ _ _ _ us hl => match us, hl with | [_, _], _ => rfl⟩
  · obtain ⟨u, ps, rfl, _⟩ := h
    rfl
  · obtain ⟨u, ps, rfl, hrep, q⟩ := h
    cases hrep
    rename_i a t us ha ht hps
    refine ⟨_, pss_cons (ps_if (PW.pt (pw_or (pt_cmpR op_isN (pv 0) pe_non (nomark _)) (pw_or1 (pt_cmpR op_notIn_seq (pe_ix ix_tup (pv 0) pe_int (fun _ _ => rfl)) (pe_tup (pa_cons pe_str (pa_cons pe_str pa_nil))) rfl)))) (pss_one (ps_ret pe_non)) pss_nil)
      (pss_cons (ps_set (i := 2) sc_get.nd rfl (.inl rfl) (pe_callTy call_tuple_of (by rfl) T.fr_tuple (by decide +kernel) (pa_cons (pe_lc (own := [("sign", 5)]) (g := gName 5) (tt := tYes) rfl sc_get.nd (pi_str (pv 1))
          (blkOk_by (own := [("sign", 5)]) (N := ["value", "key", "codes", "one", "found", "sign"]) (sc := defScope s_get) (by decide +kernel))
          (fun _ _ _ _ _ => pg_name (i := 5) sc_get.nd rfl (Or.inl rfl)) (fun _ _ _ _ _ => pts_nil) (fun _ _ _ _ _ => pe_callB call_ord (by rfl) T.fr_ord (by decide +kernel) (pa_cons (pv 5) pa_nil))) pa_nil)))
      (pss_cons (ps_for PassesOwn.never rfl (pi_tup (pe_ix ix_tup (pv 0) pe_int (fun _ _ => rfl))) (pg_tup (by rfl) (pgs_cons (pg_name (i := 3) sc_get.nd rfl (.inl rfl)) (pgs_cons (pg_name (i := 4) sc_get.nd rfl (.inl rfl)) pgs_nil)))
        (pss_one (ps_if (pt_cmpR (op_eqD hr.units) (pv 3) (pv 2) (nomark _)) (pss_one (ps_ret (pv 4))) pss_nil)))
      (pss_one (ps_ret pe_non)))), ?_⟩
    refine ⟨_, rfl, rfl, _, rfl, iteF ?_⟩
    refine ⟨_, rfl, a, _, _, _, rfl, rfl, SqT.of ha, rfl, ⟨by show 2 ≤ sizeLine; decide, fun y ny => ?_⟩⟩
    have sY := same_new (o := .tup [V.str "dict", V.str "stream"]) ny
    have hY : SqT K (upd H y (.tup [V.str "dict", V.str "stream"])) y [V.str "dict", V.str "stream"] := SqT.of upd_same
    generalize upd H y (.tup [V.str "dict", V.str "stream"]) = H1 at sY hY
    refine ⟨_, _, rfl, .inr hY, rfl, by decide +kernel, _, rfl, ifF (by decide +kernel) ?_⟩
    refine ⟨_, rfl, "Pages", rfl, fun D nD => ?_⟩
    refine lc_it walk_str (fun j H3 => Same H1 H3 ∧ H3 D = some (.lst (((cod "Pages").take j).map V.int))) ⟨same_new nD, upd_same⟩ (fun _ _ _ _ => trivial) ?_ ?_
    · rintro j x H3 H4 hj ⟨s3, e3⟩ ⟨rfl, c, hc, rfl⟩
      refine ⟨rfl, _, rfl, _, rfl, rfl, _, e3, ?_, ?_, ?_⟩
      · rw [List.length_map, List.length_take, cod_len]
        exact line_big (Nat.le_trans (Nat.min_le_right _ _) (by decide +kernel))
      · intro b o e
        rw [upd_ne (ne_of_none e nD)]
        exact s3 b o e
      · have hc' := cod_at hc
        rw [upd_same, List.take_add_one, hc', List.map_append] <;> rfl
    · rintro H3 ⟨s3, e3⟩
      rw [← cod_len, List.take_length] at e3
      refine ⟨D, _, rfl, .inl ⟨SqL.of e3, fun tc ntc => ?_⟩⟩
      have sT := same_new (o := .tup ((cod "Pages").map V.int)) ntc
      have hT : (upd H3 tc (.tup ((cod "Pages").map V.int))) tc = some (.tup (wPAGES.map V.int)) := upd_same.trans (by rw [show cod "Pages" = wPAGES by decide +kernel])
      generalize upd H3 tc (.tup ((cod "Pages").map V.int)) = H4 at sT hT
      have s4 : Same H H4 := sY.trans (s3.trans sT)
      have ha4 := s4 _ _ ha
      have ht4 := s4 _ _ ht
      have hp4 := hps.keep (TK.of s4)
      refine ⟨_, rfl, a, _, _, _, rfl, rfl, SqT.of ha4, rfl, t, rfl, ⟨_, SqT.of ht4⟩, for_tup (K := K) (a := t) (xs := us) (fun i σ H' => ∃ x3 x4, σ = [some (.ref a), some (.str "Pages"), some (.ref tc), x3, x4, none] ∧ H' = H4 ∧ getP ps = getP (ps.drop i)) ⟨none, none, rfl, rfl, rfl⟩ (fun i σ H' _ ⟨_, _, _, e, _⟩ => by rw [e]; exact SqT.of ht4) ?_ ?_⟩
      · rintro i x σ H' hx ⟨x3, x4, rfl, rfl, hg⟩
        obtain ⟨qa, kq, y, k, v, rfl, hi, hq, hkq, rep⟩ := hp4.get hx
        refine ⟨qa, _, rfl, SqT.of hq, rfl, _, _, rfl, _, _, rfl, rfl, ?_⟩
        rw [drop_at hi] at hg
        refine ⟨_, rfl, _, rfl, _, _, dp_tup (SqT.of hkq), dp_tup (SqT.of hT), shaped_tup _, shaped_tup _, _, rfl, ifD (eqv_tup_ints _ _) (fun e => ?_) (fun e => ?_)⟩
        · rw [getP_hit e] at hg
          rw [hg] at q
          exact ⟨_, rfl, q _ _ s4 rep⟩
        · rw [getP_miss e] at hg
          exact ⟨_, _, rfl, rfl, hg⟩
      · rintro σ H' ⟨x3, x4, rfl, rfl, hg⟩
        rw [hp4.len, List.drop_length] at hg
        rw [hg] at q
        exact q _ _ s4 rfl
/-! ### first_pages -/
def spFirst : Sp := fun vs H Q _ => ∃ (a : Addr) (us : List V) (obs : List (Int × Val)), vs = [.ref a] ∧ H a = some (.tup us) ∧ RepB H us obs ∧ ∀ H', Same H H' → Q (.int (firstP obs)) H'
theorem sc_first_pages : FnScope ["objects", "number", "value"] ["objects"] (defScope s_first_pages) := ⟨rfl, rfl, rfl, by decide +kernel, rfl, by decide +kernel, by decide +kernel⟩
theorem kind_dict (v : Val) : decide (V.str (kindS v) = V.str "dict") = (match v with | .dict _ => true | _ => false) := by
  cases v with
  | none => exact (by decide +kernel : decide (V.str "none" = V.str "dict") = false)
  | bool _ => exact (by decide +kernel : decide (V.str "bool" = V.str "dict") = false)
  | int _ => exact (by decide +kernel : decide (V.str "int" = V.str "dict") = false)
  | name _ => exact (by decide +kernel : decide (V.str "name" = V.str "dict") = false)
  | text _ => exact (by decide +kernel : decide (V.str "text" = V.str "dict") = false)
  | ref _ => exact (by decide +kernel : decide (V.str "ref" = V.str "dict") = false)
  | list _ => exact (by decide +kernel : decide (V.str "list" = V.str "dict") = false)
  | dict _ => exact (by decide +kernel : decide (V.str "dict" = V.str "dict") = true)
  | stream _ _ => exact (by decide +kernel : decide (V.str "stream" = V.str "dict") = false)
theorem ok_first_pages (T : Tx K mg) : Cal P w K mg base "first_pages" 2 ["objects"] spFirst := by
  obtain ⟨fd, F⟩ := T.F_first_pages
  refine ⟨_, fd, F.ok sc_first_pages (fun vs H Q E h => ?_) (fun cdv A outer s H vs Q E hr h => ?_), T.g_first_pages, F.kp, F.binds fun _ _ _ _ _ _ us hl => match us, hl with | [_], _ => rfl⟩
  · obtain ⟨a, us, obs, rfl, _⟩ := h
    rfl
  · obtain ⟨a, us, obs, rfl, ha, hB, q⟩ := h
    refine ⟨_, pss_cons (ps_for PassesOwn.never rfl (pi_tup (pv 0)) (pg_tup (by rfl) (pgs_cons (pg_name (i := 1) sc_first_pages.nd rfl (.inl rfl)) (pgs_cons (pg_name (i := 2) sc_first_pages.nd rfl (.inl rfl)) pgs_nil)))
        (pss_one (ps_if (PW.pt (pw_and (pt_cmpR op_eq (pe_ix ix_tup (pv 2) pe_int (fun _ _ => rfl)) pe_str (nomark _)) (pw_and1 (pt_cmpR op_notN (pe_cal (ok_get T) hr (pa_cons (pv 2) (pa_cons pe_str pa_nil))) pe_non (nomark _))))) (pss_one (ps_ret (pv 1))) pss_nil)))
      (pss_one (ps_ret pe_int)), ?_⟩
    refine ⟨_, rfl, a, rfl, ⟨_, SqT.of ha⟩, for_tup (K := K) (a := a) (xs := us) (fun i σ H' => ∃ x1 x2, σ = [some (.ref a), x1, x2] ∧ Same H H' ∧ firstP obs = firstP (obs.drop i)) ⟨none, none, rfl, Same.refl _, rfl⟩ (fun i σ H' _ ⟨_, _, _, e, _⟩ => SqT.of (e _ _ ha)) ?_ ?_⟩
    · rintro i x σ H' hx ⟨x1, x2, rfl, sm, hg⟩
      obtain ⟨qa, n, y, v, rfl, hi, hq, rep⟩ := (hB.keep (TK.of sm)).get hx
      refine ⟨qa, _, rfl, SqT.of hq, rfl, _, _, rfl, _, _, rfl, rfl, ?_⟩
      rw [drop_at hi] at hg
      obtain ⟨b, ys, rfl, hb⟩ := rep.kind
      have no : isPages v = false → ∀ H2, Same H' H2 → ∃ x1 x2, ([some (.ref a), some (.int n), some (.ref b)] : L2.St) = [some (.ref a), x1, x2] ∧ Same H H2 ∧ firstP obs = firstP (obs.drop (i + 1)) := by
        intro hv H2 s2
        refine ⟨_, _, rfl, sm.trans s2, ?_⟩
        rw [hg]
        show (if isPages v = true then n else firstP (obs.drop (i + 1))) = _
        rw [hv] <;> rfl
      refine ⟨_, rfl, b, _, _, _, rfl, rfl, SqT.of hb, atI_nat (j := 0) rfl, rfl, _, rfl, ?_⟩
      have hk := kind_dict v
      cases v with
      | dict ps =>
        refine ifT hk ?_
        refine ⟨_, rfl, .ref b, ps, rfl, rep, fun u' H2 s2 hO => ⟨rfl, _, rfl, ?_⟩⟩
        cases e : getP ps with
        | none =>
          rw [e] at hO
          have eu : u' = .non := hO
          subst eu
          exact iteF (no (by show (getP ps).isSome = false; rw [e]; rfl) H2 s2)
        | some z =>
          rw [e] at hO
          obtain ⟨ua, eu⟩ := Rep.isRef (show Rep H2 u' z from hO)
          subst eu
          refine iteT ⟨_, rfl, ?_⟩
          have e1 : firstP obs = n := by
            rw [hg]
            show (if isPages (.dict ps) = true then n else _) = n
            rw [show isPages (.dict ps) = true by show (getP ps).isSome = true; rw [e]; rfl] <;> rfl
          rw [e1] at q
          exact q _ (sm.trans s2)
      | none => exact ifF hk (no rfl _ (Same.refl _))
      | bool _ => exact ifF hk (no rfl _ (Same.refl _))
      | int _ => exact ifF hk (no rfl _ (Same.refl _))
      | name _ => exact ifF hk (no rfl _ (Same.refl _))
      | text _ => exact ifF hk (no rfl _ (Same.refl _))
      | ref _ => exact ifF hk (no rfl _ (Same.refl _))
      | list _ => exact ifF hk (no rfl _ (Same.refl _))
      | stream _ _ => exact ifF hk (no rfl _ (Same.refl _))
    · rintro σ H' ⟨x1, x2, rfl, sm, hg⟩
      rw [hB.len, List.drop_length] at hg
      rw [hg] at q
      exact q _ sm
/-! ### find -/
def spFind : Sp := fun vs H Q _ => ∃ (b a : Addr) (us : List V) (obs : List (Int × Val)) (root n : Int), vs = [.ref b, .int n] ∧ H b = some (.tup [.ref a, .int root]) ∧ H a = some (.tup us) ∧ RepB H us obs ∧ ∀ u H', Same H H' → RepO H' u (lookI n obs) → Q u H'
theorem sc_find : FnScope ["book", "number", "one", "value"] ["book", "number"] (defScope s_find) := ⟨rfl, rfl, rfl, by decide +kernel, rfl, by decide +kernel, by decide +kernel⟩
theorem ok_find (T : Tx K mg) : Cal P w K mg base "find" 1 ["book", "number"] spFind := by
  obtain ⟨fd, F⟩ := T.F_find
  refine ⟨_, fd, F.ok sc_find (fun vs H Q E h => ?_) (fun cdv A outer s H vs Q E hr h => ?_), T.g_find, F.kp, F.binds fun _ _ _ _ _ _ us hl => match us, hl with | [_, _], _ => rfl⟩
  · obtain ⟨b, a, us, obs, root, n, rfl, _⟩ := h
    rfl
  · obtain ⟨b, a, us, obs, root, n, rfl, hb, ha, hB, q⟩ := h
    refine ⟨_, pss_cons (ps_for PassesOwn.never rfl (pi_tup (pe_ix ix_tup (pv 0) pe_int (fun _ _ => rfl))) (pg_tup (by rfl) (pgs_cons (pg_name (i := 2) sc_find.nd rfl (.inl rfl)) (pgs_cons (pg_name (i := 3) sc_find.nd rfl (.inl rfl)) pgs_nil)))
        (pss_one (ps_if (pt_cmpR op_eq (pv 2) (pv 1) (nomark _)) (pss_one (ps_ret (pv 3))) pss_nil)))
      (pss_one (ps_ret pe_non)), ?_⟩
    refine ⟨_, rfl, b, _, _, _, rfl, rfl, SqT.of hb, rfl, a, rfl, ⟨_, SqT.of ha⟩, for_tup (K := K) (a := a) (xs := us) (fun i σ H' => ∃ x1 x2, σ = [some (.ref b), some (.int n), x1, x2] ∧ H' = H ∧ lookI n obs = lookI n (obs.drop i)) ⟨none, none, rfl, rfl, rfl⟩ (fun i σ H' _ ⟨_, _, _, e, _⟩ => by rw [e]; exact SqT.of ha) ?_ ?_⟩
    · rintro i x σ H' hx ⟨x1, x2, rfl, rfl, hg⟩
      obtain ⟨qa, m, y, v, rfl, hi, hq, rep⟩ := hB.get hx
      refine ⟨qa, _, rfl, SqT.of hq, rfl, _, _, rfl, _, _, rfl, rfl, ?_⟩
      rw [drop_at hi] at hg
      have hg' : lookI n obs = if m = n then some v else lookI n (obs.drop (i + 1)) := hg
      refine ⟨_, rfl, _, rfl, rfl, _, rfl, ifI (fun e => ?_) (fun e => ?_)⟩
      · rw [if_pos e] at hg'
        rw [hg'] at q
        exact ⟨_, rfl, q _ _ (Same.refl _) rep⟩
      · rw [if_neg e] at hg'
        exact ⟨_, _, rfl, rfl, hg'⟩
    · rintro σ H' ⟨x1, x2, rfl, rfl, hg⟩
      rw [hB.len, List.drop_length] at hg
      rw [hg] at q
      exact q _ _ (Same.refl _) rfl
end
end K22

set_option maxHeartbeats 4000000
/-! read_book -/
namespace K22
open PySem PySem.Spec PyProof.Rows L2
theorem RepI.keys {H : Hp} {kvs : List (L2.Key × V)} {obs : List (Int × Val)} (r : RepI H kvs obs) : kvs.map (·.1) = (obs.map (·.1)).map Sum.inl := by
  induction r with
  | nil => rfl
  | cons h _ ih => rw [List.map_cons, ih] <;> rfl
theorem RepI.val {H : Hp} {kvs : List (L2.Key × V)} {obs : List (Int × Val)} (r : RepI H kvs obs) (n : Int) : (valV kvs (.inl n) = none ∧ lookI n obs = none) ∨ ∃ u v, valV kvs (.inl n) = some u ∧ lookI n obs = some v ∧ Rep H u v := by
  induction r with
  | nil => exact .inl ⟨rfl, rfl⟩
  | @cons k u v kvs obs h _ ih =>
    by_cases e : k = n
    · refine .inr ⟨u, v, valV_pos (by rw [e]), if_pos e, h⟩
    · have e2 : ¬ (Sum.inl k : L2.Key) = Sum.inl n := fun z => e (Sum.inl.inj z)
      rw [valV_neg e2, show lookI n ((k, v) :: obs) = lookI n obs from if_neg e]
      exact ih
theorem RepB.snoc {H : Hp} {us : List V} {obs : List (Int × Val)} (r : RepB H us obs) {q : Addr} {u : V} {n : Int} {v : Val} (h : H q = some (.tup [.int n, u])) (a : Rep H u v) : RepB H (us ++ [.ref q]) (obs ++ [(n, v)]) := by
  induction r with
  | nil => exact .cons h a .nil
  | cons x y _ ih => exact .cons x y ih
/-- what read_book answers for these objects in their order -/
def rootOf (sobs : List (Int × Val)) (root : Int) : Int := if lookI root sobs = none then firstP sobs else root
section
variable {P : Program} {w : World} {K : PySem.W.Frag} {mg : Str → Option Value} {base : Heap}
def spReadBook (K : PySem.W.Frag) : Sp := fun vs H Q _ => ∃ (a : Addr) (data : List Int) (left : Int), vs = [.ref a, .int left] ∧ SqL K H a (data.map V.int) ∧ data.length ≤ 100000 ∧ (∀ b ∈ data, 0 ≤ b ∧ b ≤ 255) ∧
  (∀ obs root, PO [] 0 (skipS false data) obs root → obs.length < 64) ∧
  (left < (data.length : Int) → ∀ t H', Same H H' → H' t = some (.tup [.non, .int 0]) → Q (.ref t) H') ∧
  ((data.length : Int) ≤ left → ∀ obs root, PO [] 0 (skipS false data) obs root →
    (obs = [] → ∀ t H', Same H H' → H' t = some (.tup [.non, .int (left - data.length)]) → Q (.ref t) H') ∧
    (obs ≠ [] → ∀ sobs, sobs.Perm obs → (sobs.map (·.1)).Pairwise (· ≤ ·) → (sobs.map (·.1)).Nodup → ∀ t b f us H', Same H H' → H' t = some (.tup [.ref b, .int (left - data.length)]) → H' b = some (.tup [.ref f, .int (if lookI root obs = none then firstP sobs else root)]) → H' f = some (.tup us) → RepB H' us sobs → Q (.ref t) H'))
theorem sc_read_book : FnScope ["data", "left", "enough", "objects", "root", "found", "number"] ["data", "left"] (defScope s_read_book) := ⟨rfl, rfl, rfl, by decide +kernel, rfl, by decide +kernel, by decide +kernel⟩
theorem ok_read_book (T : Tx K mg) : Cal P w K mg base "read_book" 39 ["data", "left"] (spReadBook K) := by
  obtain ⟨fd, F⟩ := T.F_read_book
  refine ⟨_, fd, F.ok sc_read_book (fun vs H Q E h => ?_) (fun cdv A outer s H vs Q E hr h => ?_), T.g_read_book, F.kp, F.binds fun _ _ _ _ _ _ us hl => match us, hl with | [_, _], _ => rfl⟩
  · obtain ⟨a, data, left, rfl, _⟩ := h
    rfl
  · obtain ⟨a, data, left, rfl, hS, hlen, hbyt, h64, q1, q2⟩ := h
    have hr1 : Room 1 _ := hr.mono (by decide)
    have hr2 : Room 2 _ := hr.mono (by decide)
    have hu1 : ∀ {A : Around}, Room 38 A → A.units + 1 < cLine := fun r => by have := r.un; omega
    refine ⟨_, pss_cons (ps_asg (pe_cal (ok_spend T) hr1 (pa_cons (pv 1) (pa_cons (pe_callB call_len_seq (by rfl) T.fr_len PySem.boot_len (pa_cons (pv 0) pa_nil)) pa_nil))) (pg_tup (by rfl) (pgs_cons (pg_name (i := 1) sc_read_book.nd rfl (.inl rfl)) (pgs_cons (pg_name (i := 2) sc_read_book.nd rfl (.inl rfl)) pgs_nil))))
      (pss_cons (ps_if (pt_not (pt_val (pv 2))) (pss_one (ps_ret (pe_tup (pa_cons pe_non (pa_cons (pv 1) pa_nil))))) pss_nil)
      (pss_cons (ps_asg (pe_cal (ok_read_objects T) hr (pa_cons (pv 0) pa_nil)) (pg_tup (by rfl) (pgs_cons (pg_name (i := 3) sc_read_book.nd rfl (.inr rfl)) (pgs_cons (pg_name (i := 4) sc_read_book.nd rfl (.inl rfl)) pgs_nil))))
      (pss_cons (ps_if (pt_cmpR op_eq (pe_callB call_lenD (by rfl) T.fr_len PySem.boot_len (pa_cons (pv 3) pa_nil)) pe_int (nomark _)) (pss_one (ps_ret (pe_tup (pa_cons pe_non (pa_cons (pv 1) pa_nil))))) pss_nil)
      (pss_cons (ps_set (i := 5) sc_read_book.nd rfl (.inl rfl) (pe_callTy call_tuple_of (by rfl) T.fr_tuple (by decide +kernel) (pa_cons (pe_lc (own := [("number", 6)]) (g := gName 6) (tt := tYes) rfl sc_read_book.nd (pi_list (pe_callB (call_sortedDI rfl) (by rfl) T.fr_sorted (by decide +kernel) (pa_cons (pv 3) pa_nil)))
          (blkOk_by (own := [("number", 6)]) (N := ["data", "left", "enough", "objects", "root", "found", "number"]) (sc := defScope s_read_book) (by decide +kernel))
          (fun _ _ _ _ _ => pg_name (i := 6) sc_read_book.nd rfl (Or.inl rfl)) (fun _ _ _ _ _ => pts_nil) (fun _ _ _ _ _ => pe_tup (pa_cons (pv 6) (pa_cons (pe_dget (hu1 hr) (pv 3) (pv 6) (fun _ _ => rfl)) pa_nil)))) pa_nil)))
      (C8.pss_cut (ps_if (pt_cmp (pc_dnotin (hu1 hr) (pv 4) (pv 3))) (pss_one (ps_set (i := 4) sc_read_book.nd rfl (.inl rfl) (pe_cal (ok_first_pages T) hr2 (pa_cons (pv 5) pa_nil)))) pss_nil)
      (pss_one (ps_ret (pe_tup (pa_cons (pe_tup (pa_cons (pv 5) (pa_cons (pv 4) pa_nil))) (pa_cons (pv 1) pa_nil)))))))))), ?_⟩
    have eL : (((data.map V.int).length : Nat) : Int) = (data.length : Int) := by rw [List.length_map]
    refine ⟨_, rfl, _, rfl, a, _, rfl, .inl hS, left, ((data.map V.int).length : Int), rfl, by omega, fun hge t H1 s1 ht => ?_, fun hlt t H1 s1 ht => ?_⟩
    · rw [eL] at hge ht
      refine ⟨t, _, rfl, SqT.of ht, rfl, _, _, rfl, _, _, rfl, rfl, ?_⟩
      refine ⟨_, rfl, _, rfl, iteF ?_⟩
      have hS1 := s1.seq hS
      refine ⟨_, rfl, a, data, rfl, hS1, hlen, hbyt, fun t2 D kvs obs root H2 s2 hpo hkl ht2 hD hI => ?_⟩
      have s12 := s1.trans s2
      obtain ⟨qn, qs⟩ := q2 hge obs root hpo
      have hnd := hpo.nodup
      have hl64 := h64 obs root hpo
      refine ⟨t2, _, rfl, SqT.of ht2, rfl, _, _, rfl, _, _, rfl, rfl, ?_⟩
      have hkl2 := hI.len
      refine ⟨_, rfl, D, kvs, rfl, hD, rfl, _, rfl, ifI (fun e => ?_) (fun e => ?_)⟩
      · have e0 : obs = [] := List.length_eq_zero_iff.mp (by omega)
        refine ⟨_, rfl, by show 2 ≤ sizeLine; decide, fun y ny => ?_⟩
        have sY := same_new (o := .tup [V.non, V.int (left - data.length)]) ny
        exact qn e0 y _ (s12.trans sY) upd_same
      · have e0 : obs ≠ [] := fun z => e (by rw [hkl2, z]; rfl)
        refine ⟨_, rfl, D, kvs, obs.map (·.1), rfl, .inl hD, hI.keys, by rw [List.length_map]; exact hl64, fun ys ya hperm hsort nya => ?_⟩
        have sA := same_new (o := .lst (ys.map V.int)) nya
        have hA : (upd H2 ya (.lst (ys.map V.int))) ya = some (.lst (ys.map V.int)) := upd_same
        generalize upd H2 ya (.lst (ys.map V.int)) = H3 at sA hA
        refine ⟨ya, rfl, ⟨_, SqL.of hA⟩, fun L nL => ?_⟩
        have hyl : ys.length = obs.length := by rw [hperm.length_eq, List.length_map]
        refine lc_list (K := K) (a := ya) (xs := ys.map V.int) (fun j H4 => Same H3 H4 ∧ ∃ us, H4 L = some (.lst us) ∧ RepB H4 us ((ys.take j).map (pick obs))) ⟨same_new nL, [], upd_same, .nil⟩ (fun j H4 _ ⟨s4, _⟩ => s4.seq (SqL.of hA)) ?_ ?_
        · rintro j x H4 hx ⟨s4, us, hus, hB⟩
          rw [List.getElem?_map] at hx
          obtain ⟨n, hn, rfl⟩ := Option.map_eq_some_iff.mp hx
          have hmem : n ∈ obs.map (·.1) := hperm.mem_iff.mp (List.mem_of_getElem? hn)
          have hI4 := hI.keep (TK.of (sA.trans s4))
          have hD4 := (sA.trans s4) _ _ hD
          obtain ⟨v, hv, _⟩ := lookI_some hmem
          obtain ⟨u, v', hu, hv', rep⟩ : ∃ u v', valV kvs (.inl n) = some u ∧ lookI n obs = some v' ∧ Rep H4 u v' := by
            rcases hI4.val n with ⟨_, h⟩ | h
            · rw [hv] at h; cases h
            · exact h
          have hg : DGet H4 D (kV (.inl n)) (some u) := by rw [← hu]; exact DGet.k hD4
          refine ⟨rfl, _, rfl, _, rfl, _, rfl, D, u, rfl, hg, by show 2 ≤ sizeLine; decide, fun y ny => ?_⟩
          have sY := same_new (o := .tup [V.int n, u]) ny
          have hY : (upd H4 y (.tup [V.int n, u])) y = some (.tup [.int n, u]) := upd_same
          generalize upd H4 y (.tup [V.int n, u]) = H5 at sY hY
          have hus5 := sY _ _ hus
          have hB5 := hB.keep (TK.of sY)
          have hul := hB.len
          rw [List.length_map, List.length_take] at hul
          have hLn : H3 L = none := nL
          refine ⟨us, hus5, line_big (by omega), ?_, us ++ [.ref y], upd_same, ?_⟩
          · intro b o e
            rw [upd_ne (ne_of_none e hLn)]
            exact sY _ _ (s4 b o e)
          · have tk : TK H5 (upd H5 L (.lst (us ++ [.ref y]))) := fun b xs z => by
              rw [upd_ne (fun e => by rw [e, hus5] at z; cases z)]
              exact z
            rw [take_next (pick obs) hn]
            have ep : pick obs n = (n, v') := by unfold pick; rw [hv'] <;> rfl
            rw [ep]
            exact (hB5.keep tk).snoc (tk _ _ hY) (Rep.keep tk (Rep.keep (TK.of sY) rep))
        · rintro H4 ⟨s4, us, hus, hB⟩
          rw [List.length_map, List.take_length] at hB
          refine ⟨L, us, rfl, .inl ⟨SqL.of hus, fun f nf => ?_⟩⟩
          have sF := same_new (o := .tup us) nf
          have hF : (upd H4 f (.tup us)) f = some (.tup us) := upd_same
          generalize upd H4 f (.tup us) = H5 at sF hF
          have hB5 := hB.keep (TK.of sF)
          have s25 : Same H2 H5 := sA.trans (s4.trans sF)
          have hD5 := s25 _ _ hD
          have hI5 := hI.keep (TK.of s25)
          have pp := pick_perm hnd hperm
          have pk := pick_keys obs ys
          have s05 := s12.trans s25
          refine ⟨fun σ' H' => σ' = [some (.ref a), some (.int (left - data.length)), some (.bl true), some (.ref D), some (.int (if lookI root obs = none then firstP (ys.map (pick obs)) else root)), some (.ref f), none] ∧ Same H5 H', ?_, ?_⟩
          · refine ⟨_, rfl, _, rfl, D, _, rfl, DGet.k (k := .inl root) hD5, ?_⟩
            rcases hI5.val root with ⟨h1, h2⟩ | ⟨u, v, h1, h2, _⟩
            · refine ⟨_, rfl, ifT (by rw [h1]; rfl) ?_⟩
              refine ⟨_, rfl, f, us, _, rfl, hF, hB5, fun H6 s6 => ?_⟩
              exact ⟨by rw [if_pos h2]; rfl, s6⟩
            · refine ⟨_, rfl, ifF (by rw [h1]; rfl) ?_⟩
              exact ⟨by rw [if_neg (by rw [h2]; exact fun z => by cases z)]; rfl, Same.refl _⟩
          · rintro σ' H6 ⟨rfl, s6⟩
            refine ⟨_, rfl, _, rfl, by show 2 ≤ sizeLine; decide, fun b nb => ?_⟩
            have sB := same_new (o := .tup [V.ref f, V.int (if lookI root obs = none then firstP (ys.map (pick obs)) else root)]) nb
            have hb : (upd H6 b (.tup [V.ref f, V.int (if lookI root obs = none then firstP (ys.map (pick obs)) else root)])) b = some (.tup [V.ref f, V.int (if lookI root obs = none then firstP (ys.map (pick obs)) else root)]) := upd_same
            generalize upd H6 b (.tup [V.ref f, V.int (if lookI root obs = none then firstP (ys.map (pick obs)) else root)]) = H7 at sB hb
            refine ⟨_, rfl, by show 2 ≤ sizeLine; decide, fun y ny => ?_⟩
            have sY := same_new (o := .tup [V.ref b, V.int (left - data.length)]) ny
            have sA2 : Same H5 _ := s6.trans (sB.trans sY)
            exact qs e0 _ pp (by rw [pk]; exact hsort) (by rw [pk]; exact hperm.nodup_iff.mpr hnd) y b f us _ (s05.trans sA2) upd_same (sY _ _ hb) (sA2 _ _ hF) (hB5.keep (TK.of sA2))
    · rw [eL] at hlt
      refine ⟨t, _, rfl, SqT.of ht, rfl, _, _, rfl, _, _, rfl, rfl, ?_⟩
      refine ⟨_, rfl, _, rfl, iteT ⟨_, rfl, by show 2 ≤ sizeLine; decide, fun y ny => ?_⟩⟩
      have sY := same_new (o := .tup [V.non, V.int 0]) ny
      exact q1 hlt y _ (s1.trans sY) upd_same
end
end K22

/-! Sound values. -/
namespace K22
def okD (d : List Int) : Prop := (∀ b ∈ d, 0 ≤ b ∧ b ≤ 255) ∧ d.length ≤ 100000
mutual
def okV : Nat → Val → Prop
  | _, .none => True
  | _, .bool _ => True
  | _, .int n => -2147483647 ≤ n ∧ n ≤ 2147483647
  | _, .ref n => 1 ≤ n ∧ n ≤ 9999
  | _, .name d => okD d
  | _, .text d => okD d
  | deep, .list vs => deep < 16 ∧ vs.length ≤ 100000 ∧ okL (deep + 1) vs
  | deep, .dict ps => deep < 16 ∧ ps.length ≤ 100000 ∧ (ps.map (·.1)).Nodup ∧ okP (deep + 1) ps
  | deep, .stream ps d => deep < 16 ∧ ps.length ≤ 100000 ∧ (ps.map (·.1)).Nodup ∧ okP (deep + 1) ps ∧ okD d
def okL : Nat → List Val → Prop
  | _, [] => True
  | deep, v :: r => okV deep v ∧ okL deep r
def okP : Nat → List (List Int × Val) → Prop
  | _, [] => True
  | deep, (k, v) :: r => okD k ∧ okV deep v ∧ okP deep r
end
theorem okL_get {deep : Nat} : ∀ {vs : List Val}, okL deep vs → ∀ {i : Nat} {v : Val}, vs[i]? = some v → okV deep v
  | [], _, i, v, h => by simp at h
  | x :: r, ok, 0, v, h => by
    have e := Option.some.inj h
    subst e
    unfold okL at ok
    exact ok.1
  | x :: r, ok, i + 1, v, h => by
    unfold okL at ok
    exact okL_get ok.2 h
theorem okP_get {deep : Nat} : ∀ {ps : List (List Int × Val)}, okP deep ps → ∀ {i : Nat} {k : List Int} {v : Val}, ps[i]? = some (k, v) → okD k ∧ okV deep v
  | [], _, i, k, v, h => by simp at h
  | (x, y) :: r, ok, 0, k, v, h => by
    have e := Option.some.inj h
    injection e with e1 e2
    subst e1 e2
    unfold okP at ok
    exact ⟨ok.1, ok.2.1⟩
  | (x, y) :: r, ok, i + 1, k, v, h => by
    unfold okP at ok
    exact okP_get ok.2.2 h
end K22

set_option maxHeartbeats 4000000
/-! sound values; is_integer, is_data -/
namespace K22
open PySem PySem.Spec PyProof.Rows L2
section
variable {P : Program} {w : World} {K : PySem.W.Frag} {mg : Str → Option Value} {base : Heap}
def spIsInt : Sp := fun vs H Q _ => ∃ n lo hi : Int, vs = [.int n, .int lo, .int hi] ∧ lo ≤ n ∧ n ≤ hi ∧ Q (.bl true) H
theorem sc_is_integer : FnScope ["value", "low", "high"] ["value", "low", "high"] (defScope s_is_integer) := ⟨rfl, rfl, rfl, by decide +kernel, rfl, by decide +kernel, by decide +kernel⟩
theorem ok_is_integer (T : Tx K mg) : Cal P w K mg base "is_integer" 1 ["value", "low", "high"] spIsInt := by
  obtain ⟨fd, F⟩ := T.F_is_integer
  refine ⟨_, fd, F.ok sc_is_integer (fun vs H Q E h => ?_) (fun cdv A outer s H vs Q E hr h => ?_), T.g_is_integer, F.kp, F.binds fun _ _ _ _ _ _ us hl => match us, hl with | [_, _, _], _ => rfl⟩
  · obtain ⟨n, lo, hi, rfl, _⟩ := h
    rfl
  · obtain ⟨n, lo, hi, rfl, h1, h2, q⟩ := h
    refine ⟨_, pss_one (ps_ret (pe_and (pe_callB call_isi (by rfl) T.fr_isinstance (by decide +kernel) (pa_cons (pv 0) (pa_cons (pe_bltn (v := .ty "int") (by rfl) T.fr_int (by decide +kernel) rfl) pa_nil)))
      (pe_and (pe_not (pe_callB call_isi (by rfl) T.fr_isinstance (by decide +kernel) (pa_cons (pv 0) (pa_cons (pe_bltn (v := .ty "bool") (by rfl) T.fr_bool (by decide +kernel) rfl) pa_nil))))
      (pe_one (pe_chain op_le op_le (pv 1) (pv 0) (pv 2)))))), ?_⟩
    refine ⟨_, rfl, .int n, .ty "int", _, _, true, rfl, .ty _, .base (.int n), kit_ty (by decide +kernel), _, rfl, iteT ?_⟩
    refine ⟨_, rfl, .int n, .ty "bool", _, _, false, rfl, .ty _, .base (.int n), kit_ty (by decide +kernel), _, rfl, _, rfl, iteT ?_⟩
    refine ⟨_, rfl, _, rfl, _, _, rfl, rfl, _, rfl, ifB_t h1 ⟨_, rfl, _, _, rfl, rfl, ?_⟩⟩
    rw [← (decide_eq_true h2 : decide (n ≤ hi) = true)] at q
    exact q
def spIsData : Sp := fun vs H Q _ => ∃ (t : Addr) (d : List Int), vs = [.ref t, .int 999999999] ∧ H t = some (.tup (d.map V.int)) ∧ okD d ∧ ∀ H', Same H H' → Q (.bl true) H'
theorem sc_is_data : FnScope ["value", "most", "byte"] ["value", "most"] (defScope s_is_data) := ⟨rfl, rfl, rfl, by decide +kernel, rfl, by decide +kernel, by decide +kernel⟩
theorem all_rep (n : Nat) : (List.replicate n true).all id = true := by
  induction n with
  | zero => rfl
  | succ n ih => rw [List.replicate_succ, List.all_cons, ih] <;> rfl
theorem rep_snoc (n : Nat) : (List.replicate n true).map V.bl ++ [V.bl true] = (List.replicate (n + 1) true).map V.bl := by
  rw [List.replicate_succ', List.map_append] <;> rfl
theorem ok_is_data (T : Tx K mg) : Cal P w K mg base "is_data" 2 ["value", "most"] spIsData := by
  obtain ⟨fd, F⟩ := T.F_is_data
  refine ⟨_, fd, F.ok sc_is_data (fun vs H Q E h => ?_) (fun cdv A outer s H vs Q E hr h => ?_), T.g_is_data, F.kp, F.binds fun _ _ _ _ _ _ us hl => match us, hl with | [_, _], _ => rfl⟩
  · obtain ⟨t, d, rfl, _⟩ := h
    rfl
  · obtain ⟨t, d, rfl, ht, hd, q⟩ := h
    refine ⟨_, pss_cons (ps_if (PW.pt (pw_or (pt_not (pt_val (pe_callB call_isi (by rfl) T.fr_isinstance (by decide +kernel) (pa_cons (pv 0) (pa_cons (pe_bltn (v := .ty "tuple") (by rfl) T.fr_tuple (by decide +kernel) rfl) pa_nil)))))
          (pw_or1 (pt_cmpR op_gt (pe_callB call_len_seq (by rfl) T.fr_len PySem.boot_len (pa_cons (pv 0) pa_nil)) (pv 1) (nomark _))))) (pss_one (ps_ret pe_bl)) pss_nil)
      (pss_one (ps_ret (pe_callB (cr_all rfl) (by rfl) T.fr_all (by decide +kernel) (pa_cons (pe_lc (own := [("byte", 2)]) (g := gName 2) (tt := tYes) rfl sc_is_data.nd (pi_tup (pv 0))
            (blkOk_by (own := [("byte", 2)]) (N := ["value", "most", "byte"]) (sc := defScope s_is_data) (by decide +kernel))
            (fun _ _ _ _ _ => pg_name (i := 2) sc_is_data.nd rfl (Or.inl rfl)) (fun _ _ _ _ _ => pts_nil) (fun _ _ _ _ _ => pe_cal (ok_is_integer T) hr (pa_cons (pv 2) (pa_cons pe_int (pa_cons pe_int pa_nil))))) pa_nil)))), ?_⟩
    have eL : (((d.map V.int).length : Nat) : Int) = (d.length : Int) := by rw [List.length_map]
    have hl := hd.2
    refine ⟨_, rfl, .ref t, .ty "tuple", _, _, true, rfl, .ty _, .base (.tup ht), kit_ty (by decide +kernel), _, rfl, iteF ?_⟩
    refine ⟨_, rfl, t, _, rfl, .inr (SqT.of ht), _, rfl, _, _, rfl, rfl, _, rfl, ifB_f (by omega) ?_⟩
    refine ⟨_, rfl, t, rfl, ⟨_, SqT.of ht⟩, fun D nD => ?_⟩
    refine lc_tup (K := K) (a := t) (xs := d.map V.int) (fun j H3 => Same H H3 ∧ j ≤ d.length ∧ H3 D = some (.lst ((List.replicate j true).map V.bl))) ⟨same_new nD, Nat.zero_le _, upd_same⟩ (fun j H3 _ ⟨s3, _⟩ => SqT.of (s3 _ _ ht)) ?_ ?_
    · rintro j x H3 hx ⟨s3, hj, e3⟩
      rw [List.getElem?_map] at hx
      obtain ⟨b, hb, rfl⟩ := Option.map_eq_some_iff.mp hx
      have hbb := hd.1 b (List.mem_of_getElem? hb)
      have hjl := (List.getElem?_eq_some_iff.mp hb).1
      refine ⟨rfl, _, rfl, b, 0, 255, rfl, hbb.1, hbb.2, _, e3, ?_, ?_, by omega, ?_⟩
      · rw [List.length_map, List.length_replicate]
        exact line_big (by omega)
      · intro c o e
        rw [upd_ne (ne_of_none e nD)]
        exact s3 c o e
      · rw [upd_same, rep_snoc]
    · rintro H3 ⟨s3, _, e3⟩
      refine ⟨D, List.replicate _ true, rfl, SqL.of e3, ?_⟩
      rw [all_rep]
      exact q _ s3
end
end K22

set_option maxHeartbeats 4000000
/-! are_pairs, is_sound, is_value -/
namespace K22
open PySem PySem.Spec PyProof.Rows L2
section
variable {P : Program} {w : World} {K : PySem.W.Frag} {mg : Str → Option Value} {base : Heap}
def spSound (deep : Nat) : Sp := fun vs H Q _ => ∃ (u : V) (v : Val), vs = [u, .int (deep : Int)] ∧ Rep H u v ∧ okV deep v ∧ ∀ H', Same H H' → Q (.bl true) H'
def spPairs (deep : Nat) : Sp := fun vs H Q _ => deep < 16 ∧ ∃ (t : Addr) (us : List V) (ps : List (List Int × Val)), vs = [.ref t, .int (deep : Int)] ∧ H t = some (.tup us) ∧ RepP H us ps ∧ ps.length ≤ 100000 ∧ (ps.map (·.1)).Nodup ∧ okP (deep + 1) ps ∧ ∀ H', Same H H' → Q (.bl true) H'
theorem sc_are_pairs : FnScope ["value", "deep", "seen", "pair"] ["value", "deep"] (defScope s_are_pairs) := ⟨rfl, rfl, rfl, by decide +kernel, rfl, by decide +kernel, by decide +kernel⟩
theorem valV_no {kvs : List (List L2.Key × V)} {k : List L2.Key} (h : k ∉ kvs.map (·.1)) : valV kvs k = none := by
  unfold valV
  rw [List.find?_eq_none.mpr fun x hx => by
    simp only [decide_eq_true_eq]
    exact fun e => h (List.mem_map.mpr ⟨x, hx, e⟩)] <;> rfl
theorem nodup_at {ks : List (List Int)} (h : ks.Nodup) {i : Nat} {k : List Int} (hk : ks[i]? = some k) : k ∉ ks.take i := by
  intro hm
  obtain ⟨j, hj⟩ := List.mem_iff_getElem?.mp hm
  rw [List.getElem?_take] at hj
  split at hj
  · rename_i hji
    have := (List.getElem?_inj (List.getElem?_eq_some_iff.mp hj).1 h).mp (hj.trans hk.symm)
    omega
  · cases hj
theorem ok_are_pairs (T : Tx K mg) {deep k : Nat} (hk : 2 ≤ k) (cs : Cal P w K mg base "is_sound" k ["value", "deep"] (spSound (deep + 1))) : Cal P w K mg base "are_pairs" (k + 1) ["value", "deep"] (spPairs deep) := by
  obtain ⟨fd, F⟩ := T.F_are_pairs
  refine ⟨_, fd, F.ok sc_are_pairs (fun vs H Q E h => ?_) (fun cdv A outer s H vs Q E hr h => ?_), T.g_are_pairs, F.kp, F.binds fun _ _ _ _ _ _ us hl => match us, hl with | [_, _], _ => rfl⟩
  · obtain ⟨_, t, us, ps, rfl, _⟩ := h
    rfl
  · obtain ⟨_, t, us, ps, rfl, ht, hps, hlen, hnd, hok, q⟩ := h
    have hr2 : Room 2 _ := hr.mono hk
    have hu1 : ∀ {A : Around}, Room k A → A.units + 1 < cLine := fun r => by have := r.un; omega
    refine ⟨_, pss_cons (ps_if (pt_not (pt_val (pe_callB call_isi (by rfl) T.fr_isinstance (by decide +kernel) (pa_cons (pv 0) (pa_cons (pe_bltn (v := .ty "tuple") (by rfl) T.fr_tuple (by decide +kernel) rfl) pa_nil))))) (pss_one (ps_ret pe_bl)) pss_nil)
      (pss_cons (ps_set (i := 2) sc_are_pairs.nd rfl (.inl rfl) pe_dnewT)
      (pss_cons (ps_for PassesOwn.never rfl (pi_tup (pv 0)) (pg_name (i := 3) sc_are_pairs.nd rfl (.inl rfl))
        (pss_cons (ps_if (PW.pt (pw_or (pt_not (pt_val (pe_callB call_isi (by rfl) T.fr_isinstance (by decide +kernel) (pa_cons (pv 3) (pa_cons (pe_bltn (v := .ty "tuple") (by rfl) T.fr_tuple (by decide +kernel) rfl) pa_nil)))))
            (pw_or (pt_cmpR op_ne (pe_callB call_len_seq (by rfl) T.fr_len PySem.boot_len (pa_cons (pv 3) pa_nil)) pe_int (nomark _))
            (pw_or (pt_not (pt_val (pe_cal (ok_is_data T) hr2 (pa_cons (pe_ix ix_tup (pv 3) pe_int (fun _ _ => rfl)) (pa_cons (pe_gi T.i_LONGEST) pa_nil)))))
            (pw_or1 (pt_cmp (pc_din (hu1 hr) (pe_ix ix_tup (pv 3) pe_int (fun _ _ => rfl)) (pv 2)))))))) (pss_one (ps_ret pe_bl)) pss_nil)
        (pss_cons (ps_dput (hu1 hr) (pv 2) (pe_ix ix_tup (pv 3) pe_int (fun _ _ => rfl)) pe_bl (by rfl))
        (pss_one (ps_if (pt_not (pt_val (pe_cal cs hr (pa_cons (pe_ix ix_tup (pv 3) pe_int (fun _ _ => rfl)) (pa_cons (pe_op op_add (pv 1) pe_int) pa_nil))))) (pss_one (ps_ret pe_bl)) pss_nil)))))
      (pss_one (ps_ret pe_bl)))), ?_⟩
    refine ⟨_, rfl, .ref t, .ty "tuple", _, _, true, rfl, .ty _, .base (.tup ht), kit_ty (by decide +kernel), _, rfl, iteF ?_⟩
    refine fun S nS => ?_
    have sS := same_new (o := .dT []) nS
    have hS : (upd H S (.dT [])) S = some (.dT []) := upd_same
    generalize upd H S (.dT []) = H1 at sS hS
    have hul := hps.len
    refine ⟨_, rfl, t, rfl, ⟨_, SqT.of (sS _ _ ht)⟩, for_tup (K := K) (a := t) (xs := us) (fun i σ H' => ∃ x3 kvs, σ = [some (.ref t), some (.int (deep : Int)), some (.ref S), x3] ∧ Same H H' ∧ H' S = some (.dT kvs) ∧ i ≤ ps.length ∧ kvs.map (·.1) = ((ps.map (·.1)).take i).map (·.map Sum.inl)) ⟨none, [], rfl, sS, hS, Nat.zero_le _, rfl⟩ (fun i σ H' _ ⟨_, _, _, e, _⟩ => SqT.of (e _ _ ht)) ?_ ?_⟩
    · rintro i x σ H' hx ⟨x3, kvs, rfl, sm, hK, hi, hkeys⟩
      obtain ⟨qa, kq, y, ky, v, rfl, hpi, hq, hkq, rep⟩ := (hps.keep (TK.of sm)).get hx
      obtain ⟨okk, okv⟩ := okP_get hok hpi
      have hil := (List.getElem?_eq_some_iff.mp hpi).1
      have hki : (ps.map (·.1))[i]? = some ky := by rw [List.getElem?_map, hpi] <;> rfl
      refine ⟨_, rfl, .ref qa, .ty "tuple", _, _, true, rfl, .ty _, .base (.tup hq), kit_ty (by decide +kernel), _, rfl, iteF ?_⟩
      refine ⟨_, rfl, qa, _, rfl, .inr (SqT.of hq), rfl, _, rfl, iteF ?_⟩
      refine ⟨_, rfl, qa, _, _, _, rfl, rfl, SqT.of hq, rfl, kq, ky, rfl, hkq, okk, fun H2 s2 => ⟨_, rfl, iteF ?_⟩⟩
      have hq2 := s2 _ _ hq
      have hkq2 := s2 _ _ hkq
      have hK2 := s2 _ _ hK
      have key : (ky.map (Sum.inl : Int → L2.Key)).map kV = ky.map V.int := by rw [List.map_map] <;> rfl
      have hkq2' : H2 kq = some (.tup ((ky.map (Sum.inl : Int → L2.Key)).map kV)) := by rw [key]; exact hkq2
      have hno : ky.map (Sum.inl : Int → L2.Key) ∉ kvs.map (·.1) := by
        rw [hkeys]
        intro hm
        obtain ⟨k', hk', e⟩ := List.mem_map.mp hm
        rw [inl_inj e] at hk'
        exact nodup_at hnd hki hk'
      have hkl : kvs.length < sizeLine := by
        have := congrArg List.length hkeys
        rw [List.length_map, List.length_map, List.length_take, List.length_map] at this
        exact line_big (by omega)
      refine ⟨_, rfl, qa, _, _, _, rfl, rfl, SqT.of hq2, rfl, _, rfl, S, _, rfl, DGet.t hK2 hkq2', ?_⟩
      refine ⟨_, rfl, ifF (by rw [valV_no hno]; rfl) ?_⟩
      refine ⟨_, rfl, _, rfl, qa, _, _, _, rfl, rfl, SqT.of hq2, rfl, S, _, rfl, DPut.t hK2 hkq2' hkl, ?_⟩
      have hSn : H S = none := nS
      have tk3 : TK H2 (upd H2 S (.dT (putK kvs (ky.map Sum.inl) (.bl true)))) := fun a xs z => by
        rw [upd_ne (fun e => by rw [e, hK2] at z; cases z)]
        exact z
      have sm3 : Same H (upd H2 S (.dT (putK kvs (ky.map Sum.inl) (.bl true)))) := fun b o e => by
        rw [upd_ne (ne_of_none e hSn)]
        exact s2 _ _ (sm b o e)
      have hK3 : (upd H2 S (.dT (putK kvs (ky.map Sum.inl) (.bl true)))) S = some (.dT (putK kvs (ky.map Sum.inl) (.bl true))) := upd_same
      generalize upd H2 S (.dT (putK kvs (ky.map Sum.inl) (.bl true))) = H3 at tk3 sm3 hK3
      refine ⟨_, rfl, qa, _, _, _, rfl, rfl, SqT.of (tk3 _ _ hq2), rfl, _, rfl, _, _, rfl, rfl, y, v, rfl, Rep.keep tk3 (Rep.keep (TK.of s2) rep), okv, fun H4 s4 => ⟨_, rfl, iteF ?_⟩⟩
      refine ⟨_, _, rfl, sm3.trans s4, s4 _ _ hK3, hil, ?_⟩
      unfold putK
      have hany : (kvs.any fun kv => decide (kv.1 = ky.map Sum.inl)) = false := by
        rw [List.any_eq_false]
        intro x hx
        simp only [decide_eq_true_eq]
        exact fun e => hno (List.mem_map.mpr ⟨x, hx, e⟩)
      rw [if_neg (by rw [hany]; exact Bool.false_ne_true), List.map_append, hkeys, List.take_add_one, hki, List.map_append] <;> rfl
    · rintro σ H' ⟨x3, kvs, rfl, sm, hK, hi, hkeys⟩
      exact q _ sm
end
end K22

set_option maxHeartbeats 4000000
/-! is_sound, is_value (printed by gen_h3.py) -/
namespace K22
open PySem PySem.Spec PyProof.Rows L2
section
variable {P : Program} {w : World} {K : PySem.W.Frag} {mg : Str → Option Value} {base : Heap}
def spSoundN (deep : Nat) : Sp := fun vs H Q E => deep < 16 ∧ spSound (deep + 1) vs H Q E
theorem sc_is_sound : FnScope ["value", "deep", "kind", "one"] ["value", "deep"] (defScope s_is_sound) := ⟨rfl, rfl, rfl, by decide +kernel, rfl, by decide +kernel, by decide +kernel⟩
theorem ok_is_sound (T : Tx K mg) {deep k : Nat} (hk : 2 ≤ k) (cs : Cal P w K mg base "is_sound" k ["value", "deep"] (spSoundN deep)) (cp : Cal P w K mg base "are_pairs" k ["value", "deep"] (spPairs deep)) : Cal P w K mg base "is_sound" (k + 1) ["value", "deep"] (spSound deep) := by
  obtain ⟨fd, F⟩ := T.F_is_sound
  refine ⟨_, fd, F.ok sc_is_sound (fun vs H Q E h => ?_) (fun cdv A outer s H vs Q E hr h => ?_), T.g_is_sound, F.kp, F.binds fun _ _ _ _ _ _ us hl => match us, hl with | [_, _], _ => rfl⟩
  · obtain ⟨u, v, rfl, _⟩ := h
    rfl
  · obtain ⟨u, v, rfl, hrep, hok, q⟩ := h
    have hr1 : Room 1 _ := hr.mono (by omega)
    have hr2 : Room 2 _ := hr.mono hk
    refine ⟨_, pss_cons (ps_if (PW.pt (pw_or (pt_not (pt_val (pe_callB call_isi (by rfl) T.fr_isinstance (by decide +kernel) (pa_cons (pv 0) (pa_cons (pe_bltn (v := .ty "tuple") (by rfl) T.fr_tuple (by decide +kernel) rfl) pa_nil))))) (pw_or (pt_cmpR op_eq (pe_callB call_len_seq (by rfl) T.fr_len PySem.boot_len (pa_cons (pv 0) pa_nil)) pe_int (nomark _)) (pw_or1 (pt_not (pt_val (pe_callB call_isi (by rfl) T.fr_isinstance (by decide +kernel) (pa_cons (pe_ix ix_tup (pv 0) pe_int (fun _ _ => rfl)) (pa_cons (pe_bltn (v := .ty "str") (by rfl) T.fr_str (by decide +kernel) rfl) pa_nil))))))))) (pss_one (ps_ret pe_bl)) pss_nil)
      (pss_cons (ps_set (i := 2) sc_is_sound.nd rfl (.inl rfl) (pe_ix ix_tup (pv 0) pe_int (fun _ _ => rfl)))
      (pss_cons (ps_if (pt_cmpR op_eq (pv 2) pe_str (nomark _)) (pss_one (ps_ret (pe_cmpR op_eq (pe_callB call_len_seq (by rfl) T.fr_len PySem.boot_len (pa_cons (pv 0) pa_nil)) pe_int (nomark _)))) pss_nil)
      (pss_cons (ps_if (pt_cmpR op_eq (pv 2) pe_str (nomark _)) (pss_cons (ps_if (PW.pt (pw_or (pt_cmpR op_ne (pe_callB call_len_seq (by rfl) T.fr_len PySem.boot_len (pa_cons (pv 0) pa_nil)) pe_int (nomark _)) (pw_or1 (pt_cmpR op_ge (pv 1) (pe_gi T.i_MOST_DEEP) (nomark _))))) (pss_one (ps_ret pe_bl)) pss_nil)
          (pss_one (ps_ret (pe_and (pe_cal (ok_is_data T) hr2 (pa_cons (pe_ix ix_tup (pv 0) pe_int (fun _ _ => rfl)) (pa_cons (pe_gi T.i_LONGEST) pa_nil))) (pe_one (pe_cal cp hr (pa_cons (pe_ix ix_tup (pv 0) pe_int (fun _ _ => rfl)) (pa_cons (pv 1) pa_nil)))))))) pss_nil)
      (pss_cons (ps_if (pt_cmpR op_ne (pe_callB call_len_seq (by rfl) T.fr_len PySem.boot_len (pa_cons (pv 0) pa_nil)) pe_int (nomark _)) (pss_one (ps_ret pe_bl)) pss_nil)
      (pss_cons (ps_if (pt_cmpR op_eq (pv 2) pe_str (nomark _)) (pss_one (ps_ret (pe_cal (ok_is_integer T) hr1 (pa_cons (pe_ix ix_tup (pv 0) pe_int (fun _ _ => rfl)) (pa_cons pe_int (pa_cons pe_int pa_nil)))))) pss_nil)
      (pss_cons (ps_if (pt_cmpR op_eq (pv 2) pe_str (nomark _)) (pss_one (ps_ret (pe_cal (ok_is_integer T) hr1 (pa_cons (pe_ix ix_tup (pv 0) pe_int (fun _ _ => rfl)) (pa_cons (pe_un un_neg (pe_gi T.i_GREATEST)) (pa_cons (pe_gi T.i_GREATEST) pa_nil)))))) pss_nil)
      (pss_cons (ps_if (pt_cmpR op_eq (pv 2) pe_str (nomark _)) (pss_one (ps_ret (pe_cal (ok_is_integer T) hr1 (pa_cons (pe_ix ix_tup (pv 0) pe_int (fun _ _ => rfl)) (pa_cons pe_int (pa_cons (pe_gi T.i_MOST_NUMBER) pa_nil)))))) pss_nil)
      (pss_cons (ps_if (pt_cmpR op_in_seq (pv 2) (pe_tup (pa_cons pe_str (pa_cons pe_str pa_nil))) rfl) (pss_one (ps_ret (pe_cal (ok_is_data T) hr2 (pa_cons (pe_ix ix_tup (pv 0) pe_int (fun _ _ => rfl)) (pa_cons (pe_gi T.i_LONGEST) pa_nil))))) pss_nil)
      (pss_cons (ps_if (pt_cmpR op_ge (pv 1) (pe_gi T.i_MOST_DEEP) (nomark _)) (pss_one (ps_ret pe_bl)) pss_nil)
      (pss_cons (ps_if (pt_cmpR op_eq (pv 2) pe_str (nomark _)) (pss_one (ps_ret (pe_and (pe_callB call_isi (by rfl) T.fr_isinstance (by decide +kernel) (pa_cons (pe_ix ix_tup (pv 0) pe_int (fun _ _ => rfl)) (pa_cons (pe_bltn (v := .ty "tuple") (by rfl) T.fr_tuple (by decide +kernel) rfl) pa_nil))) (pe_one (pe_callB (cr_all rfl) (by rfl) T.fr_all (by decide +kernel) (pa_cons (pe_lc (own := [("one", 3)]) (g := gName 3) (tt := tYes) rfl sc_is_sound.nd (pi_tup (pe_ix ix_tup (pv 0) pe_int (fun _ _ => rfl)))
            (blkOk_by (own := [("one", 3)]) (N := ["value", "deep", "kind", "one"]) (sc := defScope s_is_sound) (by decide +kernel))
            (fun _ _ _ _ _ => pg_name (i := 3) sc_is_sound.nd rfl (Or.inl rfl)) (fun _ _ _ _ _ => pts_nil) (fun _ _ _ _ _ => pe_cal cs hr (pa_cons (pv 3) (pa_cons (pe_op op_add (pv 1) pe_int) pa_nil)))) pa_nil)))))) pss_nil)
      (pss_one (ps_ret (pe_and (pe_cmpR op_eq (pv 2) pe_str (nomark _)) (pe_one (pe_cal cp hr (pa_cons (pe_ix ix_tup (pv 0) pe_int (fun _ _ => rfl)) (pa_cons (pv 1) pa_nil))))))))))))))))), ?_⟩
    cases hrep with
    | none ha =>
      rename_i a
      refine ⟨_, rfl, .ref a, .ty "tuple", _, _, true, rfl, .ty _, .base (.tup ha), kit_ty (by decide +kernel), _, rfl, iteF ?_⟩
      refine ⟨_, rfl, a, _, rfl, .inr (SqT.of ha), rfl, _, rfl, iteF ?_⟩
      refine ⟨_, rfl, a, _, _, _, rfl, rfl, SqT.of ha, atI_nat (j := 0) rfl, .str "none", .ty "str", _, _, true, rfl, .ty _, .base (.str _), kit_ty (by decide +kernel), _, rfl, iteF ?_⟩
      refine ⟨_, rfl, a, _, _, _, rfl, rfl, SqT.of ha, atI_nat (j := 0) rfl, ?_⟩
      refine ⟨_, rfl, rfl, _, rfl, ifT (by decide +kernel) ?_⟩
      exact ⟨_, rfl, a, _, rfl, .inr (SqT.of ha), rfl, q _ (Same.refl _)⟩
    | bool ha =>
      rename_i a b
      refine ⟨_, rfl, .ref a, .ty "tuple", _, _, true, rfl, .ty _, .base (.tup ha), kit_ty (by decide +kernel), _, rfl, iteF ?_⟩
      refine ⟨_, rfl, a, _, rfl, .inr (SqT.of ha), rfl, _, rfl, iteF ?_⟩
      refine ⟨_, rfl, a, _, _, _, rfl, rfl, SqT.of ha, atI_nat (j := 0) rfl, .str "bool", .ty "str", _, _, true, rfl, .ty _, .base (.str _), kit_ty (by decide +kernel), _, rfl, iteF ?_⟩
      refine ⟨_, rfl, a, _, _, _, rfl, rfl, SqT.of ha, atI_nat (j := 0) rfl, ?_⟩
      refine ⟨_, rfl, rfl, _, rfl, ifF (by decide +kernel) ?_⟩
      refine ⟨_, rfl, rfl, _, rfl, ifF (by decide +kernel) ?_⟩
      refine ⟨_, rfl, a, _, rfl, .inr (SqT.of ha), rfl, _, rfl, iteF ?_⟩
      refine ⟨_, rfl, rfl, _, rfl, ifT (by decide +kernel) ?_⟩
      refine ⟨_, rfl, a, _, _, _, rfl, rfl, SqT.of ha, atI_nat (j := 1) rfl, _, 0, 1, rfl, ?_, ?_, q _ (Same.refl _)⟩
      · cases b <;> decide
      · cases b <;> decide
    | int ha =>
      rename_i a n
      have hb : -2147483647 ≤ n ∧ n ≤ 2147483647 := hok
      refine ⟨_, rfl, .ref a, .ty "tuple", _, _, true, rfl, .ty _, .base (.tup ha), kit_ty (by decide +kernel), _, rfl, iteF ?_⟩
      refine ⟨_, rfl, a, _, rfl, .inr (SqT.of ha), rfl, _, rfl, iteF ?_⟩
      refine ⟨_, rfl, a, _, _, _, rfl, rfl, SqT.of ha, atI_nat (j := 0) rfl, .str "int", .ty "str", _, _, true, rfl, .ty _, .base (.str _), kit_ty (by decide +kernel), _, rfl, iteF ?_⟩
      refine ⟨_, rfl, a, _, _, _, rfl, rfl, SqT.of ha, atI_nat (j := 0) rfl, ?_⟩
      refine ⟨_, rfl, rfl, _, rfl, ifF (by decide +kernel) ?_⟩
      refine ⟨_, rfl, rfl, _, rfl, ifF (by decide +kernel) ?_⟩
      refine ⟨_, rfl, a, _, rfl, .inr (SqT.of ha), rfl, _, rfl, iteF ?_⟩
      refine ⟨_, rfl, rfl, _, rfl, ifF (by decide +kernel) ?_⟩
      refine ⟨_, rfl, rfl, _, rfl, ifT (by decide +kernel) ?_⟩
      exact ⟨_, rfl, a, _, _, _, rfl, rfl, SqT.of ha, atI_nat (j := 1) rfl, _, rfl, _, _, _, rfl, hb.1, hb.2, q _ (Same.refl _)⟩
    | ref ha =>
      rename_i a n
      have hb : 1 ≤ n ∧ n ≤ 9999 := hok
      refine ⟨_, rfl, .ref a, .ty "tuple", _, _, true, rfl, .ty _, .base (.tup ha), kit_ty (by decide +kernel), _, rfl, iteF ?_⟩
      refine ⟨_, rfl, a, _, rfl, .inr (SqT.of ha), rfl, _, rfl, iteF ?_⟩
      refine ⟨_, rfl, a, _, _, _, rfl, rfl, SqT.of ha, atI_nat (j := 0) rfl, .str "ref", .ty "str", _, _, true, rfl, .ty _, .base (.str _), kit_ty (by decide +kernel), _, rfl, iteF ?_⟩
      refine ⟨_, rfl, a, _, _, _, rfl, rfl, SqT.of ha, atI_nat (j := 0) rfl, ?_⟩
      refine ⟨_, rfl, rfl, _, rfl, ifF (by decide +kernel) ?_⟩
      refine ⟨_, rfl, rfl, _, rfl, ifF (by decide +kernel) ?_⟩
      refine ⟨_, rfl, a, _, rfl, .inr (SqT.of ha), rfl, _, rfl, iteF ?_⟩
      refine ⟨_, rfl, rfl, _, rfl, ifF (by decide +kernel) ?_⟩
      refine ⟨_, rfl, rfl, _, rfl, ifF (by decide +kernel) ?_⟩
      refine ⟨_, rfl, rfl, _, rfl, ifT (by decide +kernel) ?_⟩
      exact ⟨_, rfl, a, _, _, _, rfl, rfl, SqT.of ha, atI_nat (j := 1) rfl, _, _, _, rfl, hb.1, hb.2, q _ (Same.refl _)⟩
    | name ha ht =>
      rename_i a t d
      have hb : okD d := hok
      refine ⟨_, rfl, .ref a, .ty "tuple", _, _, true, rfl, .ty _, .base (.tup ha), kit_ty (by decide +kernel), _, rfl, iteF ?_⟩
      refine ⟨_, rfl, a, _, rfl, .inr (SqT.of ha), rfl, _, rfl, iteF ?_⟩
      refine ⟨_, rfl, a, _, _, _, rfl, rfl, SqT.of ha, atI_nat (j := 0) rfl, .str "name", .ty "str", _, _, true, rfl, .ty _, .base (.str _), kit_ty (by decide +kernel), _, rfl, iteF ?_⟩
      refine ⟨_, rfl, a, _, _, _, rfl, rfl, SqT.of ha, atI_nat (j := 0) rfl, ?_⟩
      refine ⟨_, rfl, rfl, _, rfl, ifF (by decide +kernel) ?_⟩
      refine ⟨_, rfl, rfl, _, rfl, ifF (by decide +kernel) ?_⟩
      refine ⟨_, rfl, a, _, rfl, .inr (SqT.of ha), rfl, _, rfl, iteF ?_⟩
      refine ⟨_, rfl, rfl, _, rfl, ifF (by decide +kernel) ?_⟩
      refine ⟨_, rfl, rfl, _, rfl, ifF (by decide +kernel) ?_⟩
      refine ⟨_, rfl, rfl, _, rfl, ifF (by decide +kernel) ?_⟩
      refine ⟨_, rfl, by show 2 ≤ sizeLine; decide, fun y ny => ?_⟩
      have sY := same_new (o := .tup [V.str "name", V.str "text"]) ny
      have hY : SqT K (upd H y (.tup [V.str "name", V.str "text"])) y [V.str "name", V.str "text"] := SqT.of upd_same
      generalize upd H y (.tup [V.str "name", V.str "text"]) = H1 at sY hY
      refine ⟨_, _, rfl, .inr hY, rfl, by decide +kernel, _, rfl, ifT (by decide +kernel) ?_⟩
      exact ⟨_, rfl, a, _, _, _, rfl, rfl, SqT.of (sY _ _ ha), atI_nat (j := 1) rfl, t, d, rfl, sY _ _ ht, hb, fun H2 s2 => q _ (sY.trans s2)⟩
    | text ha ht =>
      rename_i a t d
      have hb : okD d := hok
      refine ⟨_, rfl, .ref a, .ty "tuple", _, _, true, rfl, .ty _, .base (.tup ha), kit_ty (by decide +kernel), _, rfl, iteF ?_⟩
      refine ⟨_, rfl, a, _, rfl, .inr (SqT.of ha), rfl, _, rfl, iteF ?_⟩
      refine ⟨_, rfl, a, _, _, _, rfl, rfl, SqT.of ha, atI_nat (j := 0) rfl, .str "text", .ty "str", _, _, true, rfl, .ty _, .base (.str _), kit_ty (by decide +kernel), _, rfl, iteF ?_⟩
      refine ⟨_, rfl, a, _, _, _, rfl, rfl, SqT.of ha, atI_nat (j := 0) rfl, ?_⟩
      refine ⟨_, rfl, rfl, _, rfl, ifF (by decide +kernel) ?_⟩
      refine ⟨_, rfl, rfl, _, rfl, ifF (by decide +kernel) ?_⟩
      refine ⟨_, rfl, a, _, rfl, .inr (SqT.of ha), rfl, _, rfl, iteF ?_⟩
      refine ⟨_, rfl, rfl, _, rfl, ifF (by decide +kernel) ?_⟩
      refine ⟨_, rfl, rfl, _, rfl, ifF (by decide +kernel) ?_⟩
      refine ⟨_, rfl, rfl, _, rfl, ifF (by decide +kernel) ?_⟩
      refine ⟨_, rfl, by show 2 ≤ sizeLine; decide, fun y ny => ?_⟩
      have sY := same_new (o := .tup [V.str "name", V.str "text"]) ny
      have hY : SqT K (upd H y (.tup [V.str "name", V.str "text"])) y [V.str "name", V.str "text"] := SqT.of upd_same
      generalize upd H y (.tup [V.str "name", V.str "text"]) = H1 at sY hY
      refine ⟨_, _, rfl, .inr hY, rfl, by decide +kernel, _, rfl, ifT (by decide +kernel) ?_⟩
      exact ⟨_, rfl, a, _, _, _, rfl, rfl, SqT.of (sY _ _ ha), atI_nat (j := 1) rfl, t, d, rfl, sY _ _ ht, hb, fun H2 s2 => q _ (sY.trans s2)⟩
    | list ha ht hl =>
      rename_i a t us vs
      have hb : deep < 16 ∧ vs.length ≤ 100000 ∧ okL (deep + 1) vs := hok
      refine ⟨_, rfl, .ref a, .ty "tuple", _, _, true, rfl, .ty _, .base (.tup ha), kit_ty (by decide +kernel), _, rfl, iteF ?_⟩
      refine ⟨_, rfl, a, _, rfl, .inr (SqT.of ha), rfl, _, rfl, iteF ?_⟩
      refine ⟨_, rfl, a, _, _, _, rfl, rfl, SqT.of ha, atI_nat (j := 0) rfl, .str "list", .ty "str", _, _, true, rfl, .ty _, .base (.str _), kit_ty (by decide +kernel), _, rfl, iteF ?_⟩
      refine ⟨_, rfl, a, _, _, _, rfl, rfl, SqT.of ha, atI_nat (j := 0) rfl, ?_⟩
      refine ⟨_, rfl, rfl, _, rfl, ifF (by decide +kernel) ?_⟩
      refine ⟨_, rfl, rfl, _, rfl, ifF (by decide +kernel) ?_⟩
      refine ⟨_, rfl, a, _, rfl, .inr (SqT.of ha), rfl, _, rfl, iteF ?_⟩
      refine ⟨_, rfl, rfl, _, rfl, ifF (by decide +kernel) ?_⟩
      refine ⟨_, rfl, rfl, _, rfl, ifF (by decide +kernel) ?_⟩
      refine ⟨_, rfl, rfl, _, rfl, ifF (by decide +kernel) ?_⟩
      refine ⟨_, rfl, by show 2 ≤ sizeLine; decide, fun y ny => ?_⟩
      have sY := same_new (o := .tup [V.str "name", V.str "text"]) ny
      have hY : SqT K (upd H y (.tup [V.str "name", V.str "text"])) y [V.str "name", V.str "text"] := SqT.of upd_same
      generalize upd H y (.tup [V.str "name", V.str "text"]) = H1 at sY hY
      refine ⟨_, _, rfl, .inr hY, rfl, by decide +kernel, _, rfl, ifF (by decide +kernel) ?_⟩
      refine ⟨_, rfl, _, _, rfl, rfl, _, rfl, ifB_f (show ¬ ((deep : Int) ≥ 16) by omega) ?_⟩
      refine ⟨_, rfl, rfl, _, rfl, ifT (by decide +kernel) ?_⟩
      refine ⟨_, rfl, a, _, _, _, rfl, rfl, SqT.of (sY _ _ ha), atI_nat (j := 1) rfl, .ref t, .ty "tuple", _, _, true, rfl, .ty _, .base (.tup (sY _ _ ht)), kit_ty (by decide +kernel), _, rfl, iteT ?_⟩
      refine ⟨_, rfl, a, _, _, _, rfl, rfl, SqT.of (sY _ _ ha), atI_nat (j := 1) rfl, t, rfl, ⟨_, SqT.of (sY _ _ ht)⟩, fun D nD => ?_⟩
      have hul := hl.len
      refine lc_tup (K := K) (a := t) (xs := us) (fun j H3 => Same H1 H3 ∧ j ≤ us.length ∧ H3 D = some (.lst ((List.replicate j true).map V.bl))) ⟨same_new nD, Nat.zero_le _, upd_same⟩ (fun j H3 _ ⟨s3, _⟩ => SqT.of (s3 _ _ (sY _ _ ht))) ?_ ?_
      · rintro j x H3 hx ⟨s3, hj, e3⟩
        obtain ⟨v, hv, rep⟩ := (hl.keep (TK.of (sY.trans s3))).get hx
        have hjl := (List.getElem?_eq_some_iff.mp hx).1
        refine ⟨rfl, _, rfl, _, rfl, _, _, rfl, rfl, by omega, x, v, rfl, rep, okL_get hb.2.2 hv, fun H4 s4 => ⟨_, s4 _ _ e3, ?_, ?_, by omega, ?_⟩⟩
        · rw [List.length_map, List.length_replicate]
          exact line_big (by omega)
        · intro c o e
          rw [upd_ne (ne_of_none e nD)]
          exact s4 _ _ (s3 c o e)
        · rw [upd_same, rep_snoc]
      · rintro H3 ⟨s3, _, e3⟩
        refine ⟨D, List.replicate _ true, rfl, SqL.of e3, ?_⟩
        rw [all_rep]
        exact q _ (sY.trans s3)
    | dict ha ht hp =>
      rename_i a t us ps
      have hb : deep < 16 ∧ ps.length ≤ 100000 ∧ (ps.map (·.1)).Nodup ∧ okP (deep + 1) ps := hok
      refine ⟨_, rfl, .ref a, .ty "tuple", _, _, true, rfl, .ty _, .base (.tup ha), kit_ty (by decide +kernel), _, rfl, iteF ?_⟩
      refine ⟨_, rfl, a, _, rfl, .inr (SqT.of ha), rfl, _, rfl, iteF ?_⟩
      refine ⟨_, rfl, a, _, _, _, rfl, rfl, SqT.of ha, atI_nat (j := 0) rfl, .str "dict", .ty "str", _, _, true, rfl, .ty _, .base (.str _), kit_ty (by decide +kernel), _, rfl, iteF ?_⟩
      refine ⟨_, rfl, a, _, _, _, rfl, rfl, SqT.of ha, atI_nat (j := 0) rfl, ?_⟩
      refine ⟨_, rfl, rfl, _, rfl, ifF (by decide +kernel) ?_⟩
      refine ⟨_, rfl, rfl, _, rfl, ifF (by decide +kernel) ?_⟩
      refine ⟨_, rfl, a, _, rfl, .inr (SqT.of ha), rfl, _, rfl, iteF ?_⟩
      refine ⟨_, rfl, rfl, _, rfl, ifF (by decide +kernel) ?_⟩
      refine ⟨_, rfl, rfl, _, rfl, ifF (by decide +kernel) ?_⟩
      refine ⟨_, rfl, rfl, _, rfl, ifF (by decide +kernel) ?_⟩
      refine ⟨_, rfl, by show 2 ≤ sizeLine; decide, fun y ny => ?_⟩
      have sY := same_new (o := .tup [V.str "name", V.str "text"]) ny
      have hY : SqT K (upd H y (.tup [V.str "name", V.str "text"])) y [V.str "name", V.str "text"] := SqT.of upd_same
      generalize upd H y (.tup [V.str "name", V.str "text"]) = H1 at sY hY
      refine ⟨_, _, rfl, .inr hY, rfl, by decide +kernel, _, rfl, ifF (by decide +kernel) ?_⟩
      refine ⟨_, rfl, _, _, rfl, rfl, _, rfl, ifB_f (show ¬ ((deep : Int) ≥ 16) by omega) ?_⟩
      refine ⟨_, rfl, rfl, _, rfl, ifF (by decide +kernel) ?_⟩
      refine ⟨_, rfl, rfl, _, rfl, ifT (by decide +kernel) ?_⟩
      exact ⟨_, rfl, a, _, _, _, rfl, rfl, SqT.of (sY _ _ ha), atI_nat (j := 1) rfl, _, rfl, hb.1, t, us, ps, rfl, sY _ _ ht, hp.keep (TK.of sY), hb.2.1, hb.2.2.1, hb.2.2.2, fun H2 s2 => q _ (sY.trans s2)⟩
    | stream ha ht hp he =>
      rename_i a t e us ps d
      have hb : deep < 16 ∧ ps.length ≤ 100000 ∧ (ps.map (·.1)).Nodup ∧ okP (deep + 1) ps ∧ okD d := hok
      refine ⟨_, rfl, .ref a, .ty "tuple", _, _, true, rfl, .ty _, .base (.tup ha), kit_ty (by decide +kernel), _, rfl, iteF ?_⟩
      refine ⟨_, rfl, a, _, rfl, .inr (SqT.of ha), rfl, _, rfl, iteF ?_⟩
      refine ⟨_, rfl, a, _, _, _, rfl, rfl, SqT.of ha, atI_nat (j := 0) rfl, .str "stream", .ty "str", _, _, true, rfl, .ty _, .base (.str _), kit_ty (by decide +kernel), _, rfl, iteF ?_⟩
      refine ⟨_, rfl, a, _, _, _, rfl, rfl, SqT.of ha, atI_nat (j := 0) rfl, ?_⟩
      refine ⟨_, rfl, rfl, _, rfl, ifF (by decide +kernel) ?_⟩
      refine ⟨_, rfl, rfl, _, rfl, ifT (by decide +kernel) ?_⟩
      refine ⟨_, rfl, a, _, rfl, .inr (SqT.of ha), rfl, _, rfl, iteF ?_⟩
      refine ⟨_, rfl, _, _, rfl, rfl, _, rfl, ifB_f (show ¬ ((deep : Int) ≥ 16) by omega) ?_⟩
      refine ⟨_, rfl, a, _, _, _, rfl, rfl, SqT.of ha, atI_nat (j := 2) rfl, e, d, rfl, he, hb.2.2.2.2, fun H2 s2 => ⟨_, rfl, iteT ?_⟩⟩
      exact ⟨_, rfl, a, _, _, _, rfl, rfl, SqT.of (s2 _ _ ha), atI_nat (j := 1) rfl, _, rfl, hb.1, t, us, ps, rfl, s2 _ _ ht, hp.keep (TK.of s2), hb.2.1, hb.2.2.1, hb.2.2.2.1, fun H3 s3 => q _ (s2.trans s3)⟩
end
end K22

set_option maxHeartbeats 4000000
/-! is_value, is_book -/
namespace K22
open PySem PySem.Spec PyProof.Rows L2
/-- a sound book -/
structure OkB (sobs : List (Int × Val)) (root : Int) : Prop where
  ne : sobs ≠ []
  few : sobs.length ≤ 100000
  inc : (sobs.map (·.1)).Pairwise (· < ·)
  num : ∀ o ∈ sobs, 1 ≤ o.1 ∧ o.1 ≤ 9999
  val : ∀ o ∈ sobs, okV 0 o.2
  rt : (0 < root ∧ root ≤ 9999 ∧ lookI root sobs ≠ none) ∨ (root = 0 ∧ firstP sobs = 0)
section
variable {P : Program} {w : World} {K : PySem.W.Frag} {mg : Str → Option Value} {base : Heap}
theorem no_sound (T : Tx K mg) {k : Nat} : Cal P w K mg base "is_sound" (k + 1) ["value", "deep"] (spSoundN 16) := by
  obtain ⟨fd, F⟩ := T.F_is_sound
  refine ⟨_, fd, F.ok (k := k) sc_is_sound (fun vs H Q E h => ?_) (fun cdv A outer s H vs Q E hr h => ?_), T.g_is_sound, F.kp, F.binds fun _ _ _ _ _ _ us hl => match us, hl with | [_, _], _ => rfl⟩
  · exact absurd h.1 (by decide)
  · exact absurd h.1 (by decide)
theorem no_pairs (T : Tx K mg) {k : Nat} : Cal P w K mg base "are_pairs" (k + 1) ["value", "deep"] (spPairs 16) := by
  obtain ⟨fd, F⟩ := T.F_are_pairs
  refine ⟨_, fd, F.ok (k := k) sc_are_pairs (fun vs H Q E h => ?_) (fun cdv A outer s H vs Q E hr h => ?_), T.g_are_pairs, F.kp, F.binds fun _ _ _ _ _ _ us hl => match us, hl with | [_, _], _ => rfl⟩
  · exact absurd h.1 (by decide)
  · exact absurd h.1 (by decide)
theorem ok_sounds (T : Tx K mg) : ∀ j, j ≤ 16 → Cal P w K mg base "is_sound" (3 + 2 * j) ["value", "deep"] (spSound (16 - j))
  | 0, _ => ok_is_sound T (k := 2) (by decide) (no_sound T (k := 1)) (no_pairs T (k := 1))
  | j + 1, h => by
    have ih := ok_sounds T j (by omega)
    have e : 16 - j = 16 - (j + 1) + 1 := by omega
    rw [e] at ih
    have e2 : 3 + 2 * (j + 1) = 3 + 2 * j + 1 + 1 := by omega
    rw [e2]
    exact ok_is_sound T (by omega) ((ih.mono (by omega)).imp fun vs H Q E h => h.2) (ok_are_pairs T (by omega) ih)
theorem ok_sound0 (T : Tx K mg) : Cal P w K mg base "is_sound" 35 ["value", "deep"] (spSound 0) := ok_sounds T 16 (by decide)
def spIsValue : Sp := fun vs H Q _ => ∃ (u : V) (v : Val), vs = [u] ∧ Rep H u v ∧ okV 0 v ∧ ∀ H', Same H H' → Q (.bl true) H'
theorem sc_is_value : FnScope ["value"] ["value"] (defScope s_is_value) := ⟨rfl, rfl, rfl, by decide +kernel, rfl, by decide +kernel, by decide +kernel⟩
theorem ok_is_value (T : Tx K mg) : Cal P w K mg base "is_value" 36 ["value"] spIsValue := by
  obtain ⟨fd, F⟩ := T.F_is_value
  refine ⟨_, fd, F.ok sc_is_value (fun vs H Q E h => ?_) (fun cdv A outer s H vs Q E hr h => ?_), T.g_is_value, F.kp, F.binds fun _ _ _ _ _ _ us hl => match us, hl with | [_], _ => rfl⟩
  · obtain ⟨u, v, rfl, _⟩ := h
    rfl
  · obtain ⟨u, v, rfl, rep, ok, q⟩ := h
    exact ⟨_, pss_one (ps_ret (pe_cal (ok_sound0 T) hr (pa_cons (pv 0) (pa_cons pe_int pa_nil)))), _, rfl, u, v, rfl, rep, ok, q⟩
def spIsBook : Sp := fun vs H Q _ => ∃ (b a : Addr) (us : List V) (sobs : List (Int × Val)) (root : Int), vs = [.ref b] ∧ H b = some (.tup [.ref a, .int root]) ∧ H a = some (.tup us) ∧ RepB H us sobs ∧ OkB sobs root ∧ ∀ H', Same H H' → Q (.bl true) H'
theorem sc_is_book : FnScope ["book", "last", "one"] ["book"] (defScope s_is_book) := ⟨rfl, rfl, rfl, by decide +kernel, rfl, by decide +kernel, by decide +kernel⟩
theorem ok_is_book (T : Tx K mg) : Cal P w K mg base "is_book" 37 ["book"] spIsBook := by
  obtain ⟨fd, F⟩ := T.F_is_book
  refine ⟨_, fd, F.ok sc_is_book (fun vs H Q E h => ?_) (fun cdv A outer s H vs Q E hr h => ?_), T.g_is_book, F.kp, F.binds fun _ _ _ _ _ _ us hl => match us, hl with | [_], _ => rfl⟩
  · obtain ⟨b, a, us, sobs, root, rfl, _⟩ := h
    rfl
  · obtain ⟨b, a, us, sobs, root, rfl, hb, ha, hB, ok, q⟩ := h
    have hr1 : Room 1 _ := hr.mono (by decide)
    have hr2 : Room 2 _ := hr.mono (by decide)
    refine ⟨_, pss_cons (ps_if (PW.pt (pw_or (pt_not (pt_val (pe_callB call_isi (by rfl) T.fr_isinstance (by decide +kernel) (pa_cons (pv 0) (pa_cons (pe_bltn (v := .ty "tuple") (by rfl) T.fr_tuple (by decide +kernel) rfl) pa_nil)))))
          (pw_or (pt_cmpR op_ne (pe_callB call_len_seq (by rfl) T.fr_len PySem.boot_len (pa_cons (pv 0) pa_nil)) pe_int (nomark _))
          (pw_or (pt_not (pt_val (pe_callB call_isi (by rfl) T.fr_isinstance (by decide +kernel) (pa_cons (pe_ix ix_tup (pv 0) pe_int (fun _ _ => rfl)) (pa_cons (pe_bltn (v := .ty "tuple") (by rfl) T.fr_tuple (by decide +kernel) rfl) pa_nil)))))
          (pw_or1 (pt_cmpR op_eq (pe_callB call_len_seq (by rfl) T.fr_len PySem.boot_len (pa_cons (pe_ix ix_tup (pv 0) pe_int (fun _ _ => rfl)) pa_nil)) pe_int (nomark _))))))) (pss_one (ps_ret pe_bl)) pss_nil)
      (pss_cons (ps_set (i := 1) sc_is_book.nd rfl (.inl rfl) pe_int)
      (pss_cons (ps_for PassesOwn.never rfl (pi_tup (pe_ix ix_tup (pv 0) pe_int (fun _ _ => rfl))) (pg_name (i := 2) sc_is_book.nd rfl (.inl rfl))
        (pss_cons (ps_if (PW.pt (pw_or (pt_not (pt_val (pe_callB call_isi (by rfl) T.fr_isinstance (by decide +kernel) (pa_cons (pv 2) (pa_cons (pe_bltn (v := .ty "tuple") (by rfl) T.fr_tuple (by decide +kernel) rfl) pa_nil)))))
            (pw_or (pt_cmpR op_ne (pe_callB call_len_seq (by rfl) T.fr_len PySem.boot_len (pa_cons (pv 2) pa_nil)) pe_int (nomark _))
            (pw_or1 (pt_not (pt_val (pe_cal (ok_is_integer T) hr1 (pa_cons (pe_ix ix_tup (pv 2) pe_int (fun _ _ => rfl)) (pa_cons (pe_op op_add (pv 1) pe_int) (pa_cons (pe_gi T.i_MOST_NUMBER) pa_nil)))))))))) (pss_one (ps_ret pe_bl)) pss_nil)
        (pss_cons (ps_if (pt_not (pt_val (pe_cal (ok_is_value T) hr (pa_cons (pe_ix ix_tup (pv 2) pe_int (fun _ _ => rfl)) pa_nil)))) (pss_one (ps_ret pe_bl)) pss_nil)
        (pss_one (ps_set (i := 1) sc_is_book.nd rfl (.inl rfl) (pe_ix ix_tup (pv 2) pe_int (fun _ _ => rfl)))))))
      (pss_cons (ps_if (pt_not (pt_val (pe_cal (ok_is_integer T) hr1 (pa_cons (pe_ix ix_tup (pv 0) pe_int (fun _ _ => rfl)) (pa_cons pe_int (pa_cons (pe_gi T.i_MOST_NUMBER) pa_nil)))))) (pss_one (ps_ret pe_bl)) pss_nil)
      (pss_cons (ps_if (pt_cmpR op_gt (pe_ix ix_tup (pv 0) pe_int (fun _ _ => rfl)) pe_int (nomark _)) (pss_one (ps_ret (pe_cmpR op_notN (pe_cal (ok_find T) hr1 (pa_cons (pv 0) (pa_cons (pe_ix ix_tup (pv 0) pe_int (fun _ _ => rfl)) pa_nil))) pe_non (nomark _)))) pss_nil)
      (pss_one (ps_ret (pe_cmpR op_eq (pe_cal (ok_first_pages T) hr2 (pa_cons (pe_ix ix_tup (pv 0) pe_int (fun _ _ => rfl)) pa_nil)) pe_int (nomark _)))))))), ?_⟩
    have hul := hB.len
    have hpos : 0 < us.length := by
      rw [hul]
      exact List.length_pos_iff.mpr ok.ne
    refine ⟨_, rfl, .ref b, .ty "tuple", _, _, true, rfl, .ty _, .base (.tup hb), kit_ty (by decide +kernel), _, rfl, iteF ?_⟩
    refine ⟨_, rfl, b, _, rfl, .inr (SqT.of hb), rfl, _, rfl, iteF ?_⟩
    refine ⟨_, rfl, b, _, _, _, rfl, rfl, SqT.of hb, rfl, .ref a, .ty "tuple", _, _, true, rfl, .ty _, .base (.tup ha), kit_ty (by decide +kernel), _, rfl, iteF ?_⟩
    refine ⟨_, rfl, b, _, _, _, rfl, rfl, SqT.of hb, rfl, a, _, rfl, .inr (SqT.of ha), rfl, _, rfl, ifI_f (i := ((us.length : Nat) : Int)) (j := 0) (by omega) ?_⟩
    refine ⟨_, rfl, b, _, _, _, rfl, rfl, SqT.of hb, rfl, a, rfl, ⟨_, SqT.of ha⟩, for_tup (K := K) (a := a) (xs := us) (fun i σ H' => ∃ last x2, σ = [some (.ref b), some (.int last), x2] ∧ Same H H' ∧ ∀ n ∈ (sobs.map (·.1)).drop i, last < n) ⟨0, none, rfl, Same.refl _, ?_⟩ (fun i σ H' _ ⟨_, _, _, e, _⟩ => SqT.of (e _ _ ha)) ?_ ?_⟩
    · intro n hn
      obtain ⟨o, ho, e⟩ := List.mem_map.mp (List.mem_of_mem_drop hn)
      have := (ok.num o ho).1
      omega
    · rintro i x σ H' hx ⟨last, x2, rfl, sm, hgt⟩
      obtain ⟨qa, n, y, v, rfl, hi, hq, rep⟩ := (hB.keep (TK.of sm)).get hx
      have hmem := List.mem_of_getElem? hi
      have hnum := ok.num _ hmem
      have hval := ok.val _ hmem
      have hki : (sobs.map (·.1))[i]? = some n := by rw [List.getElem?_map, hi] <;> rfl
      have hdr := drop_at hki
      have hlt : last < n := hgt n (by rw [hdr]; exact List.mem_cons_self)
      refine ⟨_, rfl, .ref qa, .ty "tuple", _, _, true, rfl, .ty _, .base (.tup hq), kit_ty (by decide +kernel), _, rfl, iteF ?_⟩
      refine ⟨_, rfl, qa, _, rfl, .inr (SqT.of hq), rfl, _, rfl, iteF ?_⟩
      refine ⟨_, rfl, qa, _, _, _, rfl, rfl, SqT.of hq, rfl, _, rfl, _, _, rfl, rfl, n, last + 1, 9999, rfl, by omega, hnum.2, _, rfl, iteF ?_⟩
      refine ⟨_, rfl, qa, _, _, _, rfl, rfl, SqT.of hq, atI_nat (j := 1) rfl, y, v, rfl, rep, hval, fun H2 s2 => ⟨_, rfl, iteF ?_⟩⟩
      refine ⟨_, rfl, qa, _, _, _, rfl, rfl, SqT.of (s2 _ _ hq), rfl, n, _, rfl, sm.trans s2, ?_⟩
      intro m hm
      have hp := List.Pairwise.sublist (List.drop_sublist i _) ok.inc
      rw [hdr] at hp
      exact (List.pairwise_cons.mp hp).1 m hm
    · rintro σ H' ⟨last, x2, rfl, sm, _⟩
      have hb2 := sm _ _ hb
      have ha2 := sm _ _ ha
      have hB2 := hB.keep (TK.of sm)
      have hr0 : 0 ≤ root ∧ root ≤ 9999 := by
        rcases ok.rt with h | h
        · omega
        · omega
      refine ⟨_, rfl, b, _, _, _, rfl, rfl, SqT.of hb2, atI_nat (j := 1) rfl, root, 0, 9999, rfl, hr0.1, hr0.2, _, rfl, iteF ?_⟩
      refine ⟨_, rfl, b, _, _, _, rfl, rfl, SqT.of hb2, atI_nat (j := 1) rfl, _, _, rfl, rfl, _, rfl, ifB (fun z => ?_) (fun z => ?_)⟩
      · refine ⟨_, rfl, _, rfl, b, _, _, _, rfl, rfl, SqT.of hb2, atI_nat (j := 1) rfl, b, a, us, sobs, root, root, rfl, hb2, ha2, hB2, fun u H3 s3 hO => ?_⟩
        rcases ok.rt with h | h
        · cases e : lookI root sobs with
          | none => exact absurd e h.2.2
          | some v =>
            rw [e] at hO
            obtain ⟨ua, eu⟩ := Rep.isRef (show Rep H3 u v from hO)
            subst eu
            exact ⟨rfl, q _ (sm.trans s3)⟩
        · omega
      · rcases ok.rt with h | h
        · exact absurd h.1 z
        · refine ⟨_, rfl, b, _, _, _, rfl, rfl, SqT.of hb2, rfl, a, us, sobs, rfl, ha2, hB2, fun H3 s3 => ⟨rfl, ?_⟩⟩
          rw [h.2]
          exact q _ (sm.trans s3)
end
end K22

set_option maxHeartbeats 4000000
/-! to_hex, write_name, write_text, join; numbers as text -/
namespace K22
open PySem PySem.Spec PyProof.Rows L2
theorem cod_append (x y : Str) : cod (x ++ y) = cod x ++ cod y := by
  show (TL.tl (x ++ y)).map _ = (TL.tl x).map _ ++ (TL.tl y).map _
  rw [TL.tl_append, List.map_append]
theorem numL_ndig (n : Nat) : (TL.numL n).map (fun k => ((k : Nat) : Int)) = ndig n := by
  by_cases h : n < 10
  · unfold ndig
    rw [if_pos h, TL.numL_lt h]
    show [((48 + n : Nat) : Int)] = _
    rw [show ((48 + n : Nat) : Int) = 48 + (n : Int) by omega]
  · have h10 : 10 ≤ n := by omega
    have ih := numL_ndig (n / 10)
    unfold ndig
    rw [if_neg h, TL.numL_step h10, List.map_append, ih]
    show _ ++ [((48 + n % 10 : Nat) : Int)] = _
    rw [show ((48 + n % 10 : Nat) : Int) = 48 + ((n % 10 : Nat) : Int) by omega]
termination_by n
decreasing_by omega
theorem cod_nat (n : Nat) : cod (Str.ofString (toString ((n : Nat) : Int))) = ndig n := by
  rw [← numL_ndig, ← TL.tl_num] <;> rfl
theorem cod_num (n : Int) : cod (Str.ofString (toString n)) = decs n := by
  by_cases h : n < 0
  · obtain ⟨m, rfl⟩ : ∃ m : Nat, n = Int.negSucc m := ⟨n.natAbs - 1, by omega⟩
    unfold decs
    rw [if_pos h]
    show (TL.tl (Str.ofString (toString (Int.negSucc m)))).map _ = _
    rw [TL.tl_ofString]
    have e : toString (Int.negSucc m) = "-" ++ toString (((m + 1 : Nat)) : Int) := rfl
    rw [e, String.toList_append, List.map_append, List.map_append, show (Int.negSucc m).natAbs = m + 1 from rfl, ← cod_nat (m + 1)]
    show _ = 45 :: (TL.tl (Str.ofString (toString (((m + 1 : Nat)) : Int)))).map _
    rw [TL.tl_ofString] <;> rfl
  · obtain ⟨m, rfl⟩ : ∃ m : Nat, n = (m : Int) := ⟨n.toNat, by omega⟩
    unfold decs
    rw [if_neg h, Int.natAbs_natCast]
    exact cod_nat m
theorem small_at : ∀ i : Fin 16, atI (("0123456789abcdef" : Str).cps.toList) ((i.val : Nat) : Int) = some (hexd ((i.val : Nat) : Int)).toNat := by decide +kernel
theorem hexd_nn {i : Int} (h : 0 ≤ i) : 0 ≤ hexd i := by
  unfold hexd
  split <;> omega
theorem small_i {i : Int} (h0 : 0 ≤ i) (h1 : i < 16) : atI (("0123456789abcdef" : Str).cps.toList) i = some (hexd i).toNat := by
  have := small_at ⟨i.toNat, by omega⟩
  have e : ((i.toNat : Nat) : Int) = i := by omega
  simp only [e] at this
  exact this
section
variable {P : Program} {w : World} {K : PySem.W.Frag} {mg : Str → Option Value} {base : Heap}
theorem pe_gs {X : Cx} {x z : Str} {p : Pos} (hm : ∃ t, X.mg x = some (.str z t)) (hg : Gl X x := by rfl) (hdb : (x == ("__debug__" : Str)) = false := by decide) : PE X (.Name x p) (tC (.str z)) := by
  obtain ⟨t, h⟩ := hm
  exact pe_glob hg h ⟨t, rfl⟩ hdb
/-! ### to_hex -/
def spHex (K : PySem.W.Frag) : Sp := fun vs H Q _ => ∃ (a : Addr) (b : Int), vs = [.ref a] ∧ SqL K H a [.int b] ∧ 0 ≤ b ∧ b ≤ 255 ∧ ∀ t H', H t = none → Same H H' → H' t = some (.lst ((hex2 b).map V.int)) → Q (.ref t) H'
theorem sc_to_hex : FnScope ["data", "codes", "byte"] ["data"] (defScope s_to_hex) := ⟨rfl, rfl, rfl, by decide +kernel, rfl, by decide +kernel, by decide +kernel⟩
theorem ok_to_hex (T : Tx K mg) : Cal P w K mg base "to_hex" 1 ["data"] (spHex K) := by
  obtain ⟨fd, F⟩ := T.F_to_hex
  refine ⟨_, fd, F.ok sc_to_hex (fun vs H Q E h => ?_) (fun cdv A outer s H vs Q E hr h => ?_), T.g_to_hex, F.kp, F.binds fun _ _ _ _ _ _ us hl => match us, hl with | [_], _ => rfl⟩
  · obtain ⟨a, b, rfl, _⟩ := h
    rfl
  · obtain ⟨a, b, rfl, hS, h0, h1, q⟩ := h
    refine ⟨_, pss_cons (ps_set (i := 1) sc_to_hex.nd rfl (.inl rfl) (pe_lst pa_nil))
      (pss_cons (ps_for PassesOwn.never rfl (pi_list (pv 0)) (pg_name (i := 2) sc_to_hex.nd rfl (.inl rfl))
        (pss_cons (ps_expr (pe_bm PySem.F.plainAttrs_list PySem.F.slot_list_append PySem.F.type_list_append mt_append (pv 1) (pa_cons (pe_callB call_ord (by rfl) T.fr_ord (by decide +kernel) (pa_cons (pe_ix ix_str (pe_gs T.t_SMALL) (pe_op op_shr (pv 2) pe_int) (fun _ _ => rfl)) pa_nil)) pa_nil)))
        (pss_one (ps_expr (pe_bm PySem.F.plainAttrs_list PySem.F.slot_list_append PySem.F.type_list_append mt_append (pv 1) (pa_cons (pe_callB call_ord (by rfl) T.fr_ord (by decide +kernel) (pa_cons (pe_ix ix_str (pe_gs T.t_SMALL) (pe_op op_andM (pv 2) pe_int) (fun _ _ => rfl)) pa_nil)) pa_nil))))))
      (pss_one (ps_ret (pv 1)))), ?_⟩
    refine ⟨Nat.zero_le _, fun d nd => ?_⟩
    have sD := same_new (o := .lst []) nd
    have hD : (upd H d (.lst [])) d = some (.lst []) := upd_same
    generalize upd H d (.lst []) = H1 at sD hD
    have e1 : atI (("0123456789abcdef" : Str).cps.toList) (b / 2 ^ (4 : Int).toNat) = some (hexd (b / 16)).toNat := by
      rw [show b / 2 ^ (4 : Int).toNat = b / 16 by rw [show (2 : Int) ^ (4 : Int).toNat = 16 by decide]]
      exact small_i (by omega) (by omega)
    have e2 : atI (("0123456789abcdef" : Str).cps.toList) (b % 2 ^ 4) = some (hexd (b % 16)).toNat := by
      rw [show b % 2 ^ 4 = b % 16 by rw [show (2 : Int) ^ 4 = 16 by decide]]
      exact small_i (by omega) (by omega)
    have n1 : ((hexd (b / 16)).toNat : Int) = hexd (b / 16) := Int.toNat_of_nonneg (hexd_nn (by omega))
    have n2 : ((hexd (b % 16)).toNat : Int) = hexd (b % 16) := Int.toNat_of_nonneg (hexd_nn (by omega))
    refine ⟨_, rfl, a, rfl, ⟨_, sD.seq hS⟩, for_list (K := K) (a := a) (xs := [.int b]) (fun i σ H' => ∃ x2, σ = [some (.ref a), some (.ref d), x2] ∧ Same H H' ∧ H' d = some (.lst (((hex2 b).take (2 * i)).map V.int))) ⟨none, rfl, sD, hD⟩ (fun i σ H' _ ⟨_, _, e, _⟩ => e.seq hS) ?_ ?_⟩
    · rintro i x σ H' hx ⟨x2, rfl, sm, hd⟩
      have hi : i = 0 := by
        cases i with
        | zero => rfl
        | succ i => simp at hx
      subst hi
      have hxb : x = .int b := (Option.some.inj hx).symm
      subst hxb
      have hd' : H' d = some (.lst []) := hd
      have ndH : H d = none := nd
      refine ⟨_, rfl, .inl ⟨rfl, _, SqL.of hd'⟩, _, rfl, b, 4, rfl, rfl, (show (0 : Int) ≤ 4 by decide), _, _, _, rfl, rfl, by decide +kernel, e1, _, rfl, rfl, d, _, _, rfl, rfl, hd', by show 0 < sizeLine; decide, ?_⟩
      have s2 : Same H (upd H' d (.lst ([] ++ [V.int (((⟨#[(hexd (b / 16)).toNat]⟩ : Str).cps.getD 0 0 : Nat) : Int)]))) := fun c o e => by
        rw [upd_ne (ne_of_none e ndH)]
        exact sm c o e
      have hd2 : (upd H' d (.lst ([] ++ [V.int (((⟨#[(hexd (b / 16)).toNat]⟩ : Str).cps.getD 0 0 : Nat) : Int)]))) d = some (.lst [.int (hexd (b / 16))]) := by
        rw [upd_same]
        show some (HO.lst [V.int ((hexd (b / 16)).toNat : Int)]) = _
        rw [n1]
      generalize upd H' d (.lst ([] ++ [V.int (((⟨#[(hexd (b / 16)).toNat]⟩ : Str).cps.getD 0 0 : Nat) : Int)])) = H2 at s2 hd2
      refine ⟨_, rfl, .inl ⟨rfl, _, SqL.of hd2⟩, _, rfl, b, 4, rfl, rfl, _, _, _, rfl, rfl, by decide +kernel, e2, _, rfl, rfl, d, _, _, rfl, rfl, hd2, by show 1 < sizeLine; decide, ?_⟩
      refine ⟨_, rfl, fun c o e => ?_, ?_⟩
      · rw [upd_ne (ne_of_none e ndH)]
        exact s2 c o e
      · rw [upd_same]
        show some (HO.lst [V.int (hexd (b / 16)), V.int ((hexd (b % 16)).toNat : Int)]) = _
        rw [n2] <;> rfl
    · rintro σ H' ⟨x2, rfl, sm, hd⟩
      exact ⟨_, rfl, q d _ nd sm hd⟩
/-! ### write_name -/
theorem wNameB_len (b : Int) : (wNameB b).length ≤ 3 := by
  unfold wNameB
  split
  · exact Nat.le_refl 3
  · show 1 ≤ 3
    decide
theorem flat_len3 (f : Int → List Int) (h : ∀ b, (f b).length ≤ 3) : ∀ d : List Int, (d.flatMap f).length ≤ 3 * d.length
  | [] => Nat.le_refl _
  | b :: r => by
    have h1 := h b
    have h2 := flat_len3 f h r
    rw [List.flatMap_cons, List.length_append, List.length_cons]
    omega
theorem flat_next (f : Int → List Int) {d : List Int} {i : Nat} {b : Int} (h : d[i]? = some b) : (d.take (i + 1)).flatMap f = (d.take i).flatMap f ++ f b := by
  rw [List.take_add_one, h, List.flatMap_append]
  show _ ++ (f b ++ []) = _
  rw [List.append_nil]
def spWName : Sp := fun vs H Q _ => ∃ (t : Addr) (d : List Int), vs = [.ref t] ∧ H t = some (.tup (d.map V.int)) ∧ okD d ∧ ∀ r H', H r = none → Same H H' → H' r = some (.lst ((wName d).map V.int)) → Q (.ref r) H'
theorem sc_write_name : FnScope ["data", "found", "byte"] ["data"] (defScope s_write_name) := ⟨rfl, rfl, rfl, by decide +kernel, rfl, by decide +kernel, by decide +kernel⟩
theorem ok_write_name (T : Tx K mg) : Cal P w K mg base "write_name" 2 ["data"] spWName := by
  obtain ⟨fd, F⟩ := T.F_write_name
  refine ⟨_, fd, F.ok sc_write_name (fun vs H Q E h => ?_) (fun cdv A outer s H vs Q E hr h => ?_), T.g_write_name, F.kp, F.binds fun _ _ _ _ _ _ us hl => match us, hl with | [_], _ => rfl⟩
  · obtain ⟨t, d, rfl, _⟩ := h
    rfl
  · obtain ⟨t, d, rfl, ht, hd, q⟩ := h
    refine ⟨_, pss_cons (ps_set (i := 1) sc_write_name.nd rfl (.inl rfl) (pe_cal (ok_codes T) hr (pa_cons pe_str pa_nil)))
      (pss_cons (ps_for PassesOwn.never rfl (pi_tup (pv 0)) (pg_name (i := 2) sc_write_name.nd rfl (.inl rfl))
        (pss_one (ps_if (PW.pt (pw_or (pt_not (pt_val (pe_cal (ok_is_regular T) hr (pa_cons (pv 2) pa_nil)))) (pw_or (pt_cmpR op_lt (pv 2) pe_int (nomark _)) (pw_or (pt_cmpR op_gt (pv 2) pe_int (nomark _)) (pw_or1 (pt_cmpR op_eq (pv 2) (pe_gi T.i_TILDE) (nomark _)))))))
          (pss_one (ps_expr (pe_bm PySem.F.plainAttrs_list PySem.F.slot_list_extend PySem.F.type_list_extend mt_extend (pv 1) (pa_cons (pe_lst (pa_cons (pe_gi T.i_TILDE) (StX.pa_star (pe_cal (ok_to_hex T) hr (pa_cons (pe_lst (pa_cons (pv 2) pa_nil)) pa_nil)) pa_nil))) pa_nil))))
          (pss_one (ps_expr (pe_bm PySem.F.plainAttrs_list PySem.F.slot_list_append PySem.F.type_list_append mt_append (pv 1) (pa_cons (pv 2) pa_nil)))))))
      (pss_one (ps_ret (pv 1)))), ?_⟩
    refine ⟨"/", rfl, by decide +kernel, fun f H1 nf s1 hf => ?_⟩
    have hf' : H1 f = some (.lst (([47] : List Int).map V.int)) := hf.trans (by rw [show cod "/" = [47] by decide +kernel])
    refine ⟨_, rfl, t, rfl, ⟨_, SqT.of (s1 _ _ ht)⟩, for_tup (K := K) (a := t) (xs := d.map V.int) (fun i σ H' => ∃ x2, σ = [some (.ref t), some (.ref f), x2] ∧ Same H H' ∧ H' f = some (.lst ((47 :: (d.take i).flatMap wNameB).map V.int))) ⟨none, rfl, s1, hf'⟩ (fun i σ H' _ ⟨_, _, e, _⟩ => SqT.of (e _ _ ht)) ?_ ?_⟩
    · rintro i x σ H' hx ⟨x2, rfl, sm, hF⟩
      rw [List.getElem?_map] at hx
      obtain ⟨b, hb, rfl⟩ := Option.map_eq_some_iff.mp hx
      have hbb := hd.1 b (List.mem_of_getElem? hb)
      have hnx := flat_next wNameB hb
      have hlen : ((47 :: (d.take i).flatMap wNameB).map V.int).length ≤ 300001 := by
        rw [List.length_map, List.length_cons]
        have h1 := flat_len3 wNameB wNameB_len (d.take i)
        have h2 := hd.2
        rw [List.length_take] at h1
        omega
      refine ⟨_, rfl, b, rfl, _, rfl, ifD (p := isReg b = false) (by simp) (fun h1 => ?e1) (fun h1 => ⟨_, rfl, _, _, rfl, rfl, _, rfl, ifB (fun h2 => ?e2) (fun h2 => ⟨_, rfl, _, _, rfl, rfl, _, rfl, ifB (fun h3 => ?e3) (fun h3 => ⟨_, rfl, rfl, _, rfl, ifI (fun h4 => ?e4) (fun h4 => ?app)⟩)⟩)⟩)⟩
      case app =>
        have e : wNameB b = [b] := if_neg (fun y => y.elim h1 fun y => y.elim h2 fun y => y.elim h3 h4)
        rw [e] at hnx
        refine ⟨_, rfl, .inl ⟨rfl, _, SqL.of hF⟩, _, rfl, f, _, _, rfl, rfl, hF, Nat.lt_of_le_of_lt hlen (by decide), ?_⟩
        refine ⟨_, rfl, fun c o e => ?_, ?_⟩
        · rw [upd_ne (ne_of_none e nf)]
          exact sm c o e
        · rw [upd_same, map_snoc, hnx] <;> rfl
      all_goals
        have e : wNameB b = 126 :: hex2 b := by
          refine if_pos ?_
          first | exact .inl ‹_› | exact .inr (.inl ‹_›) | exact .inr (.inr (.inl ‹_›)) | exact .inr (.inr (.inr ‹_›))
        rw [e] at hnx
        refine ⟨_, rfl, .inl ⟨rfl, _, SqL.of hF⟩, _, rfl, by show 1 ≤ sizeLine; decide, fun y ny => ?_⟩
        have sY := same_new (o := .lst [V.int b]) ny
        refine ⟨y, b, rfl, SqL.of upd_same, hbb.1, hbb.2, fun t2 H2 nt2 s2 ht2 => ?_⟩
        refine ⟨t2, _, rfl, .inr (SqL.of ht2), by show 3 ≤ sizeLine; decide, fun z nz => ?_⟩
        have sZ := same_new (o := .lst (V.int 126 :: ((hex2 b).map V.int ++ []))) nz
        have sA := sY.trans (s2.trans sZ)
        refine ⟨f, z, _, _, rfl, rfl, sA _ _ hF, upd_same, ?_, ?_⟩
        · refine Nat.le_trans (Nat.add_le_add hlen (show _ ≤ 3 from Nat.le_refl 3)) (by decide)
        · refine ⟨_, rfl, fun c o e => ?_, ?_⟩
          · rw [upd_ne (ne_of_none e nf)]
            exact sA _ _ (sm c o e)
          · rw [upd_same, hnx]
            simp
    · rintro σ H' ⟨x2, rfl, sm, hF⟩
      rw [List.length_map, List.take_length] at hF
      exact ⟨_, rfl, q f _ nf sm hF⟩
end
end K22

set_option maxHeartbeats 4000000
/-! write_text, join -/
namespace K22
open PySem PySem.Spec PyProof.Rows L2
theorem wTextB_len (b : Int) : (wTextB b).length ≤ 3 := by
  unfold wTextB
  split
  · show 2 ≤ 3
    decide
  · split
    · exact Nat.le_refl 3
    · show 1 ≤ 3
      decide
theorem joinSp_snoc (ps : List (List Int)) (p : List Int) : joinSp (ps ++ [p]) = (if 0 < (joinSp ps).length then joinSp ps ++ [32] else joinSp ps) ++ p := by
  unfold joinSp
  rw [List.foldl_append] <;> rfl
theorem joinSp_take {ps : List (List Int)} {i : Nat} {p : List Int} (h : ps[i]? = some p) : joinSp (ps.take (i + 1)) = (if 0 < (joinSp (ps.take i)).length then joinSp (ps.take i) ++ [32] else joinSp (ps.take i)) ++ p := by
  rw [List.take_add_one, h]
  exact joinSp_snoc _ _
theorem joinSp_from : ∀ (ps : List (List Int)) (acc : List Int), acc.length ≤ (ps.foldl (fun acc p => (if 0 < acc.length then acc ++ [32] else acc) ++ p) acc).length
  | [], acc => Nat.le_refl _
  | p :: ps, acc => by
    refine Nat.le_trans ?_ (joinSp_from ps _)
    rw [List.length_append]
    split
    · rw [List.length_append]; omega
    · omega
theorem joinSp_pre (ps : List (List Int)) (i : Nat) : (joinSp (ps.take i)).length ≤ (joinSp ps).length := by
  have h : joinSp ps = (ps.drop i).foldl (fun acc p => (if 0 < acc.length then acc ++ [32] else acc) ++ p) (joinSp (ps.take i)) := by
    conv => lhs; rw [← List.take_append_drop i ps]
    unfold joinSp
    rw [List.foldl_append]
  rw [h]
  exact joinSp_from _ _
/-- lists of ints -/
inductive RepJ (H : Hp) : List V → List (List Int) → Prop
  | nil : RepJ H [] []
  | cons {a : Addr} {us : List V} {p : List Int} {ps : List (List Int)} : H a = some (.lst (p.map V.int)) → RepJ H us ps → RepJ H (.ref a :: us) (p :: ps)
theorem RepJ.keep {H H' : Hp} (s : Same H H') {us : List V} {ps : List (List Int)} (r : RepJ H us ps) : RepJ H' us ps := by
  induction r with
  | nil => exact .nil
  | cons h _ ih => exact .cons (s _ _ h) ih
theorem RepJ.len {H : Hp} {us : List V} {ps : List (List Int)} (r : RepJ H us ps) : us.length = ps.length := by
  induction r with
  | nil => rfl
  | cons h _ ih => rw [List.length_cons, List.length_cons, ih]
theorem RepJ.get {H : Hp} {us : List V} {ps : List (List Int)} (r : RepJ H us ps) : ∀ {i : Nat} {x : V}, us[i]? = some x → ∃ a p, x = .ref a ∧ ps[i]? = some p ∧ H a = some (.lst (p.map V.int)) := by
  induction r with
  | nil => intro i x h; simp at h
  | cons h _ ih =>
    intro i x hx
    cases i with
    | zero =>
      have e := Option.some.inj hx
      subst e
      exact ⟨_, _, rfl, rfl, h⟩
    | succ i => exact ih hx
theorem RepJ.snoc {H : Hp} {us : List V} {ps : List (List Int)} (r : RepJ H us ps) {a : Addr} {p : List Int} (h : H a = some (.lst (p.map V.int))) : RepJ H (us ++ [.ref a]) (ps ++ [p]) := by
  induction r with
  | nil => exact .cons h .nil
  | cons x _ ih => exact .cons x ih
section
variable {P : Program} {w : World} {K : PySem.W.Frag} {mg : Str → Option Value} {base : Heap}
def spWText : Sp := fun vs H Q _ => ∃ (t : Addr) (d : List Int), vs = [.ref t] ∧ H t = some (.tup (d.map V.int)) ∧ okD d ∧ ∀ r H', H r = none → Same H H' → H' r = some (.lst ((wText d).map V.int)) → Q (.ref r) H'
theorem sc_write_text : FnScope ["data", "found", "byte"] ["data"] (defScope s_write_text) := ⟨rfl, rfl, rfl, by decide +kernel, rfl, by decide +kernel, by decide +kernel⟩
theorem ok_write_text (T : Tx K mg) : Cal P w K mg base "write_text" 2 ["data"] spWText := by
  obtain ⟨fd, F⟩ := T.F_write_text
  refine ⟨_, fd, F.ok sc_write_text (fun vs H Q E h => ?_) (fun cdv A outer s H vs Q E hr h => ?_), T.g_write_text, F.kp, F.binds fun _ _ _ _ _ _ us hl => match us, hl with | [_], _ => rfl⟩
  · obtain ⟨t, d, rfl, _⟩ := h
    rfl
  · obtain ⟨t, d, rfl, ht, hd, q⟩ := h
    refine ⟨_, pss_cons (ps_set (i := 1) sc_write_text.nd rfl (.inl rfl) (pe_lst (pa_cons (pe_gi T.i_TEXT) pa_nil)))
      (pss_cons (ps_for PassesOwn.never rfl (pi_tup (pv 0)) (pg_name (i := 2) sc_write_text.nd rfl (.inl rfl))
        (pss_one (ps_if (pt_cmpR op_in_seq (pv 2) (pe_tup (pa_cons (pe_gi T.i_TEXT) (pa_cons (pe_gi T.i_TEXT_END) (pa_cons (pe_gi T.i_BACKSLASH) pa_nil)))) rfl)
          (pss_one (ps_expr (pe_bm PySem.F.plainAttrs_list PySem.F.slot_list_extend PySem.F.type_list_extend mt_extend (pv 1) (pa_cons (pe_lst (pa_cons (pe_gi T.i_BACKSLASH) (pa_cons (pv 2) pa_nil))) pa_nil))))
          (pss_one (ps_if (PW.pt (pw_or (pt_cmpR op_lt (pv 2) pe_int (nomark _)) (pw_or1 (pt_cmpR op_gt (pv 2) pe_int (nomark _)))))
            (pss_one (ps_expr (pe_bm PySem.F.plainAttrs_list PySem.F.slot_list_extend PySem.F.type_list_extend mt_extend (pv 1) (pa_cons (pe_lst (pa_cons (pe_gi T.i_BACKSLASH) (StX.pa_star (pe_cal (ok_to_hex T) hr (pa_cons (pe_lst (pa_cons (pv 2) pa_nil)) pa_nil)) pa_nil))) pa_nil))))
            (pss_one (ps_expr (pe_bm PySem.F.plainAttrs_list PySem.F.slot_list_append PySem.F.type_list_append mt_append (pv 1) (pa_cons (pv 2) pa_nil)))))))))
      (pss_one (ps_ret (pe_lst (StX.pa_star (pv 1) (pa_cons (pe_gi T.i_TEXT_END) pa_nil)))))), ?_⟩
    refine ⟨by show 1 ≤ sizeLine; decide, fun f nf => ?_⟩
    have s1 := same_new (o := .lst [V.int 40]) nf
    have hf' : (upd H f (.lst [V.int 40])) f = some (.lst (([40] : List Int).map V.int)) := upd_same
    generalize upd H f (.lst [V.int 40]) = H1 at s1 hf'
    refine ⟨_, rfl, t, rfl, ⟨_, SqT.of (s1 _ _ ht)⟩, for_tup (K := K) (a := t) (xs := d.map V.int) (fun i σ H' => ∃ x2, σ = [some (.ref t), some (.ref f), x2] ∧ Same H H' ∧ H' f = some (.lst ((40 :: (d.take i).flatMap wTextB).map V.int))) ⟨none, rfl, s1, hf'⟩ (fun i σ H' _ ⟨_, _, e, _⟩ => SqT.of (e _ _ ht)) ?_ ?_⟩
    · rintro i x σ H' hx ⟨x2, rfl, sm, hF⟩
      rw [List.getElem?_map] at hx
      obtain ⟨b, hb, rfl⟩ := Option.map_eq_some_iff.mp hx
      have hbb := hd.1 b (List.mem_of_getElem? hb)
      have hnx := flat_next wTextB hb
      have hlen : ((40 :: (d.take i).flatMap wTextB).map V.int).length ≤ 300001 := by
        rw [List.length_map, List.length_cons]
        have h1 := flat_len3 wTextB wTextB_len (d.take i)
        have h2 := hd.2
        rw [List.length_take] at h1
        omega
      refine ⟨_, rfl, by show 3 ≤ sizeLine; decide, fun tp ntp => ?_⟩
      have sT := same_new (o := .tup [V.int 40, V.int 41, V.int 92]) ntp
      have hT : SqT K (upd H' tp (.tup [V.int 40, V.int 41, V.int 92])) tp (([40, 41, 92] : List Int).map V.int) := SqT.of upd_same
      generalize upd H' tp (.tup [V.int 40, V.int 41, V.int 92]) = H2 at hT sT
      have sm2 := sm.trans sT
      have hF2 := sT _ _ hF
      refine ⟨_, _, rfl, .inr hT, rfl, flat_ints _, _, rfl, ifD (in_eq b [40, 41, 92]) (fun z => ?_) (fun z => ?_)⟩
      · have z' : b = 40 ∨ b = 41 ∨ b = 92 := by
          have := of_decide_eq_true (p := b ∈ [40, 41, 92]) (by simpa using z)
          simpa using this
        have e : wTextB b = [92, b] := if_pos z'
        rw [e] at hnx
        refine ⟨_, rfl, .inl ⟨rfl, _, SqL.of hF2⟩, _, rfl, by show 2 ≤ sizeLine; decide, fun y ny => ?_⟩
        have sY := same_new (o := .lst [V.int 92, V.int b]) ny
        refine ⟨f, y, _, _, rfl, rfl, sY _ _ hF2, upd_same, Nat.le_trans (Nat.add_le_add hlen (show _ ≤ 2 from Nat.le_refl 2)) (by decide), ?_⟩
        refine ⟨_, rfl, fun c o e => ?_, ?_⟩
        · rw [upd_ne (ne_of_none e nf)]
          exact sY _ _ (sm2 c o e)
        · rw [upd_same, hnx]
          simp
      · have z' : ¬ (b = 40 ∨ b = 41 ∨ b = 92) := by
          intro y
          refine z ?_
          rcases y with e | e | e <;> simp [e]
        refine ⟨_, rfl, _, _, rfl, rfl, _, rfl, ifB (fun h2 => ?e2) (fun h2 => ⟨_, rfl, _, _, rfl, rfl, _, rfl, ifB (fun h3 => ?e3) (fun h3 => ?app)⟩)⟩
        case app =>
          have e : wTextB b = [b] := (if_neg z').trans (if_neg fun y => y.elim h2 h3)
          rw [e] at hnx
          refine ⟨_, rfl, .inl ⟨rfl, _, SqL.of hF2⟩, _, rfl, f, _, _, rfl, rfl, hF2, Nat.lt_of_le_of_lt hlen (by decide), ?_⟩
          refine ⟨_, rfl, fun c o e => ?_, ?_⟩
          · rw [upd_ne (ne_of_none e nf)]
            exact sm2 c o e
          · rw [upd_same, map_snoc, hnx] <;> rfl
        all_goals
          have e : wTextB b = 92 :: hex2 b := by
            refine (if_neg z').trans (if_pos ?_)
            first | exact .inl ‹_› | exact .inr ‹_›
          rw [e] at hnx
          refine ⟨_, rfl, .inl ⟨rfl, _, SqL.of hF2⟩, _, rfl, by show 1 ≤ sizeLine; decide, fun y ny => ?_⟩
          have sY := same_new (o := .lst [V.int b]) ny
          refine ⟨y, b, rfl, SqL.of upd_same, hbb.1, hbb.2, fun t2 H3 nt2 s3 ht2 => ?_⟩
          refine ⟨t2, _, rfl, .inr (SqL.of ht2), by show 3 ≤ sizeLine; decide, fun z nz => ?_⟩
          have sZ := same_new (o := .lst (V.int 92 :: ((hex2 b).map V.int ++ []))) nz
          have sA := sY.trans (s3.trans sZ)
          refine ⟨f, z, _, _, rfl, rfl, sA _ _ hF2, upd_same, ?_, ?_⟩
          · refine Nat.le_trans (Nat.add_le_add hlen (show _ ≤ 3 from Nat.le_refl 3)) (by decide)
          · refine ⟨_, rfl, fun c o e => ?_, ?_⟩
            · rw [upd_ne (ne_of_none e nf)]
              exact sA _ _ (sm2 c o e)
            · rw [upd_same, hnx]
              simp
    · rintro σ H' ⟨x2, rfl, sm, hF⟩
      rw [List.length_map, List.take_length] at hF
      have hlen : ((40 :: d.flatMap wTextB).map V.int).length ≤ 300001 := by
        rw [List.length_map, List.length_cons]
        have h1 := flat_len3 wTextB wTextB_len d
        have h2 := hd.2
        omega
      refine ⟨_, rfl, f, _, rfl, .inr (SqL.of hF), ?_, fun y ny => ?_⟩
      · rw [List.length_append]
        exact Nat.le_trans (Nat.add_le_add hlen (show _ ≤ 1 from Nat.le_refl 1)) (by decide)
      · have hyn : H y = none := by
          cases e : H y with
          | none => rfl
          | some o => rw [sm _ _ e] at ny; cases ny
        refine q y _ hyn (sm.trans (same_new ny)) (upd_same.trans ?_)
        unfold wText
        rw [List.map_append] <;> rfl
/-! ### join -/
def spJoin (K : PySem.W.Frag) : Sp := fun vs H Q _ => ∃ (l : Addr) (us : List V) (ps : List (List Int)), vs = [.ref l] ∧ SqL K H l us ∧ RepJ H us ps ∧ (joinSp ps).length ≤ 400000 ∧ ∀ r H', H r = none → Same H H' → H' r = some (.lst ((joinSp ps).map V.int)) → Q (.ref r) H'
theorem sc_join : FnScope ["parts", "found", "part"] ["parts"] (defScope s_join) := ⟨rfl, rfl, rfl, by decide +kernel, rfl, by decide +kernel, by decide +kernel⟩
theorem ok_join (T : Tx K mg) : Cal P w K mg base "join" 1 ["parts"] (spJoin K) := by
  obtain ⟨fd, F⟩ := T.F_join
  refine ⟨_, fd, F.ok sc_join (fun vs H Q E h => ?_) (fun cdv A outer s H vs Q E hr h => ?_), T.g_join, F.kp, F.binds fun _ _ _ _ _ _ us hl => match us, hl with | [_], _ => rfl⟩
  · obtain ⟨l, us, ps, rfl, _⟩ := h
    rfl
  · obtain ⟨l, us, ps, rfl, hl, hJ, hlen, q⟩ := h
    refine ⟨_, pss_cons (ps_set (i := 1) sc_join.nd rfl (.inl rfl) (pe_lst pa_nil))
      (pss_cons (ps_for PassesOwn.never rfl (pi_list (pv 0)) (pg_name (i := 2) sc_join.nd rfl (.inl rfl))
        (C8.pss_cut (ps_if (pt_cmpR op_gt (pe_callB call_len_seq (by rfl) T.fr_len PySem.boot_len (pa_cons (pv 1) pa_nil)) pe_int (nomark _))
          (pss_one (ps_expr (pe_bm PySem.F.plainAttrs_list PySem.F.slot_list_append PySem.F.type_list_append mt_append (pv 1) (pa_cons (pe_gi T.i_SPACE) pa_nil)))) pss_nil)
        (pss_one (ps_expr (pe_bm PySem.F.plainAttrs_list PySem.F.slot_list_extend PySem.F.type_list_extend mt_extend (pv 1) (pa_cons (pv 2) pa_nil))))))
      (pss_one (ps_ret (pv 1)))), ?_⟩
    refine ⟨Nat.zero_le _, fun f nf => ?_⟩
    have s1 := same_new (o := .lst []) nf
    have hf' : (upd H f (.lst [])) f = some (.lst []) := upd_same
    generalize upd H f (.lst []) = H1 at s1 hf'
    refine ⟨_, rfl, l, rfl, ⟨_, s1.seq hl⟩, for_list (K := K) (a := l) (xs := us) (fun i σ H' => ∃ x2, σ = [some (.ref l), some (.ref f), x2] ∧ Same H H' ∧ H' f = some (.lst ((joinSp (ps.take i)).map V.int))) ⟨none, rfl, s1, hf'⟩ (fun i σ H' _ ⟨_, _, e, _⟩ => e.seq hl) ?_ ?_⟩
    · rintro i x σ H' hx ⟨x2, rfl, sm, hF⟩
      obtain ⟨a, p, rfl, hp, ha⟩ := hJ.get hx
      have hj := joinSp_take hp
      have hp1 := joinSp_pre ps i
      have hp2 := joinSp_pre ps (i + 1)
      have eL : (((joinSp (ps.take i)).map V.int).length : Int) = ((joinSp (ps.take i)).length : Int) := by rw [List.length_map]
      refine ⟨fun σ' H2 => σ' = [some (.ref l), some (.ref f), some (.ref a)] ∧ Same H H2 ∧ H2 f = some (.lst ((if 0 < (joinSp (ps.take i)).length then joinSp (ps.take i) ++ [32] else joinSp (ps.take i)).map V.int)), ?_, ?_⟩
      · refine ⟨_, rfl, f, _, rfl, .inl (SqL.of hF), _, _, rfl, rfl, _, rfl, ifB (fun z => ?_) (fun z => ?_)⟩
        · have z' : 0 < (joinSp (ps.take i)).length := by omega
          refine ⟨_, rfl, .inl ⟨rfl, _, SqL.of hF⟩, f, _, _, rfl, rfl, hF, ?_, rfl, fun c o e => ?_, ?_⟩
          · rw [List.length_map]
            exact Nat.lt_of_le_of_lt (Nat.le_trans hp1 hlen) (by decide)
          · rw [upd_ne (ne_of_none e nf)]
            exact sm c o e
          · rw [upd_same, if_pos z', List.map_append] <;> rfl
        · have z' : ¬ 0 < (joinSp (ps.take i)).length := by omega
          exact ⟨rfl, sm, by rw [if_neg z']; exact hF⟩
      · rintro σ' H2 ⟨rfl, sm2, hF2⟩
        have ha2 := sm2 _ _ ha
        refine ⟨_, rfl, .inl ⟨rfl, _, SqL.of hF2⟩, _, rfl, f, a, _, _, rfl, rfl, hF2, ha2, ?_, ?_⟩
        · rw [List.length_map, List.length_map, ← List.length_append, ← hj]
          exact Nat.le_trans (Nat.le_trans hp2 hlen) (by decide)
        · refine ⟨_, rfl, fun c o e => ?_, ?_⟩
          · rw [upd_ne (ne_of_none e nf)]
            exact sm2 c o e
          · rw [upd_same, ← List.map_append, ← hj]
    · rintro σ H' ⟨x2, rfl, sm, hF⟩
      rw [hJ.len, List.take_length] at hF
      exact ⟨_, rfl, q f _ nf sm hF⟩
end
end K22

set_option maxHeartbeats 4000000
/-! write_pairs -/
namespace K22
open PySem PySem.Spec PyProof.Rows L2
theorem pa_starK {X : Cx} {K' : PySem.W.Frag} {e : Expr} {es : List Expr} {te : TE} {t : TA} {p : Pos} (hK : X.K = K') (he : PE X e te) (hr : PA X es t) (hs : starEach (.Starred e p :: es) X.env = (true, eval e X.env) :: starEach es X.env := by rfl) : PA X (.Starred e p :: es) (StX.tStar K' te t) := by
  subst hK
  exact StX.pa_star he hr hs
theorem RepJ.but {H H' : Hp} {D : Addr} (s : ∀ b o, H b = some o → b ≠ D → H' b = some o) {us : List V} {ps : List (List Int)} (r : RepJ H us ps) (hn : ∀ a, V.ref a ∈ us → a ≠ D) : RepJ H' us ps := by
  induction r with
  | nil => exact .nil
  | @cons a us p ps h _ ih => exact .cons (s _ _ h (hn a List.mem_cons_self)) (ih fun b hb => hn b (List.mem_cons_of_mem _ hb))
theorem wParts_get : ∀ {ps : List (List Int × Val)} {i : Nat} {k : List Int} {v : Val}, ps[i]? = some (k, v) → (wParts ps)[i]? = some (wName k ++ [32] ++ wVal v)
  | [], i, k, v, h => by simp at h
  | (x, y) :: r, 0, k, v, h => by
    have e := Option.some.inj h
    injection e with e1 e2
    subst e1 e2
    unfold wParts
    rfl
  | (x, y) :: r, i + 1, k, v, h => by
    unfold wParts
    exact wParts_get (ps := r) h
theorem wVals_get : ∀ {vs : List Val} {i : Nat} {v : Val}, vs[i]? = some v → (wVals vs)[i]? = some (wVal v)
  | [], i, v, h => by simp at h
  | x :: r, 0, v, h => by
    have e := Option.some.inj h
    subst e
    unfold wVals
    rfl
  | x :: r, i + 1, v, h => by
    unfold wVals
    exact wVals_get (vs := r) h
theorem wParts_len : ∀ ps : List (List Int × Val), (wParts ps).length = ps.length
  | [] => by unfold wParts; rfl
  | (x, y) :: r => by unfold wParts; rw [List.length_cons, List.length_cons, wParts_len r]
theorem wVals_len : ∀ vs : List Val, (wVals vs).length = vs.length
  | [] => by unfold wVals; rfl
  | x :: r => by unfold wVals; rw [List.length_cons, List.length_cons, wVals_len r]
theorem part_le {ps : List (List Int)} {i : Nat} {p : List Int} (h : ps[i]? = some p) : p.length ≤ (joinSp ps).length := by
  have h1 := joinSp_take h
  have h2 := joinSp_pre ps (i + 1)
  rw [h1, List.length_append] at h2
  omega
section
variable {P : Program} {w : World} {K : PySem.W.Frag} {mg : Str → Option Value} {base : Heap}
def spPartsW (deep : Nat) : Sp := fun vs H Q _ => ∃ (u : V) (v : Val), vs = [u] ∧ Rep H u v ∧ okV deep v ∧ (wVal v).length ≤ 400000 ∧ ∀ r H', H r = none → Same H H' → H' r = some (.lst ((wVal v).map V.int)) → Q (.ref r) H'
def spPairsW (deep : Nat) : Sp := fun vs H Q _ => deep < 16 ∧ ∃ (t : Addr) (us : List V) (ps : List (List Int × Val)), vs = [.ref t] ∧ H t = some (.tup us) ∧ RepP H us ps ∧ ps.length ≤ 100000 ∧ okP (deep + 1) ps ∧ (joinSp (wParts ps)).length ≤ 400000 ∧
  ∀ r H', H r = none → Same H H' → H' r = some (.lst (([60, 60] ++ joinSp (wParts ps) ++ [62, 62]).map V.int)) → Q (.ref r) H'
theorem fresh_of {H H' : Hp} (s : Same H H') {a : Addr} (h : H' a = none) : H a = none := by
  cases e : H a with
  | none => rfl
  | some o => rw [s _ _ e] at h; cases h
theorem sc_write_pairs : FnScope ["pairs", "parts", "key", "value"] ["pairs"] (defScope s_write_pairs) := ⟨rfl, rfl, rfl, by decide +kernel, rfl, by decide +kernel, by decide +kernel⟩
theorem ok_write_pairs (T : Tx K mg) {deep k : Nat} (hk : 2 ≤ k) (cw : Cal P w K mg base "write_parts" k ["value"] (spPartsW (deep + 1))) : Cal P w K mg base "write_pairs" (k + 1) ["pairs"] (spPairsW deep) := by
  obtain ⟨fd, F⟩ := T.F_write_pairs
  refine ⟨_, fd, F.ok sc_write_pairs (fun vs H Q E h => ?_) (fun cdv A outer s H vs Q E hr h => ?_), T.g_write_pairs, F.kp, F.binds fun _ _ _ _ _ _ us hl => match us, hl with | [_], _ => rfl⟩
  · obtain ⟨_, t, us, ps, rfl, _⟩ := h
    rfl
  · obtain ⟨_, t, us, ps, rfl, ht, hps, hlen, hok, hsz, q⟩ := h
    have hr1 : Room 1 _ := hr.mono (by omega)
    have hr2 : Room 2 _ := hr.mono hk
    refine ⟨_, pss_cons (ps_setLc (i := 1) (own := [("key", 2), ("value", 3)]) (g := gTup K 2 (gCons (gName 2) (gCons (gName 3) gNil))) (tt := tYes) rfl sc_write_pairs.nd rfl rfl (sw_true rfl rfl rfl (by decide +kernel)) (pi_tup (pv 0))
          (blkOk_by (own := [("key", 2), ("value", 3)]) (N := ["pairs", "parts", "key", "value"]) (sc := defScope s_write_pairs) (by decide +kernel))
          (fun _ _ _ _ _ => pg_tup (by rfl) (pgs_cons (pg_name (i := 2) sc_write_pairs.nd rfl (.inl rfl)) (pgs_cons (pg_name (i := 3) sc_write_pairs.nd rfl (.inl rfl)) pgs_nil))) (fun _ _ _ _ _ => pts_nil)
          (fun _ _ _ _ _ => pe_lst (pa_starK (K' := K) rfl (pe_cal (ok_write_name T) hr2 (pa_cons (pv 2) pa_nil)) (pa_cons (pe_gi T.i_SPACE) (pa_starK (K' := K) rfl (pe_cal cw hr (pa_cons (pv 3) pa_nil)) pa_nil)))))
      (pss_one (ps_ret (pe_op op_cat (pe_op op_cat (pe_cal (ok_codes T) hr1 (pa_cons pe_str pa_nil)) (pe_cal (ok_join T) hr1 (pa_cons (pv 1) pa_nil))) (pe_cal (ok_codes T) hr1 (pa_cons pe_str pa_nil))))), ?_⟩
    have hul := hps.len
    refine ⟨_, rfl, t, rfl, ⟨_, SqT.of ht⟩, fun D nD => ?_⟩
    refine lc_tup (K := K) (a := t) (xs := us) (fun j H3 => Same H H3 ∧ j ≤ us.length ∧ ∃ vs, H3 D = some (.lst vs) ∧ RepJ H3 vs ((wParts ps).take j) ∧ ∀ a, V.ref a ∈ vs → a ≠ D) ⟨same_new nD, Nat.zero_le _, [], upd_same, .nil, fun a h => by cases h⟩ (fun j H3 _ ⟨s3, _⟩ => SqT.of (s3 _ _ ht)) ?_ ?_
    · rintro j x H3 hx ⟨s3, hj, vs, hvs, hJ, hnD⟩
      obtain ⟨qa, kq, y, ky, v, rfl, hpi, hq, hkq, rep⟩ := (hps.keep (TK.of s3)).get hx
      obtain ⟨okk, okv⟩ := okP_get hok hpi
      have hpart := wParts_get hpi
      have hpl := part_le hpart
      have hjl := (List.getElem?_eq_some_iff.mp hx).1
      simp only [List.length_append, List.length_cons, List.length_nil] at hpl
      refine ⟨qa, _, rfl, SqT.of hq, rfl, _, _, rfl, _, _, rfl, rfl, rfl, _, rfl, kq, ky, rfl, hkq, okk, fun n H4 nn s4 hn => ?_⟩
      refine ⟨n, _, rfl, .inr (SqL.of hn), _, rfl, y, v, rfl, Rep.keep (TK.of s4) rep, okv, by omega, fun r H5 nr s5 hrr => ?_⟩
      refine ⟨r, _, rfl, .inr (SqL.of hrr), ?_, fun z nz => ?_⟩
      · simp only [List.length_append, List.length_cons, List.length_map, List.length_nil]
        exact Nat.le_trans (show _ ≤ 400000 by omega) (by decide)
      have sZ := same_new (o := .lst ((wName ky).map V.int ++ V.int 32 :: ((wVal v).map V.int ++ []))) nz
      have hZ : (upd H5 z (.lst ((wName ky).map V.int ++ V.int 32 :: ((wVal v).map V.int ++ [])))) z = some (.lst ((wName ky ++ [32] ++ wVal v).map V.int)) := upd_same.trans (by simp)
      generalize upd H5 z (.lst ((wName ky).map V.int ++ V.int 32 :: ((wVal v).map V.int ++ []))) = H6 at sZ hZ
      have s36 : Same H3 H6 := s4.trans (s5.trans sZ)
      have hvs6 := s36 _ _ hvs
      have nDz : z ≠ D := fun e => by
        rw [e] at nz
        have := (s4.trans s5) _ _ hvs
        rw [nz] at this
        cases this
      have hvl := hJ.len
      rw [List.length_take, wParts_len] at hvl
      refine ⟨vs, hvs6, line_big (by omega), fun c o e => ?_, by omega, vs ++ [.ref z], upd_same, ?_, ?_⟩
      · rw [upd_ne (ne_of_none e nD)]
        exact s36 _ _ (s3 c o e)
      · rw [List.take_add_one, hpart]
        have keep : ∀ b o, H6 b = some o → b ≠ D → (upd H6 D (.lst (vs ++ [.ref z]))) b = some o := fun b o e n => by rw [upd_ne n]; exact e
        exact RepJ.snoc ((hJ.keep s36).but keep hnD) (keep _ _ hZ nDz)
      · intro a ha
        rcases List.mem_append.mp ha with h | h
        · exact hnD a h
        · have e := List.mem_singleton.mp h
          injection e with e
          rw [e]
          exact nDz
    · rintro H3 ⟨s3, _, vs, hvs, hJ, hnD⟩
      rw [hul, ← wParts_len, List.take_length] at hJ
      refine ⟨"<<", rfl, by decide +kernel, fun a H4 na s4 ha => ?_⟩
      have ha' : H4 a = some (.lst (([60, 60] : List Int).map V.int)) := ha.trans (by rw [show cod "<<" = [60, 60] by decide +kernel])
      refine ⟨_, rfl, D, vs, wParts ps, rfl, SqL.of (s4 _ _ hvs), hJ.keep s4, hsz, fun b H5 nb s5 hb => ?_⟩
      refine ⟨a, b, _, _, rfl, rfl, s5 _ _ ha', hb, ?_, fun c nc => ?_⟩
      · rw [List.length_map, List.length_map]
        exact Nat.le_trans (show _ ≤ 400002 by simp only [List.length_cons, List.length_nil]; omega) (by decide)
      have sC := same_new (o := .lst (([60, 60] : List Int).map V.int ++ (joinSp (wParts ps)).map V.int)) nc
      have hC : (upd H5 c (.lst (([60, 60] : List Int).map V.int ++ (joinSp (wParts ps)).map V.int))) c = some (.lst (([60, 60] ++ joinSp (wParts ps)).map V.int)) := upd_same.trans (by simp)
      generalize upd H5 c (.lst (([60, 60] : List Int).map V.int ++ (joinSp (wParts ps)).map V.int)) = H6 at sC hC
      refine ⟨">>", rfl, by decide +kernel, fun e H7 ne s7 he => ?_⟩
      have he' : H7 e = some (.lst (([62, 62] : List Int).map V.int)) := he.trans (by rw [show cod ">>" = [62, 62] by decide +kernel])
      refine ⟨c, e, _, _, rfl, rfl, s7 _ _ hC, he', ?_, fun g ng => ?_⟩
      · rw [List.length_map, List.length_map, List.length_append]
        exact Nat.le_trans (show _ ≤ 400004 by simp only [List.length_cons, List.length_nil]; omega) (by decide)
      have sA : Same H H7 := s3.trans (s4.trans (s5.trans (sC.trans s7)))
      exact q g _ (fresh_of sA ng) (sA.trans (same_new ng)) (upd_same.trans (by simp))
end
end K22

set_option maxHeartbeats 4000000
/-! write_parts (printed by gen_w4.py) -/
namespace K22
open PySem PySem.Spec PyProof.Rows L2
theorem ndig_len {n k : Nat} (hk : 0 < k) (h : n < 10 ^ k) : (ndig n).length ≤ k := by
  rw [← numL_ndig, List.length_map]
  exact TL.numL_len hk h
theorem decs_len {n : Int} (h1 : -9999999999 ≤ n) (h2 : n ≤ 9999999999) : (decs n).length ≤ 11 := by
  have h := ndig_len (n := n.natAbs) (k := 10) (by decide) (by omega)
  unfold decs
  split
  · rw [List.length_cons]; omega
  · omega
theorem log2_ok {n : Int} (h1 : -9999999999 ≤ n) (h2 : n ≤ 9999999999) : n.natAbs.log2 < 1920 := by
  by_cases h : n.natAbs = 0
  · rw [h]; decide
  · rw [Nat.log2_lt h]
    exact Nat.lt_of_lt_of_le (show n.natAbs < 2 ^ 64 by omega) (Nat.pow_le_pow_right (by decide) (by decide))
section
variable {P : Program} {w : World} {K : PySem.W.Frag} {mg : Str → Option Value} {base : Heap}
def spPartsN (deep : Nat) : Sp := fun vs H Q E => deep < 16 ∧ spPartsW (deep + 1) vs H Q E
theorem sc_write_parts : FnScope ["value", "kind", "found", "one"] ["value"] (defScope s_write_parts) := ⟨rfl, rfl, rfl, by decide +kernel, rfl, by decide +kernel, by decide +kernel⟩
theorem ok_write_parts (T : Tx K mg) {deep k : Nat} (hk : 2 ≤ k) (cw : Cal P w K mg base "write_parts" k ["value"] (spPartsN deep)) (cp : Cal P w K mg base "write_pairs" k ["pairs"] (spPairsW deep)) : Cal P w K mg base "write_parts" (k + 1) ["value"] (spPartsW deep) := by
  obtain ⟨fd, F⟩ := T.F_write_parts
  refine ⟨_, fd, F.ok sc_write_parts (fun vs H Q E h => ?_) (fun cdv A outer s H vs Q E hr h => ?_), T.g_write_parts, F.kp, F.binds fun _ _ _ _ _ _ us hl => match us, hl with | [_], _ => rfl⟩
  · obtain ⟨u, v, rfl, _⟩ := h
    rfl
  · obtain ⟨u, v, rfl, hrep, hok, hsz, q⟩ := h
    have hr1 : Room 1 _ := hr.mono (by omega)
    have hr2 : Room 2 _ := hr.mono hk
    refine ⟨_, pss_cons (ps_set (i := 1) sc_write_parts.nd rfl (.inl rfl) (pe_ix ix_tup (pv 0) pe_int (fun _ _ => rfl)))
      (pss_cons (ps_if (pt_cmpR op_eq (pv 1) pe_str (nomark _)) (pss_one (ps_ret (pe_cal (ok_codes T) hr1 (pa_cons pe_str pa_nil)))) pss_nil)
      (pss_cons (ps_if (pt_cmpR op_eq (pv 1) pe_str (nomark _)) (pss_one (ps_ret (pe_cal (ok_codes T) hr1 (pa_cons (pe_ifExp (pt_cmpR op_eq (pe_ix ix_tup (pv 0) pe_int (fun _ _ => rfl)) pe_int (nomark _)) pe_str pe_str) pa_nil)))) pss_nil)
      (pss_cons (ps_if (pt_cmpR op_eq (pv 1) pe_str (nomark _)) (pss_one (ps_ret (pe_cal (ok_codes T) hr1 (pa_cons (pe_callTy call_str_int (by rfl) T.fr_str (by decide +kernel) (pa_cons (pe_ix ix_tup (pv 0) pe_int (fun _ _ => rfl)) pa_nil)) pa_nil)))) pss_nil)
      (pss_cons (ps_if (pt_cmpR op_eq (pv 1) pe_str (nomark _)) (pss_one (ps_ret (pe_cal (ok_codes T) hr1 (pa_cons (pe_op op_add_str pe_str (pe_callTy call_str_int (by rfl) T.fr_str (by decide +kernel) (pa_cons (pe_ix ix_tup (pv 0) pe_int (fun _ _ => rfl)) pa_nil))) pa_nil)))) pss_nil)
      (pss_cons (ps_if (pt_cmpR op_eq (pv 1) pe_str (nomark _)) (pss_one (ps_ret (pe_cal (ok_write_name T) hr2 (pa_cons (pe_ix ix_tup (pv 0) pe_int (fun _ _ => rfl)) pa_nil)))) pss_nil)
      (pss_cons (ps_if (pt_cmpR op_eq (pv 1) pe_str (nomark _)) (pss_one (ps_ret (pe_cal (ok_write_text T) hr2 (pa_cons (pe_ix ix_tup (pv 0) pe_int (fun _ _ => rfl)) pa_nil)))) pss_nil)
      (pss_cons (ps_if (pt_cmpR op_eq (pv 1) pe_str (nomark _)) (pss_one (ps_ret (pe_op op_cat (pe_op op_cat (pe_cal (ok_codes T) hr1 (pa_cons pe_str pa_nil)) (pe_cal (ok_join T) hr1 (pa_cons (pe_lc (own := [("one", 3)]) (g := gName 3) (tt := tYes) rfl sc_write_parts.nd (pi_tup (pe_ix ix_tup (pv 0) pe_int (fun _ _ => rfl)))
            (blkOk_by (own := [("one", 3)]) (N := ["value", "kind", "found", "one"]) (sc := defScope s_write_parts) (by decide +kernel))
            (fun _ _ _ _ _ => pg_name (i := 3) sc_write_parts.nd rfl (Or.inl rfl)) (fun _ _ _ _ _ => pts_nil) (fun _ _ _ _ _ => pe_cal cw hr (pa_cons (pv 3) pa_nil))) pa_nil))) (pe_cal (ok_codes T) hr1 (pa_cons pe_str pa_nil))))) pss_nil)
      (pss_cons (ps_set (i := 2) sc_write_parts.nd rfl (.inl rfl) (pe_cal cp hr (pa_cons (pe_ix ix_tup (pv 0) pe_int (fun _ _ => rfl)) pa_nil)))
      (pss_cons (ps_if (pt_cmpR op_eq (pv 1) pe_str (nomark _)) (pss_one (ps_set (i := 2) sc_write_parts.nd rfl (.inl rfl) (pe_op op_cat (pe_op op_cat (pe_op op_cat (pv 2) (pe_cal (ok_codes T) hr1 (pa_cons (pe_op op_add_str (pe_op op_add_str pe_str (pe_callTy call_str_int (by rfl) T.fr_str (by decide +kernel) (pa_cons (pe_callB call_len_seq (by rfl) T.fr_len PySem.boot_len (pa_cons (pe_ix ix_tup (pv 0) pe_int (fun _ _ => rfl)) pa_nil)) pa_nil))) pe_str) pa_nil)))
          (pe_callTy call_list_of (by rfl) T.fr_list (by decide +kernel) (pa_cons (pe_ix ix_tup (pv 0) pe_int (fun _ _ => rfl)) pa_nil))) (pe_cal (ok_codes T) hr1 (pa_cons pe_str pa_nil))))) pss_nil)
      (pss_one (ps_ret (pv 2)))))))))))), ?_⟩
    cases hrep with
    | none ha =>
      rename_i a
      refine ⟨_, rfl, a, _, _, _, rfl, rfl, SqT.of ha, atI_nat (j := 0) rfl, ?_⟩
      refine ⟨_, rfl, rfl, _, rfl, ifT (by decide +kernel) ?_⟩
      exact ⟨"none", rfl, by decide +kernel, fun r H1 nr s1 hr => q r H1 nr s1 (hr.trans (by rw [show cod "none" = wNONE by decide +kernel]; rfl))⟩
    | bool ha =>
      rename_i a b
      refine ⟨_, rfl, a, _, _, _, rfl, rfl, SqT.of ha, atI_nat (j := 0) rfl, ?_⟩
      refine ⟨_, rfl, rfl, _, rfl, ifF (by decide +kernel) ?_⟩
      refine ⟨_, rfl, rfl, _, rfl, ifT (by decide +kernel) ?_⟩
      cases b with
      | true => exact ⟨_, rfl, a, _, _, _, rfl, rfl, SqT.of ha, atI_nat (j := 1) rfl, rfl, _, rfl, iteT ⟨"true", rfl, by decide +kernel, fun r H1 nr s1 hr => q r H1 nr s1 (hr.trans (by rw [show cod "true" = wTRUE by decide +kernel]; rfl))⟩⟩
      | false => exact ⟨_, rfl, a, _, _, _, rfl, rfl, SqT.of ha, atI_nat (j := 1) rfl, rfl, _, rfl, iteF ⟨"false", rfl, by decide +kernel, fun r H1 nr s1 hr => q r H1 nr s1 (hr.trans (by rw [show cod "false" = wFALSE by decide +kernel]; rfl))⟩⟩
    | int ha =>
      rename_i a n
      have hb : -2147483647 ≤ n ∧ n ≤ 2147483647 := hok
      have hdl := decs_len (n := n) (by omega) (by omega)
      refine ⟨_, rfl, a, _, _, _, rfl, rfl, SqT.of ha, atI_nat (j := 0) rfl, ?_⟩
      refine ⟨_, rfl, rfl, _, rfl, ifF (by decide +kernel) ?_⟩
      refine ⟨_, rfl, rfl, _, rfl, ifF (by decide +kernel) ?_⟩
      refine ⟨_, rfl, rfl, _, rfl, ifT (by decide +kernel) ?_⟩
      refine ⟨_, rfl, a, _, _, _, rfl, rfl, SqT.of ha, atI_nat (j := 1) rfl, n, rfl, log2_ok (by omega) (by omega), _, rfl, ?_, fun r H1 nr s1 hr => q r H1 nr s1 (hr.trans (by rw [cod_num]; rfl))⟩
      rw [← cod_len, cod_num]
      omega
    | ref ha =>
      rename_i a n
      have hb : 1 ≤ n ∧ n ≤ 9999 := hok
      have hdl := decs_len (n := n) (by omega) (by omega)
      have hsz := cod_len (Str.ofString (toString n))
      rw [cod_num] at hsz
      refine ⟨_, rfl, a, _, _, _, rfl, rfl, SqT.of ha, atI_nat (j := 0) rfl, ?_⟩
      refine ⟨_, rfl, rfl, _, rfl, ifF (by decide +kernel) ?_⟩
      refine ⟨_, rfl, rfl, _, rfl, ifF (by decide +kernel) ?_⟩
      refine ⟨_, rfl, rfl, _, rfl, ifF (by decide +kernel) ?_⟩
      refine ⟨_, rfl, rfl, _, rfl, ifT (by decide +kernel) ?_⟩
      refine ⟨_, rfl, a, _, _, _, rfl, rfl, SqT.of ha, atI_nat (j := 1) rfl, n, rfl, log2_ok (by omega) (by omega), _, _, rfl, rfl, ?_, _, rfl, ?_, fun r H1 nr s1 hr => q r H1 nr s1 (hr.trans (by rw [cod_append, cod_num, show cod "@" = [64] by decide +kernel]; rfl))⟩
      · exact Nat.le_trans (show ("@" : Str).cps.size + (Str.ofString (toString n)).cps.size ≤ 100 by rw [← hsz, show ("@" : Str).cps.size = 1 by decide +kernel]; omega) (by decide)
      · rw [← cod_len, cod_append, cod_num, List.length_append, show (cod "@").length = 1 by decide +kernel]
        omega
    | name ha ht =>
      rename_i a t d
      have hb : okD d := hok
      refine ⟨_, rfl, a, _, _, _, rfl, rfl, SqT.of ha, atI_nat (j := 0) rfl, ?_⟩
      refine ⟨_, rfl, rfl, _, rfl, ifF (by decide +kernel) ?_⟩
      refine ⟨_, rfl, rfl, _, rfl, ifF (by decide +kernel) ?_⟩
      refine ⟨_, rfl, rfl, _, rfl, ifF (by decide +kernel) ?_⟩
      refine ⟨_, rfl, rfl, _, rfl, ifF (by decide +kernel) ?_⟩
      refine ⟨_, rfl, rfl, _, rfl, ifT (by decide +kernel) ?_⟩
      exact ⟨_, rfl, a, _, _, _, rfl, rfl, SqT.of ha, atI_nat (j := 1) rfl, t, d, rfl, ht, hb, fun r H1 nr s1 hr => q r H1 nr s1 hr⟩
    | text ha ht =>
      rename_i a t d
      have hb : okD d := hok
      refine ⟨_, rfl, a, _, _, _, rfl, rfl, SqT.of ha, atI_nat (j := 0) rfl, ?_⟩
      refine ⟨_, rfl, rfl, _, rfl, ifF (by decide +kernel) ?_⟩
      refine ⟨_, rfl, rfl, _, rfl, ifF (by decide +kernel) ?_⟩
      refine ⟨_, rfl, rfl, _, rfl, ifF (by decide +kernel) ?_⟩
      refine ⟨_, rfl, rfl, _, rfl, ifF (by decide +kernel) ?_⟩
      refine ⟨_, rfl, rfl, _, rfl, ifF (by decide +kernel) ?_⟩
      refine ⟨_, rfl, rfl, _, rfl, ifT (by decide +kernel) ?_⟩
      exact ⟨_, rfl, a, _, _, _, rfl, rfl, SqT.of ha, atI_nat (j := 1) rfl, t, d, rfl, ht, hb, fun r H1 nr s1 hr => q r H1 nr s1 hr⟩
    | list ha ht hl =>
      rename_i a t us vs
      have hb : deep < 16 ∧ vs.length ≤ 100000 ∧ okL (deep + 1) vs := hok
      have hsz2 : (joinSp (wVals vs)).length + 2 ≤ 400000 := by
        have e : wVal (.list vs) = [91] ++ joinSp (wVals vs) ++ [93] := by
          unfold wVal
          rfl
        rw [e] at hsz
        simp only [List.length_append, List.length_cons, List.length_nil] at hsz
        omega
      refine ⟨_, rfl, a, _, _, _, rfl, rfl, SqT.of ha, atI_nat (j := 0) rfl, ?_⟩
      refine ⟨_, rfl, rfl, _, rfl, ifF (by decide +kernel) ?_⟩
      refine ⟨_, rfl, rfl, _, rfl, ifF (by decide +kernel) ?_⟩
      refine ⟨_, rfl, rfl, _, rfl, ifF (by decide +kernel) ?_⟩
      refine ⟨_, rfl, rfl, _, rfl, ifF (by decide +kernel) ?_⟩
      refine ⟨_, rfl, rfl, _, rfl, ifF (by decide +kernel) ?_⟩
      refine ⟨_, rfl, rfl, _, rfl, ifF (by decide +kernel) ?_⟩
      refine ⟨_, rfl, rfl, _, rfl, ifT (by decide +kernel) ?_⟩
      refine ⟨"[", rfl, by decide +kernel, fun c H1 nc s1 hc => ?_⟩
      have hc' : H1 c = some (.lst (([91] : List Int).map V.int)) := hc.trans (by rw [show cod "[" = [91] by decide +kernel])
      refine ⟨_, rfl, a, _, _, _, rfl, rfl, SqT.of (s1 _ _ ha), atI_nat (j := 1) rfl, t, rfl, ⟨_, SqT.of (s1 _ _ ht)⟩, fun D nD => ?_⟩
      have hul := hl.len
      refine lc_tup (K := K) (a := t) (xs := us) (fun j H3 => Same H1 H3 ∧ j ≤ us.length ∧ ∃ ws, H3 D = some (.lst ws) ∧ RepJ H3 ws ((wVals vs).take j) ∧ ∀ a, V.ref a ∈ ws → a ≠ D) ⟨same_new nD, Nat.zero_le _, [], upd_same, .nil, fun a h => by cases h⟩ (fun j H3 _ ⟨s3, _⟩ => SqT.of (s3 _ _ (s1 _ _ ht))) ?_ ?_
      · rintro j x H3 hx ⟨s3, hj, ws, hws, hJ, hnD⟩
        obtain ⟨v, hv, rep⟩ := (hl.keep (TK.of (s1.trans s3))).get hx
        have hpart := wVals_get hv
        have hpl := part_le hpart
        have hjl := (List.getElem?_eq_some_iff.mp hx).1
        refine ⟨rfl, _, rfl, hb.1, x, v, rfl, rep, okL_get hb.2.2 hv, by omega, fun z H4 nz s4 hz => ?_⟩
        have nDz : z ≠ D := fun e => by
          rw [e] at nz
          rw [nz] at hws
          cases hws
        have hws4 := s4 _ _ hws
        have hvl := hJ.len
        rw [List.length_take, wVals_len] at hvl
        refine ⟨ws, hws4, line_big (by omega), fun b o e => ?_, by omega, ws ++ [.ref z], upd_same, ?_, ?_⟩
        · rw [upd_ne (ne_of_none e nD)]
          exact s4 _ _ (s3 b o e)
        · rw [List.take_add_one, hpart]
          have keep : ∀ b o, H4 b = some o → b ≠ D → (upd H4 D (.lst (ws ++ [.ref z]))) b = some o := fun b o e n => by rw [upd_ne n]; exact e
          exact RepJ.snoc ((hJ.keep s4).but keep hnD) (keep _ _ hz nDz)
        · intro b hb2
          rcases List.mem_append.mp hb2 with h | h
          · exact hnD b h
          · have e := List.mem_singleton.mp h
            injection e with e
            rw [e]
            exact nDz
      · rintro H3 ⟨s3, _, ws, hws, hJ, hnD⟩
        rw [hul, ← wVals_len, List.take_length] at hJ
        refine ⟨D, ws, wVals vs, rfl, SqL.of hws, hJ, by omega, fun b H5 nb s5 hbb => ?_⟩
        have s15 := s3.trans s5
        refine ⟨c, b, _, _, rfl, rfl, s15 _ _ hc', hbb, ?_, fun e ne => ?_⟩
        · rw [List.length_map, List.length_map]
          exact Nat.le_trans (show _ ≤ 400002 by simp only [List.length_cons, List.length_nil]; omega) (by decide)
        have sC := same_new (o := .lst (([91] : List Int).map V.int ++ (joinSp (wVals vs)).map V.int)) ne
        have hC : (upd H5 e (.lst (([91] : List Int).map V.int ++ (joinSp (wVals vs)).map V.int))) e = some (.lst (([91] ++ joinSp (wVals vs)).map V.int)) := upd_same.trans (by simp)
        generalize upd H5 e (.lst (([91] : List Int).map V.int ++ (joinSp (wVals vs)).map V.int)) = H6 at sC hC
        refine ⟨"]", rfl, by decide +kernel, fun g H7 ng s7 hg => ?_⟩
        have hg' : H7 g = some (.lst (([93] : List Int).map V.int)) := hg.trans (by rw [show cod "]" = [93] by decide +kernel])
        refine ⟨e, g, _, _, rfl, rfl, s7 _ _ hC, hg', ?_, fun m nm => ?_⟩
        · rw [List.length_map, List.length_map, List.length_append]
          exact Nat.le_trans (show _ ≤ 400004 by simp only [List.length_cons, List.length_nil]; omega) (by decide)
        have sA : Same H H7 := s1.trans (s15.trans (sC.trans s7))
        refine q m _ (fresh_of sA nm) (sA.trans (same_new nm)) (upd_same.trans ?_)
        have e2 : wVal (.list vs) = [91] ++ joinSp (wVals vs) ++ [93] := by
          unfold wVal
          rfl
        rw [e2]
        simp
    | dict ha ht hp =>
      rename_i a t us ps
      have hb : deep < 16 ∧ ps.length ≤ 100000 ∧ (ps.map (·.1)).Nodup ∧ okP (deep + 1) ps := hok
      have e2 : wVal (.dict ps) = [60, 60] ++ joinSp (wParts ps) ++ [62, 62] := by
        unfold wVal
        rfl
      rw [e2] at hsz q
      simp only [List.length_append, List.length_cons, List.length_nil] at hsz
      refine ⟨_, rfl, a, _, _, _, rfl, rfl, SqT.of ha, atI_nat (j := 0) rfl, ?_⟩
      refine ⟨_, rfl, rfl, _, rfl, ifF (by decide +kernel) ?_⟩
      refine ⟨_, rfl, rfl, _, rfl, ifF (by decide +kernel) ?_⟩
      refine ⟨_, rfl, rfl, _, rfl, ifF (by decide +kernel) ?_⟩
      refine ⟨_, rfl, rfl, _, rfl, ifF (by decide +kernel) ?_⟩
      refine ⟨_, rfl, rfl, _, rfl, ifF (by decide +kernel) ?_⟩
      refine ⟨_, rfl, rfl, _, rfl, ifF (by decide +kernel) ?_⟩
      refine ⟨_, rfl, rfl, _, rfl, ifF (by decide +kernel) ?_⟩
      refine ⟨_, rfl, a, _, _, _, rfl, rfl, SqT.of ha, atI_nat (j := 1) rfl, hb.1, t, us, ps, rfl, ht, hp, hb.2.1, hb.2.2.2, by omega, fun f H1 nf s1 hf => ?_⟩
      refine ⟨_, rfl, rfl, _, rfl, ifF (by decide +kernel) ?_⟩
      exact ⟨_, rfl, q f H1 nf s1 hf⟩
    | stream ha ht hp he =>
      rename_i a t e us ps d
      have hb : deep < 16 ∧ ps.length ≤ 100000 ∧ (ps.map (·.1)).Nodup ∧ okP (deep + 1) ps ∧ okD d := hok
      have e2 : wVal (.stream ps d) = ([60, 60] ++ joinSp (wParts ps) ++ [62, 62]) ++ ([123] ++ decs (d.length : Int) ++ [125]) ++ d ++ [123, 125] := by
        unfold wVal
        rfl
      rw [e2] at hsz q
      simp only [List.length_append, List.length_cons, List.length_nil] at hsz
      have hd1 := hb.2.2.2.2.2
      have hdl := decs_len (n := (d.length : Int)) (by omega) (by omega)
      have hs1 := cod_len (Str.ofString (toString (d.length : Int)))
      rw [cod_num] at hs1
      refine ⟨_, rfl, a, _, _, _, rfl, rfl, SqT.of ha, atI_nat (j := 0) rfl, ?_⟩
      refine ⟨_, rfl, rfl, _, rfl, ifF (by decide +kernel) ?_⟩
      refine ⟨_, rfl, rfl, _, rfl, ifF (by decide +kernel) ?_⟩
      refine ⟨_, rfl, rfl, _, rfl, ifF (by decide +kernel) ?_⟩
      refine ⟨_, rfl, rfl, _, rfl, ifF (by decide +kernel) ?_⟩
      refine ⟨_, rfl, rfl, _, rfl, ifF (by decide +kernel) ?_⟩
      refine ⟨_, rfl, rfl, _, rfl, ifF (by decide +kernel) ?_⟩
      refine ⟨_, rfl, rfl, _, rfl, ifF (by decide +kernel) ?_⟩
      refine ⟨_, rfl, a, _, _, _, rfl, rfl, SqT.of ha, atI_nat (j := 1) rfl, hb.1, t, us, ps, rfl, ht, hp, hb.2.1, hb.2.2.2.1, by omega, fun f H1 nf s1 hf => ?_⟩
      refine ⟨_, rfl, rfl, _, rfl, ifT (by decide +kernel) ?_⟩
      have eL : (((d.map V.int).length : Nat) : Int) = (d.length : Int) := by rw [List.length_map]
      refine ⟨_, rfl, _, rfl, a, _, _, _, rfl, rfl, SqT.of (s1 _ _ ha), atI_nat (j := 2) rfl, e, _, rfl, .inr (SqT.of (s1 _ _ he)), ?_⟩
      rw [eL]
      refine ⟨(d.length : Int), rfl, log2_ok (by omega) (by omega), _, _, rfl, rfl, ?_, _, _, rfl, rfl, ?_, _, rfl, ?_, fun c H2 nc s2 hc => ?_⟩
      · exact Nat.le_trans (show ("{" : Str).cps.size + (Str.ofString (toString (d.length : Int))).cps.size ≤ 100 by rw [← hs1, show ("{" : Str).cps.size = 1 by decide +kernel]; omega) (by decide)
      · refine Nat.le_trans (show ("{" ++ Str.ofString (toString (d.length : Int)) : Str).cps.size + ("}" : Str).cps.size ≤ 100 from ?_) (by decide)
        rw [← cod_len, cod_append, cod_num, List.length_append, show (cod "{").length = 1 by decide +kernel, show ("}" : Str).cps.size = 1 by decide +kernel]
        omega
      · rw [← cod_len, cod_append, cod_append, cod_num, List.length_append, List.length_append, show (cod "{").length = 1 by decide +kernel, show (cod "}").length = 1 by decide +kernel]
        omega
      have hc' : H2 c = some (.lst (([123] ++ decs (d.length : Int) ++ [125]).map V.int)) := hc.trans (by rw [cod_append, cod_append, cod_num, show cod "{" = [123] by decide +kernel, show cod "}" = [125] by decide +kernel])
      refine ⟨f, c, _, _, rfl, rfl, s2 _ _ hf, hc', ?_, fun g ng => ?_⟩
      · rw [List.length_map, List.length_map]
        exact Nat.le_trans (show _ ≤ 400100 by simp only [List.length_append, List.length_cons, List.length_nil]; omega) (by decide)
      have sG := same_new (o := .lst (([60, 60] ++ joinSp (wParts ps) ++ [62, 62]).map V.int ++ ([123] ++ decs (d.length : Int) ++ [125]).map V.int)) ng
      have hG : (upd H2 g (.lst (([60, 60] ++ joinSp (wParts ps) ++ [62, 62]).map V.int ++ ([123] ++ decs (d.length : Int) ++ [125]).map V.int))) g = some (.lst ((([60, 60] ++ joinSp (wParts ps) ++ [62, 62]) ++ ([123] ++ decs (d.length : Int) ++ [125])).map V.int)) := upd_same.trans (by rw [List.map_append (l₁ := [60, 60] ++ joinSp (wParts ps) ++ [62, 62])])
      generalize upd H2 g (.lst (([60, 60] ++ joinSp (wParts ps) ++ [62, 62]).map V.int ++ ([123] ++ decs (d.length : Int) ++ [125]).map V.int)) = H3 at sG hG
      have s03 : Same H H3 := s1.trans (s2.trans sG)
      refine ⟨_, rfl, a, _, _, _, rfl, rfl, SqT.of (s03 _ _ ha), atI_nat (j := 2) rfl, e, _, rfl, .inr (SqT.of (s03 _ _ he)), fun l nl => ?_⟩
      have sL := same_new (o := .lst (d.map V.int)) nl
      have hL : (upd H3 l (.lst (d.map V.int))) l = some (.lst (d.map V.int)) := upd_same
      generalize upd H3 l (.lst (d.map V.int)) = H4 at sL hL
      refine ⟨g, l, _, _, rfl, rfl, sL _ _ hG, hL, ?_, fun m nm => ?_⟩
      · rw [List.length_map, List.length_map]
        exact Nat.le_trans (show _ ≤ 600100 by simp only [List.length_append, List.length_cons, List.length_nil]; omega) (by decide)
      have sM := same_new (o := .lst ((([60, 60] ++ joinSp (wParts ps) ++ [62, 62]) ++ ([123] ++ decs (d.length : Int) ++ [125])).map V.int ++ d.map V.int)) nm
      have hM : (upd H4 m (.lst ((([60, 60] ++ joinSp (wParts ps) ++ [62, 62]) ++ ([123] ++ decs (d.length : Int) ++ [125])).map V.int ++ d.map V.int))) m = some (.lst ((([60, 60] ++ joinSp (wParts ps) ++ [62, 62]) ++ ([123] ++ decs (d.length : Int) ++ [125]) ++ d).map V.int)) := upd_same.trans (by rw [List.map_append (l₂ := d)])
      generalize upd H4 m (.lst ((([60, 60] ++ joinSp (wParts ps) ++ [62, 62]) ++ ([123] ++ decs (d.length : Int) ++ [125])).map V.int ++ d.map V.int)) = H5 at sM hM
      refine ⟨"{}", rfl, by decide +kernel, fun o H6 no s6 ho => ?_⟩
      have ho' : H6 o = some (.lst (([123, 125] : List Int).map V.int)) := ho.trans (by rw [show cod "{}" = [123, 125] by decide +kernel])
      refine ⟨m, o, _, _, rfl, rfl, s6 _ _ hM, ho', ?_, fun y ny => ?_⟩
      · rw [List.length_map, List.length_map]
        exact Nat.le_trans (show _ ≤ 600100 by simp only [List.length_append, List.length_cons, List.length_nil]; omega) (by decide)
      have sA : Same H H6 := s03.trans (sL.trans (sM.trans s6))
      refine ⟨_, rfl, q y _ (fresh_of sA ny) (sA.trans (same_new ny)) (upd_same.trans ?_)⟩
      rw [← List.map_append]
end
end K22

set_option maxHeartbeats 4000000
/-! write_book -/
namespace K22
open PySem PySem.Spec PyProof.Rows L2
section
variable {P : Program} {w : World} {K : PySem.W.Frag} {mg : Str → Option Value} {base : Heap}
theorem no_parts (T : Tx K mg) {k : Nat} : Cal P w K mg base "write_parts" (k + 1) ["value"] (spPartsN 16) := by
  obtain ⟨fd, F⟩ := T.F_write_parts
  refine ⟨_, fd, F.ok (k := k) sc_write_parts (fun vs H Q E h => ?_) (fun cdv A outer s H vs Q E hr h => ?_), T.g_write_parts, F.kp, F.binds fun _ _ _ _ _ _ us hl => match us, hl with | [_], _ => rfl⟩
  · exact absurd h.1 (by decide)
  · exact absurd h.1 (by decide)
theorem no_pairsW (T : Tx K mg) {k : Nat} : Cal P w K mg base "write_pairs" (k + 1) ["pairs"] (spPairsW 16) := by
  obtain ⟨fd, F⟩ := T.F_write_pairs
  refine ⟨_, fd, F.ok (k := k) sc_write_pairs (fun vs H Q E h => ?_) (fun cdv A outer s H vs Q E hr h => ?_), T.g_write_pairs, F.kp, F.binds fun _ _ _ _ _ _ us hl => match us, hl with | [_], _ => rfl⟩
  · exact absurd h.1 (by decide)
  · exact absurd h.1 (by decide)
theorem ok_partss (T : Tx K mg) : ∀ j, j ≤ 16 → Cal P w K mg base "write_parts" (3 + 2 * j) ["value"] (spPartsW (16 - j))
  | 0, _ => ok_write_parts T (k := 2) (by decide) (no_parts T (k := 1)) (no_pairsW T (k := 1))
  | j + 1, h => by
    have ih := ok_partss T j (by omega)
    have e : 16 - j = 16 - (j + 1) + 1 := by omega
    rw [e] at ih
    have e2 : 3 + 2 * (j + 1) = 3 + 2 * j + 1 + 1 := by omega
    rw [e2]
    exact ok_write_parts T (by omega) ((ih.mono (by omega)).imp fun vs H Q E h => h.2) (ok_write_pairs T (by omega) ih)
theorem ok_parts0 (T : Tx K mg) : Cal P w K mg base "write_parts" 35 ["value"] (spPartsW 0) := ok_partss T 16 (by decide)
theorem flat_pre {α : Type} (f : α → List Int) : ∀ (l : List α) (i : Nat), ((l.take i).flatMap f).length ≤ (l.flatMap f).length := by
  intro l i
  conv => rhs; rw [← List.take_append_drop i l]
  rw [List.flatMap_append, List.length_append]
  omega
theorem flat_nextA {α : Type} (f : α → List Int) {l : List α} {i : Nat} {b : α} (h : l[i]? = some b) : (l.take (i + 1)).flatMap f = (l.take i).flatMap f ++ f b := by
  rw [List.take_add_one, h, List.flatMap_append]
  show _ ++ (f b ++ []) = _
  rw [List.append_nil]
def spWBook : Sp := fun vs H Q _ => ∃ (b a : Addr) (us : List V) (sobs : List (Int × Val)) (root : Int), vs = [.ref b] ∧ H b = some (.tup [.ref a, .int root]) ∧ H a = some (.tup us) ∧ RepB H us sobs ∧ OkB sobs root ∧ (wBook sobs root).length ≤ 400000 ∧
  ∀ r H', H r = none → Same H H' → H' r = some (.lst ((wBook sobs root).map V.int)) → Q (.ref r) H'
theorem sc_write_book : FnScope ["book", "found", "number", "value"] ["book"] (defScope s_write_book) := ⟨rfl, rfl, rfl, by decide +kernel, rfl, by decide +kernel, by decide +kernel⟩
theorem ok_write_book (T : Tx K mg) : Cal P w K mg base "write_book" 38 ["book"] spWBook := by
  obtain ⟨fd, F⟩ := T.F_write_book
  refine ⟨_, fd, F.ok sc_write_book (fun vs H Q E h => ?_) (fun cdv A outer s H vs Q E hr h => ?_), T.g_write_book, F.kp, F.binds fun _ _ _ _ _ _ us hl => match us, hl with | [_], _ => rfl⟩
  · obtain ⟨b, a, us, sobs, root, rfl, _⟩ := h
    rfl
  · obtain ⟨b, a, us, sobs, root, rfl, hb, ha, hB, ok, hlen, q⟩ := h
    have hr1 : Room 1 _ := hr.mono (by decide)
    have hr35 : Room 35 _ := hr.mono (by decide)
    refine ⟨_, pss_cons (ps_if (pt_not (pt_val (pe_cal (ok_is_book T) hr (pa_cons (pv 0) pa_nil)))) (pss_one ps_never) pss_nil)
      (pss_cons (ps_set (i := 1) sc_write_book.nd rfl (.inl rfl) (pe_lst (pa_cons pe_int (StX.pa_star (pe_cal (ok_codes T) hr1 (pa_cons pe_str pa_nil)) (pa_cons (pe_gi T.i_LINE_FEED) pa_nil)))))
      (pss_cons (ps_for PassesOwn.never rfl (pi_tup (pe_ix ix_tup (pv 0) pe_int (fun _ _ => rfl))) (pg_tup (by rfl) (pgs_cons (pg_name (i := 2) sc_write_book.nd rfl (.inl rfl)) (pgs_cons (pg_name (i := 3) sc_write_book.nd rfl (.inl rfl)) pgs_nil)))
        (pss_one (ps_expr (pe_bm PySem.F.plainAttrs_list PySem.F.slot_list_extend PySem.F.type_list_extend mt_extend (pv 1) (pa_cons (pe_lst (StX.pa_star (pe_cal (ok_codes T) hr1 (pa_cons (pe_op op_add_str pe_str (pe_callTy call_str_int (by rfl) T.fr_str (by decide +kernel) (pa_cons (pv 2) pa_nil))) pa_nil)) (pa_cons (pe_gi T.i_LINE_FEED) (StX.pa_star (pe_cal (ok_parts0 T) hr35 (pa_cons (pv 3) pa_nil)) (pa_cons (pe_gi T.i_LINE_FEED) pa_nil))))) pa_nil)))))
      (C8.pss_cut (ps_if (pt_cmpR op_gt (pe_ix ix_tup (pv 0) pe_int (fun _ _ => rfl)) pe_int (nomark _))
        (pss_one (ps_expr (pe_bm PySem.F.plainAttrs_list PySem.F.slot_list_extend PySem.F.type_list_extend mt_extend (pv 1) (pa_cons (pe_lst (StX.pa_star (pe_cal (ok_codes T) hr1 (pa_cons (pe_op op_add_str pe_str (pe_callTy call_str_int (by rfl) T.fr_str (by decide +kernel) (pa_cons (pe_ix ix_tup (pv 0) pe_int (fun _ _ => rfl)) pa_nil))) pa_nil)) (pa_cons (pe_gi T.i_LINE_FEED) pa_nil))) pa_nil)))) pss_nil)
      (pss_one (ps_ret (pv 1)))))), ?_⟩
    refine ⟨_, rfl, b, a, us, sobs, root, rfl, hb, ha, hB, ok, fun H1 s1 => ⟨_, rfl, iteF ?_⟩⟩
    refine ⟨"FOL", rfl, by decide +kernel, fun c H2 nc s2 hc => ?_⟩
    have hc' : H2 c = some (.lst (([70, 79, 76] : List Int).map V.int)) := hc.trans (by rw [show cod "FOL" = [70, 79, 76] by decide +kernel])
    refine ⟨c, _, rfl, .inr (SqL.of hc'), by show 5 ≤ sizeLine; decide, fun f nf => ?_⟩
    have s12 := s1.trans s2
    have sF := same_new (o := .lst (V.int 37 :: (([70, 79, 76] : List Int).map V.int ++ [V.int 10]))) nf
    have hF : (upd H2 f (.lst (V.int 37 :: (([70, 79, 76] : List Int).map V.int ++ [V.int 10])))) f = some (.lst (([37, 70, 79, 76, 10] : List Int).map V.int)) := upd_same
    generalize upd H2 f (.lst (V.int 37 :: (([70, 79, 76] : List Int).map V.int ++ [V.int 10]))) = H3 at sF hF
    have hfH : H f = none := fresh_of s12 nf
    have s03 := s12.trans sF
    have eW : wBook sobs root = ([37, 70, 79, 76, 10] ++ sobs.flatMap wObj) ++ (if 0 < root then wROOT ++ [32, 64] ++ decs root ++ [10] else []) := rfl
    have hlen1 : ([37, 70, 79, 76, 10] ++ sobs.flatMap wObj).length ≤ 400000 := by
      rw [eW, List.length_append] at hlen
      omega
    refine ⟨_, rfl, b, _, _, _, rfl, rfl, SqT.of (s03 _ _ hb), rfl, a, rfl, ⟨_, SqT.of (s03 _ _ ha)⟩, for_tup (K := K) (a := a) (xs := us) (fun i σ H' => ∃ x2 x3, σ = [some (.ref b), some (.ref f), x2, x3] ∧ Same H H' ∧ H' f = some (.lst (([37, 70, 79, 76, 10] ++ (sobs.take i).flatMap wObj).map V.int))) ⟨none, none, rfl, s03, hF⟩ (fun i σ H' _ ⟨_, _, _, e, _⟩ => SqT.of (e _ _ ha)) ?_ ?_⟩
    · rintro i x σ H' hx ⟨x2, x3, rfl, sm, hf⟩
      obtain ⟨qa, n, y, v, rfl, hi, hq, rep⟩ := (hB.keep (TK.of sm)).get hx
      have hmem := List.mem_of_getElem? hi
      have hnum := ok.num _ hmem
      have hval := ok.val _ hmem
      simp only [] at hnum hval
      have hnx := flat_nextA wObj hi
      have hp1 := flat_pre wObj sobs i
      have hp2 := flat_pre wObj sobs (i + 1)
      rw [hnx, List.length_append] at hp2
      have eO : wObj (n, v) = (35 :: decs n) ++ [10] ++ wVal v ++ [10] := rfl
      have hlO : (wObj (n, v)).length = (decs n).length + (wVal v).length + 3 := by
        rw [eO]
        simp only [List.length_append, List.length_cons, List.length_nil]
        omega
      have hdl := decs_len (n := n) (by omega) (by omega)
      have hs1 := cod_len (Str.ofString (toString n))
      rw [cod_num] at hs1
      simp only [List.length_append, List.length_cons, List.length_nil] at hlen1
      refine ⟨qa, _, rfl, SqT.of hq, rfl, _, _, rfl, _, _, rfl, rfl, ?_⟩
      refine ⟨_, rfl, .inl ⟨rfl, _, SqL.of hf⟩, _, rfl, n, rfl, log2_ok (by omega) (by omega), _, _, rfl, rfl, ?_, _, rfl, ?_, fun g H4 ng s4 hg => ?_⟩
      · exact Nat.le_trans (show ("#" : Str).cps.size + (Str.ofString (toString n)).cps.size ≤ 100 by rw [← hs1, show ("#" : Str).cps.size = 1 by decide +kernel]; omega) (by decide)
      · rw [← cod_len, cod_append, cod_num, List.length_append, show (cod "#").length = 1 by decide +kernel]
        omega
      have hg' : H4 g = some (.lst ((35 :: decs n).map V.int)) := hg.trans (by rw [cod_append, cod_num, show cod "#" = [35] by decide +kernel] <;> rfl)
      refine ⟨g, _, rfl, .inr (SqL.of hg'), _, rfl, y, v, rfl, Rep.keep (TK.of s4) rep, hval, by omega, fun r H5 nr s5 hrr => ?_⟩
      refine ⟨r, _, rfl, .inr (SqL.of hrr), ?_, fun z nz => ?_⟩
      · simp only [List.length_append, List.length_cons, List.length_map, List.length_nil]
        exact Nat.le_trans (show _ ≤ 400100 by omega) (by decide)
      have sZ := same_new (o := .lst ((35 :: decs n).map V.int ++ V.int 10 :: ((wVal v).map V.int ++ [V.int 10]))) nz
      have hZ : (upd H5 z (.lst ((35 :: decs n).map V.int ++ V.int 10 :: ((wVal v).map V.int ++ [V.int 10])))) z = some (.lst ((wObj (n, v)).map V.int)) := upd_same.trans (by rw [eO]; simp)
      generalize upd H5 z (.lst ((35 :: decs n).map V.int ++ V.int 10 :: ((wVal v).map V.int ++ [V.int 10]))) = H6 at sZ hZ
      have s46 : Same H' H6 := s4.trans (s5.trans sZ)
      refine ⟨f, z, _, _, rfl, rfl, s46 _ _ hf, hZ, ?_, ?_⟩
      · rw [List.length_map, List.length_map, List.length_append]
        exact Nat.le_trans (show _ ≤ 400100 by simp only [List.length_cons, List.length_nil]; omega) (by decide)
      · refine ⟨_, _, rfl, fun d o e => ?_, ?_⟩
        · rw [upd_ne (ne_of_none e hfH)]
          exact s46 _ _ (sm d o e)
        · rw [upd_same, ← List.map_append, List.append_assoc, ← hnx]
    · rintro σ H' ⟨x2, x3, rfl, sm, hf⟩
      rw [hB.len, List.take_length] at hf
      have hb2 := sm _ _ hb
      refine ⟨fun σ' H2 => ∃ x2 x3, σ' = [some (.ref b), some (.ref f), x2, x3] ∧ Same H H2 ∧ H2 f = some (.lst ((wBook sobs root).map V.int)), ?_, ?_⟩
      · refine ⟨_, rfl, b, _, _, _, rfl, rfl, SqT.of hb2, atI_nat (j := 1) rfl, _, _, rfl, rfl, _, rfl, ifB (fun z => ?_) (fun z => ?_)⟩
        · have hrt : root ≤ 9999 := by
            rcases ok.rt with h | h
            · exact h.2.1
            · omega
          have hdl := decs_len (n := root) (by omega) (by omega)
          have hs1 := cod_len (Str.ofString (toString root))
          rw [cod_num] at hs1
          refine ⟨_, rfl, .inl ⟨rfl, _, SqL.of hf⟩, _, rfl, b, _, _, _, rfl, rfl, SqT.of hb2, atI_nat (j := 1) rfl, root, rfl, log2_ok (by omega) (by omega), _, _, rfl, rfl, ?_, _, rfl, ?_, fun g H4 ng s4 hg => ?_⟩
          · exact Nat.le_trans (show ("root @" : Str).cps.size + (Str.ofString (toString root)).cps.size ≤ 100 by rw [← hs1, show ("root @" : Str).cps.size = 6 by decide +kernel]; omega) (by decide)
          · rw [← cod_len, cod_append, cod_num, List.length_append, show (cod "root @").length = 6 by decide +kernel]
            omega
          have hg' : H4 g = some (.lst ((wROOT ++ [32, 64] ++ decs root).map V.int)) := hg.trans (by rw [cod_append, cod_num, show cod "root @" = wROOT ++ [32, 64] by decide +kernel])
          refine ⟨g, _, rfl, .inr (SqL.of hg'), ?_, fun y ny => ?_⟩
          · simp only [List.length_append, List.length_cons, List.length_map, List.length_nil]
            exact Nat.le_trans (show _ ≤ 100 by show _ + _ + 1 ≤ _; simp only [wROOT, List.length_cons, List.length_nil]; omega) (by decide)
          have sY := same_new (o := .lst ((wROOT ++ [32, 64] ++ decs root).map V.int ++ [V.int 10])) ny
          have hY : (upd H4 y (.lst ((wROOT ++ [32, 64] ++ decs root).map V.int ++ [V.int 10]))) y = some (.lst ((wROOT ++ [32, 64] ++ decs root ++ [10]).map V.int)) := upd_same.trans (by rw [List.map_append (l₂ := [10])] <;> rfl)
          generalize upd H4 y (.lst ((wROOT ++ [32, 64] ++ decs root).map V.int ++ [V.int 10])) = H5 at sY hY
          have s5 := s4.trans sY
          refine ⟨f, y, _, _, rfl, rfl, s5 _ _ hf, hY, ?_, ?_⟩
          · rw [List.length_map, List.length_map]
            rw [eW, if_pos z] at hlen
            rw [List.length_append] at hlen
            exact Nat.le_trans hlen (by decide)
          · refine ⟨_, _, rfl, fun d o e => ?_, ?_⟩
            · rw [upd_ne (ne_of_none e hfH)]
              exact s5 _ _ (sm d o e)
            · rw [upd_same, ← List.map_append, eW, if_pos z]
        · refine ⟨_, _, rfl, sm, ?_⟩
          rw [eW, if_neg z, List.append_nil]
          exact hf
      · rintro σ' H2 ⟨x2, x3, rfl, sm2, hf2⟩
        exact ⟨_, rfl, q f _ hfH sm2 hf2⟩
end
end K22

set_option maxHeartbeats 4000000
/-! the law's own: cell, twice, piece, any (printed by gen_l1.py) -/
namespace K22
open PySem PySem.Spec PyProof.Rows L2
def pieces1 : List Str := ["#1 ", "#2<<", ">>", "<<", "[", "]", "/A ", "/Pages", "(a", ")", "(", "<4", "41>", "@1 ", "@", "#", "root ", "@2"]
def pieces2 : List Str := ["true ", "none ", "-12 ", "7 ", "99999999999 ", "x ", "{3}", "{", "}", "{}", "abc{}", "~41", "#0001 "]
def pieces3 : List Str := ["\\", "\\n", "\\41", " ", "\n", "#12345 ", "@0012345678 ", "- ", "/~4g", "<<<", ">>>", "{12345678901}", "/B[", "&"]
def pieces : List Str := pieces1 ++ pieces2 ++ pieces3
/-- a piece: bytes, short, at most one number sign -/
def okPiece (d : List Int) : Bool := d.all (fun b => decide (0 ≤ b ∧ b ≤ 255)) && decide (d.length ≤ 13) && decide (d.count 35 ≤ 1)
theorem pieces_ok : ∀ z ∈ pieces, okPiece (cod z) = true := by decide +kernel
theorem pieces_sz : ∀ z ∈ pieces, z.cps.size ≤ 13 := by decide +kernel
section
variable {P : Program} {w : World} {K : PySem.W.Frag} {mg : Str → Option Value} {base : Heap}
def spLCell (K : PySem.W.Frag) : Sp := fun vs H Q _ => ∃ (a : Addr) (ns : List Int) (k : Nat), vs = [.ref a, .int (k : Int)] ∧ SqL K H a (ns.map V.int) ∧ ∀ n, Q (.int n) H
theorem sc_law_cell : FnScope ["_law_script", "_law_k"] ["_law_script", "_law_k"] (defScope s_law_cell) := ⟨rfl, rfl, rfl, by decide +kernel, rfl, by decide +kernel, by decide +kernel⟩
theorem ok_law_cell (T : Tx K mg) : Cal P w K mg base "_law_cell" 1 ["_law_script", "_law_k"] (spLCell K) := by
  obtain ⟨fd, F⟩ := T.F_law_cell
  refine ⟨_, fd, F.ok sc_law_cell (fun vs H Q E h => ?_) (fun cdv A outer s H vs Q E hr h => ?_), T.g_law_cell, F.kp, F.binds fun _ _ _ _ _ _ us hl => match us, hl with | [_, _], _ => rfl⟩
  · obtain ⟨a, ns, k, rfl, _⟩ := h
    rfl
  · obtain ⟨a, ns, k, rfl, hS, q⟩ := h
    refine ⟨_, pss_cons (ps_if (pt_cmpR op_lt (pv 1) (pe_callB call_len_seq (by rfl) T.fr_len PySem.boot_len (pa_cons (pv 0) pa_nil)) (nomark _)) (pss_one (ps_ret (pe_callTy call_int1 (by rfl) T.fr_int (by decide +kernel) (pa_cons (pe_ix ix_list (pv 0) (pv 1) (fun _ _ => rfl)) pa_nil)))) pss_nil)
      (pss_one (ps_ret pe_int)), ?_⟩
    refine ⟨_, rfl, _, rfl, a, _, rfl, .inl hS, _, _, rfl, rfl, _, rfl, ifB (fun z => ?_) (fun z => q 0)⟩
    have hk : k < ns.length := by
      rw [List.length_map] at z
      omega
    exact ⟨_, rfl, _, rfl, a, _, _, _, rfl, rfl, hS, atI_nat (v := .int ns[k]) (by rw [List.getElem?_map, List.getElem?_eq_getElem hk] <;> rfl), .inl ⟨_, rfl, q _⟩⟩
theorem b64 {x m : Int} (h : 0 ≤ x ∧ x < m) (hm : m ≤ 2147483647) : -(2 ^ 64) < x ∧ x < 2 ^ 64 := by omega
/-! ### twice -/
def spTwice : Sp := fun vs H Q _ => ∃ (c k : Int), vs = [.int c, .int k] ∧ -1000 < k ∧ k < 1000 ∧ ∀ n : Int, 0 ≤ n → Q (.int n) H
theorem sc_law_twice : FnScope ["_law_cell_here", "_law_k", "_law_x"] ["_law_cell_here", "_law_k"] (defScope s_law_twice) := ⟨rfl, rfl, rfl, by decide +kernel, rfl, by decide +kernel, by decide +kernel⟩
theorem ok_law_twice (T : Tx K mg) : Cal P w K mg base "_law_twice" 1 ["_law_cell_here", "_law_k"] spTwice := by
  obtain ⟨fd, F⟩ := T.F_law_twice
  refine ⟨_, fd, F.ok sc_law_twice (fun vs H Q E h => ?_) (fun cdv A outer s H vs Q E hr h => ?_), T.g_law_twice, F.kp, F.binds fun _ _ _ _ _ _ us hl => match us, hl with | [_, _], _ => rfl⟩
  · obtain ⟨c, k, rfl, _⟩ := h
    rfl
  · obtain ⟨c, k, rfl, hk1, hk2, q⟩ := h
    refine ⟨_, pss_cons (ps_set (i := 2) sc_law_twice.nd rfl (.inl rfl) (pe_op op_mod (pe_callTy call_int1 (by rfl) T.fr_int (by decide +kernel) (pa_cons (pe_op op_add (pe_op op_add (pe_op op_mul (pv 0) pe_int) (pe_op op_mul (pv 1) pe_int)) pe_int) pa_nil)) pe_int))
      (pss_cons (ps_set (i := 2) sc_law_twice.nd rfl (.inl rfl) (pe_op op_mod (pe_callTy call_int1 (by rfl) T.fr_int (by decide +kernel) (pa_cons (pe_op op_add (pe_op op_add (pe_op op_mul (pv 2) (pv 2)) (pe_op op_mul (pv 1) pe_int)) pe_int) pa_nil)) pe_int))
      (pss_cons (ps_set (i := 2) sc_law_twice.nd rfl (.inl rfl) (pe_op op_mod (pe_callTy call_int1 (by rfl) T.fr_int (by decide +kernel) (pa_cons (pe_op op_add (pe_op op_add (pe_op op_mul (pv 2) (pv 2)) (pe_op op_mul (pv 1) pe_int)) pe_int) pa_nil)) pe_int))
      (pss_one (ps_ret (pe_op op_fdiv (pv 2) pe_int))))), ?_⟩
    have m1 : ∀ x : Int, 0 ≤ x % 2147483647 ∧ x % 2147483647 < 2147483647 := fun x => ⟨Int.emod_nonneg x (by decide), Int.emod_lt_of_pos x (by decide)⟩
    have m2 : ∀ x : Int, 0 ≤ x % 2147483629 ∧ x % 2147483629 < 2147483629 := fun x => ⟨Int.emod_nonneg x (by decide), Int.emod_lt_of_pos x (by decide)⟩
    have m3 : ∀ x : Int, 0 ≤ x % 2147483587 ∧ x % 2147483587 < 2147483587 := fun x => ⟨Int.emod_nonneg x (by decide), Int.emod_lt_of_pos x (by decide)⟩
    exact ⟨_, rfl, _, _, rfl, rfl, .inr ⟨by decide, by decide⟩, _, rfl, _, _, rfl, rfl, .inr ⟨by decide, by decide⟩, _, _, rfl, rfl, _, _, rfl, rfl, .inl ⟨_, rfl, _, _, rfl, rfl, (by decide : (0 : Int) < 2147483647),
      ⟨_, rfl, _, rfl, _, _, rfl, rfl, .inl (b64 (m1 _) (by decide)), _, rfl, _, _, rfl, rfl, .inr ⟨by decide, by decide⟩, _, _, rfl, rfl, _, _, rfl, rfl, .inl ⟨_, rfl, _, _, rfl, rfl, (by decide : (0 : Int) < 2147483629),
      ⟨_, rfl, _, rfl, _, _, rfl, rfl, .inl (b64 (m2 _) (by decide)), _, rfl, _, _, rfl, rfl, .inr ⟨by decide, by decide⟩, _, _, rfl, rfl, _, _, rfl, rfl, .inl ⟨_, rfl, _, _, rfl, rfl, (by decide : (0 : Int) < 2147483587),
      ⟨_, rfl, _, _, rfl, rfl, ⟨by decide, by decide⟩, q _ (Int.ediv_nonneg (m3 _).1 (by decide))⟩⟩⟩⟩⟩⟩⟩
/-! ### piece -/
def spPiece : Sp := fun vs H Q _ => ∃ (c k : Int), vs = [.int c, .int k] ∧ -1000 < k ∧ k < 1000 ∧ ∀ t d H', H t = none → Same H H' → H' t = some (.lst (d.map V.int)) → okPiece d = true → Q (.ref t) H'
theorem sc_law_piece : FnScope ["_law_cell_here", "_law_k", "_law_pieces", "_law_draw", "_law_at", "_law_sign"] ["_law_cell_here", "_law_k"] (defScope s_law_piece) := ⟨rfl, rfl, rfl, by decide +kernel, rfl, by decide +kernel, by decide +kernel⟩
theorem ok_law_piece (T : Tx K mg) : Cal P w K mg base "_law_piece" 2 ["_law_cell_here", "_law_k"] spPiece := by
  obtain ⟨fd, F⟩ := T.F_law_piece
  refine ⟨_, fd, F.ok sc_law_piece (fun vs H Q E h => ?_) (fun cdv A outer s H vs Q E hr h => ?_), T.g_law_piece, F.kp, F.binds fun _ _ _ _ _ _ us hl => match us, hl with | [_, _], _ => rfl⟩
  · obtain ⟨c, k, rfl, _⟩ := h
    rfl
  · obtain ⟨c, k, rfl, hk1, hk2, q⟩ := h
    have ln : ∀ {A : Around}, Room 1 A → True := fun _ => trivial
    refine ⟨_, pss_cons (ps_set (i := 2) sc_law_piece.nd rfl (.inl rfl) (pe_lst (pa_cons pe_str (pa_cons pe_str (pa_cons pe_str (pa_cons pe_str (pa_cons pe_str (pa_cons pe_str (pa_cons pe_str (pa_cons pe_str (pa_cons pe_str (pa_cons pe_str (pa_cons pe_str (pa_cons pe_str (pa_cons pe_str (pa_cons pe_str (pa_cons pe_str (pa_cons pe_str (pa_cons pe_str (pa_cons pe_str pa_nil))))))))))))))))))))
      (pss_cons (ps_set (i := 2) sc_law_piece.nd rfl (.inl rfl) (pe_op op_cat (pv 2) (pe_lst (pa_cons pe_str (pa_cons pe_str (pa_cons pe_str (pa_cons pe_str (pa_cons pe_str (pa_cons pe_str (pa_cons pe_str (pa_cons pe_str (pa_cons pe_str (pa_cons pe_str (pa_cons pe_str (pa_cons pe_str (pa_cons pe_str pa_nil))))))))))))))))
      (C8.pss_cut (ps_set (i := 2) sc_law_piece.nd rfl (.inl rfl) (pe_op op_cat (pv 2) (pe_lst (pa_cons pe_str (pa_cons pe_str (pa_cons pe_str (pa_cons pe_str (pa_cons pe_str (pa_cons pe_str (pa_cons pe_str (pa_cons pe_str (pa_cons pe_str (pa_cons pe_str (pa_cons pe_str (pa_cons pe_str (pa_cons pe_str (pa_cons pe_str pa_nil)))))))))))))))))
      (pss_cons (ps_set (i := 3) sc_law_piece.nd rfl (.inl rfl) (pe_cal (ok_law_twice T) hr (pa_cons (pv 0) (pa_cons (pv 1) pa_nil))))
      (pss_cons (ps_if (pt_cmpR op_eq (pe_op op_mod (pv 3) pe_int) pe_int (nomark _)) (pss_one (ps_ret (pe_lst (pa_cons (pe_op op_mod (pe_op op_fdiv (pv 3) pe_int) pe_int) pa_nil)))) pss_nil)
      (pss_cons (ps_set (i := 4) sc_law_piece.nd rfl (.inl rfl) (pe_op op_mod (pe_op op_fdiv (pv 3) pe_int) (pe_op op_add (pe_callB call_len_seq (by rfl) T.fr_len PySem.boot_len (pa_cons (pv 2) pa_nil)) pe_int)))
      (pss_cons (ps_if (pt_cmpR op_eq (pv 4) (pe_callB call_len_seq (by rfl) T.fr_len PySem.boot_len (pa_cons (pv 2) pa_nil)) (nomark _)) (pss_one (ps_ret (pe_lst (pa_cons pe_int (pa_cons pe_int (pa_cons pe_int (pa_cons pe_int pa_nil))))))) pss_nil)
      (pss_one (ps_ret (pe_lc (own := [("_law_sign", 5)]) (g := gName 5) (tt := tYes) rfl sc_law_piece.nd (pi_str (pe_ix ix_list (pv 2) (pv 4) (fun _ _ => rfl)))
          (blkOk_by (own := [("_law_sign", 5)]) (N := ["_law_cell_here", "_law_k", "_law_pieces", "_law_draw", "_law_at", "_law_sign"]) (sc := defScope s_law_piece) (by decide +kernel))
          (fun _ _ _ _ _ => pg_name (i := 5) sc_law_piece.nd rfl (Or.inl rfl)) (fun _ _ _ _ _ => pts_nil) (fun _ _ _ _ _ => pe_callB call_ord (by rfl) T.fr_ord (by decide +kernel) (pa_cons (pv 5) pa_nil))))))))))), ?_⟩
    refine ⟨by show 18 ≤ sizeLine; decide, fun p1 n1 => ?_⟩
    have s1 := same_new (o := .lst (pieces1.map V.str)) n1
    have h1 : (upd H p1 (.lst (pieces1.map V.str))) p1 = some (.lst (pieces1.map V.str)) := upd_same
    refine ⟨_, rfl, by show 13 ≤ sizeLine; decide, fun p2 n2 => ?_⟩
    have s2 := same_new (o := .lst (pieces2.map V.str)) n2
    have h2 : (upd (upd H p1 (.lst (pieces1.map V.str))) p2 (.lst (pieces2.map V.str))) p2 = some (.lst (pieces2.map V.str)) := upd_same
    refine ⟨p1, p2, pieces1.map V.str, pieces2.map V.str, rfl, rfl, s2 _ _ h1, h2, by show 31 ≤ sizeLine; decide, fun p3 n3 => ?_⟩
    have s3 := same_new (o := .lst (pieces1.map V.str ++ pieces2.map V.str)) n3
    have h3 : (upd (upd (upd H p1 (.lst (pieces1.map V.str))) p2 (.lst (pieces2.map V.str))) p3 (.lst (pieces1.map V.str ++ pieces2.map V.str))) p3 = some (.lst ((pieces1 ++ pieces2).map V.str)) := upd_same.trans (by rw [List.map_append])
    refine ⟨fun σ' H' => ∃ p, σ' = [some (.int c), some (.int k), some (.ref p), none, none, none] ∧ Same H H' ∧ H' p = some (.lst (pieces.map V.str)), ?_, ?_⟩
    · refine ⟨_, rfl, by show 14 ≤ sizeLine; decide, fun p4 n4 => ?_⟩
      have s4 := same_new (o := .lst (pieces3.map V.str)) n4
      have h4 : (upd (upd (upd (upd H p1 (.lst (pieces1.map V.str))) p2 (.lst (pieces2.map V.str))) p3 (.lst (pieces1.map V.str ++ pieces2.map V.str))) p4 (.lst (pieces3.map V.str))) p4 = some (.lst (pieces3.map V.str)) := upd_same
      refine ⟨p3, p4, (pieces1 ++ pieces2).map V.str, pieces3.map V.str, rfl, rfl, s4 _ _ h3, h4, by show 45 ≤ sizeLine; decide, fun p5 n5 => ?_⟩
      have s5 := same_new (o := .lst ((pieces1 ++ pieces2).map V.str ++ pieces3.map V.str)) n5
      exact ⟨p5, rfl, s1.trans (s2.trans (s3.trans (s4.trans s5))), upd_same.trans (show _ = some (HO.lst (pieces.map V.str)) by rw [← List.map_append] <;> rfl)⟩
    · rintro σ' H1 ⟨p, rfl, sm, hP⟩
      have hpl : (pieces.map V.str).length = 45 := by decide +kernel
      refine ⟨_, rfl, _, rfl, c, k, rfl, hk1, hk2, fun n hn => ?_⟩
      refine ⟨_, rfl, _, _, rfl, rfl, (by decide : (0 : Int) < 23), rfl, _, rfl, ifI (fun _ => ?_) (fun _ => ?_)⟩
      · refine ⟨_, rfl, _, _, rfl, rfl, ⟨by decide, by decide⟩, _, _, rfl, rfl, (by decide : (0 : Int) < 256), by show 1 ≤ sizeLine; decide, fun t nt => ?_⟩
        refine q t [n / 23 % 256] _ (fresh_of sm nt) (sm.trans (same_new nt)) upd_same ?_
        have h1 : 0 ≤ n / 23 % 256 := Int.emod_nonneg _ (by decide)
        have h2 : n / 23 % 256 < 256 := Int.emod_lt_of_pos _ (by decide)
        generalize n / 23 % 256 = m at h1 h2
        unfold okPiece
        have h3 : [m].count 35 ≤ 1 := List.count_le_length
        simp only [List.all_cons, List.all_nil, Bool.and_true, Bool.and_eq_true, decide_eq_true_eq, List.length_cons, List.length_nil]
        exact ⟨⟨⟨h1, by omega⟩, by omega⟩, h3⟩
      · refine ⟨_, rfl, _, _, rfl, rfl, ⟨by decide, by decide⟩, _, rfl, p, _, rfl, .inl (SqL.of hP), _, _, rfl, rfl, _, _, rfl, rfl, ?_, ?_⟩
        · rw [hpl]
          show (0 : Int) < ((45 : Nat) : Int) + 1
          decide
        rw [hpl]
        have h1 : 0 ≤ n / 23 % (((45 : Nat) : Int) + 1) := Int.emod_nonneg _ (by decide)
        have h2 : n / 23 % (((45 : Nat) : Int) + 1) < ((45 : Nat) : Int) + 1 := Int.emod_lt_of_pos _ (by decide)
        obtain ⟨m, hme⟩ : ∃ m, m = n / 23 % (((45 : Nat) : Int) + 1) := ⟨_, rfl⟩
        rw [← hme] at h1 h2
        refine ⟨_, rfl, _, rfl, p, _, rfl, .inl (SqL.of hP), rfl, _, rfl, ?_⟩
        rw [hpl]
        refine ifI (fun e => ?_) (fun e => ?_)
        · refine ⟨by show 4 ≤ sizeLine; decide, fun t nt => ?_⟩
          exact q t [37, 114, 101, 10] _ (fresh_of sm nt) (sm.trans (same_new nt)) upd_same (by decide)
        · rw [← hme] at e
          have hm : m.toNat < pieces.length := by
            have : pieces.length = 45 := by decide +kernel
            omega
          have hz : pieces[m.toNat]? = some pieces[m.toNat] := List.getElem?_eq_getElem hm
          have hat : atI (pieces.map V.str) m = some (.str pieces[m.toNat]) := at_of (j := m.toNat) (by omega) (by rw [List.getElem?_map, hz] <;> rfl)
          have hmem : pieces[m.toNat] ∈ pieces := List.getElem_mem hm
          have hok := pieces_ok _ hmem
          have hsz := pieces_sz _ hmem
          generalize pieces[m.toNat] = z at hat hok hsz
          rw [hme] at hat
          refine ⟨_, rfl, _, rfl, p, _, _, _, rfl, rfl, SqL.of hP, hat, z, rfl, fun D nD => ?_⟩
          refine lc_it walk_str (fun j H3 => Same H1 H3 ∧ H3 D = some (.lst (((cod z).take j).map V.int))) ⟨same_new nD, upd_same⟩ (fun _ _ _ _ => trivial) ?_ ?_
          · rintro j x H3 H4 hj ⟨s3, e3⟩ ⟨rfl, c, hc, rfl⟩
            refine ⟨rfl, _, rfl, _, rfl, rfl, _, e3, ?_, ?_, ?_⟩
            · rw [List.length_map, List.length_take]
              exact line_big (by omega)
            · intro b o e
              rw [upd_ne (ne_of_none e nD)]
              exact s3 b o e
            · have hc' := cod_at hc
              rw [upd_same, List.take_add_one, hc', List.map_append] <;> rfl
          · rintro H3 ⟨s3, e3⟩
            rw [← cod_len, List.take_length] at e3
            exact q D (cod z) H3 (fresh_of sm nD) (sm.trans s3) e3 hok
end
end K22

set_option maxHeartbeats 4000000
/-! the law's own: any -/
namespace K22
open PySem PySem.Spec PyProof.Rows L2
/-- the law's data: bytes, short, few number signs -/
structure okAny (d : List Int) (n c : Nat) : Prop where
  byt : ∀ b ∈ d, 0 ≤ b ∧ b ≤ 255
  len : d.length ≤ n
  cnt : d.count 35 ≤ c
theorem okAny.piece {d : List Int} (h : okPiece d = true) : okAny d 13 1 := by
  unfold okPiece at h
  rw [Bool.and_eq_true, Bool.and_eq_true] at h
  refine ⟨fun b hb => ?_, of_decide_eq_true h.1.2, of_decide_eq_true h.2⟩
  have := List.all_eq_true.mp h.1.1 b hb
  exact of_decide_eq_true this
theorem okAny.app {d e : List Int} {n c m k : Nat} (a : okAny d n c) (b : okAny e m k) : okAny (d ++ e) (n + m) (c + k) := by
  refine ⟨fun x hx => ?_, ?_, ?_⟩
  · rcases List.mem_append.mp hx with h | h
    · exact a.byt x h
    · exact b.byt x h
  · rw [List.length_append]
    have := a.len
    have := b.len
    omega
  · rw [List.count_append]
    have := a.cnt
    have := b.cnt
    omega
theorem okAny.mono {d : List Int} {n c m k : Nat} (a : okAny d n c) (h1 : n ≤ m) (h2 : c ≤ k) : okAny d m k := ⟨a.byt, Nat.le_trans a.len h1, Nat.le_trans a.cnt h2⟩
theorem okAny.rep {d : List Int} {n : Nat} (a : okAny d n 0) : ∀ k, okAny (List.replicate k d).flatten (n * k) 0
  | 0 => ⟨fun b h => by simp at h, by simp, by simp⟩
  | k + 1 => by
    have ih := okAny.rep a k
    rw [List.replicate_succ, List.flatten_cons]
    exact (a.app ih).mono (by rw [Nat.mul_succ]; omega) (Nat.le_refl _)
section
variable {P : Program} {w : World} {K : PySem.W.Frag} {mg : Str → Option Value} {base : Heap}
def spAny : Sp := fun vs H Q _ => ∃ (c o : Int), vs = [.int c, .int o] ∧ ∀ t d H', Same H H' → H' t = some (.lst (d.map V.int)) → okAny d 599 40 → Q (.ref t) H'
theorem sc_law_any : FnScope ["_law_cell_here", "_law_other", "_law_data", "_law_k", "_law_opens"] ["_law_cell_here", "_law_other"] (defScope s_law_any) := ⟨rfl, rfl, rfl, by decide +kernel, rfl, by decide +kernel, by decide +kernel⟩
theorem ok_law_any (T : Tx K mg) : Cal P w K mg base "_law_any" 3 ["_law_cell_here", "_law_other"] spAny := by
  obtain ⟨fd, F⟩ := T.F_law_any
  refine ⟨_, fd, F.ok sc_law_any (fun vs H Q E h => ?_) (fun cdv A outer s H vs Q E hr h => ?_), T.g_law_any, F.kp, F.binds fun _ _ _ _ _ _ us hl => match us, hl with | [_, _], _ => rfl⟩
  · obtain ⟨c, o, rfl, _⟩ := h
    rfl
  · obtain ⟨c, o, rfl, q⟩ := h
    refine ⟨_, pss_cons (ps_set (i := 2) sc_law_any.nd rfl (.inl rfl) (pe_lst pa_nil))
      (pss_cons (ps_for PassesOwn.never rfl (pi_range1 rfl T.fr_range (pa_cons (pe_op op_mod (pv 1) pe_int) pa_nil)) (pg_name (i := 3) sc_law_any.nd rfl (.inl rfl))
        (pss_one (ps_set (i := 2) sc_law_any.nd rfl (.inl rfl) (pe_op op_cat (pv 2) (pe_cal (ok_law_piece T) hr (pa_cons (pv 0) (pa_cons (pv 3) pa_nil)))))))
      (C8.pss_cut (ps_if (pt_cmpR op_eq (pe_op op_mod (pe_op op_fdiv (pv 1) pe_int) pe_int) pe_int (nomark _))
        (C8.pss_cut (ps_set (i := 4) sc_law_any.nd rfl (.inl rfl) (pe_ix ix_list (pe_lst (pa_cons (pe_lst (pa_cons pe_int pa_nil)) (pa_cons (pe_lst (pa_cons pe_int (pa_cons pe_int (pa_cons pe_int (pa_cons pe_int (pa_cons pe_int pa_nil)))))) pa_nil))) (pe_op op_mod (pe_op op_fdiv (pv 1) pe_int) pe_int) (fun _ _ => rfl)))
        (pss_one (ps_set (i := 2) sc_law_any.nd rfl (.inl rfl) (pe_op op_cat (pe_op op_cat (pe_lst (pa_cons pe_int (pa_cons pe_int pa_nil))) (pe_op op_rep (pv 4) (pe_op op_mod (pe_op op_fdiv (pv 1) pe_int) pe_int))) (pv 2))))) pss_nil)
      (pss_one (ps_ret (pv 2))))), ?_⟩
    refine ⟨Nat.zero_le _, fun d0 nd0 => ?_⟩
    have s0 := same_new (o := .lst []) nd0
    have h0 : (upd H d0 (.lst [])) d0 = some (.lst (([] : List Int).map V.int)) := upd_same
    generalize upd H d0 (.lst []) = H1 at s0 h0
    have hj0 : 0 ≤ o % 40 := Int.emod_nonneg _ (by decide)
    have hj1 : o % 40 < 40 := Int.emod_lt_of_pos _ (by decide)
    refine ⟨_, rfl, _, _, rfl, rfl, (by decide : (0 : Int) < 40), o % 40, rfl, by omega, by omega, ?_⟩
    refine for_range (fun i σ H' => ∃ t d x3, σ = [some (.int c), some (.int o), some (.ref t), x3, none] ∧ Same H H' ∧ H' t = some (.lst (d.map V.int)) ∧ okAny d (13 * i) i) ⟨d0, [], none, rfl, s0, h0, ⟨fun b h => by simp at h, by simp, by simp⟩⟩ ?_ ?_
    · rintro i σ H' hi ⟨t, d, x3, rfl, sm, ht, ok⟩
      refine ⟨_, rfl, _, rfl, _, rfl, c, 0 + (i : Int), rfl, by omega, by omega, fun t2 e H2 nt2 s2 ht2 okp => ?_⟩
      have oke := okAny.piece okp
      have hl := ok.len
      have hl2 := oke.len
      refine ⟨t, t2, _, _, rfl, rfl, s2 _ _ ht, ht2, ?_, fun p np => ?_⟩
      · rw [List.length_map, List.length_map]
        exact Nat.le_trans (show _ ≤ 100000 by omega) (by decide)
      · exact ⟨p, d ++ e, _, rfl, sm.trans (s2.trans (same_new np)), upd_same.trans (by rw [List.map_append]), (ok.app oke).mono (by omega) (by omega)⟩
    · rintro σ H' ⟨t, d, x3, rfl, sm, ht, ok⟩
      have ok1 : okAny d 507 39 := ok.mono (by omega) (by omega)
      refine ⟨fun σ' H2 => ∃ t d x3 x4, σ' = [some (.int c), some (.int o), some (.ref t), x3, x4] ∧ Same H H2 ∧ H2 t = some (.lst (d.map V.int)) ∧ okAny d 599 40, ?_, ?_⟩
      · refine ⟨_, rfl, _, _, rfl, rfl, ⟨by decide, by decide⟩, _, _, rfl, rfl, (by decide : (0 : Int) < 4), rfl, _, rfl, ifI (fun _ => ?_) (fun _ => ?_)⟩
        · refine ⟨fun σ' H2 => ∃ l op, σ' = [some (.int c), some (.int o), some (.ref t), x3, some (.ref l)] ∧ Same H H2 ∧ H2 t = some (.lst (d.map V.int)) ∧ H2 l = some (.lst (op.map V.int)) ∧ okAny op 5 0, ?_, ?_⟩
          · refine ⟨by show 1 ≤ sizeLine; decide, fun a na => ?_⟩
            have sa := same_new (o := .lst [V.int 91]) na
            have ha : (upd H' a (.lst [V.int 91])) a = some (.lst (([91] : List Int).map V.int)) := upd_same
            refine ⟨by show 5 ≤ sizeLine; decide, fun b nb => ?_⟩
            have sb := same_new (o := .lst [V.int 60, V.int 60, V.int 47, V.int 65, V.int 32]) nb
            have hb : (upd (upd H' a (.lst [V.int 91])) b (.lst [V.int 60, V.int 60, V.int 47, V.int 65, V.int 32])) b = some (.lst (([60, 60, 47, 65, 32] : List Int).map V.int)) := upd_same
            refine ⟨by show 2 ≤ sizeLine; decide, fun e ne => ?_⟩
            have se := same_new (o := .lst [V.ref a, V.ref b]) ne
            have hm0 : 0 ≤ o / 160 % 2 := Int.emod_nonneg _ (by decide)
            have hm1 : o / 160 % 2 < 2 := Int.emod_lt_of_pos _ (by decide)
            have s3 : Same H' _ := sa.trans (sb.trans se)
            refine ⟨_, rfl, _, _, rfl, rfl, ⟨by decide, by decide⟩, _, _, rfl, rfl, (by decide : (0 : Int) < 2), e, [V.ref a, V.ref b], o / 160 % 2, ?_⟩
            by_cases hm : o / 160 % 2 = 0
            · exact ⟨_, rfl, rfl, SqL.of upd_same, by rw [hm]; rfl, a, [91], rfl, sm.trans s3, s3 _ _ ht, (sb.trans se) _ _ ha, ⟨by decide, by decide, by decide⟩⟩
            · have hm2 : o / 160 % 2 = 1 := by omega
              exact ⟨_, rfl, rfl, SqL.of upd_same, by rw [hm2]; rfl, b, [60, 60, 47, 65, 32], rfl, sm.trans s3, s3 _ _ ht, se _ _ hb, ⟨by decide, by decide, by decide⟩⟩
          · rintro σ' H2 ⟨l, op, rfl, sm2, ht2, hl2, oko⟩
            have hn0 : 0 ≤ o / 320 % 19 := Int.emod_nonneg _ (by decide)
            have hn1 : o / 320 % 19 < 19 := Int.emod_lt_of_pos _ (by decide)
            have hol := oko.len
            have okr := oko.rep (o / 320 % 19).toNat
            have hrl := okr.len
            have h90 : 5 * (o / 320 % 19).toNat ≤ 90 := by omega
            refine ⟨by show 2 ≤ sizeLine; decide, fun a na => ?_⟩
            have sa := same_new (o := .lst [V.int 35, V.int 49]) na
            have ha : (upd H2 a (.lst [V.int 35, V.int 49])) a = some (.lst (([35, 49] : List Int).map V.int)) := upd_same
            refine ⟨_, rfl, _, rfl, _, _, rfl, rfl, ⟨by decide, by decide⟩, _, _, rfl, rfl, (by decide : (0 : Int) < 19), l, o / 320 % 19, op.map V.int, rfl, rfl, sa _ _ hl2, by omega, by omega, ?_, fun b nb => ?_⟩
            · rw [List.length_map]
              exact Nat.le_trans (Nat.mul_le_mul hol (show (o / 320 % 19).toNat ≤ 18 by omega)) (by decide)
            have sb := same_new (o := .lst (List.replicate (o / 320 % 19).toNat (op.map V.int)).flatten) nb
            have hb : (upd (upd H2 a (.lst [V.int 35, V.int 49])) b (.lst (List.replicate (o / 320 % 19).toNat (op.map V.int)).flatten)) b = some (.lst (((List.replicate (o / 320 % 19).toNat op).flatten).map V.int)) := upd_same.trans (by rw [List.map_flatten, List.map_replicate])
            refine ⟨a, b, _, _, rfl, rfl, sb _ _ ha, hb, ?_, fun e ne => ?_⟩
            · rw [List.length_map, List.length_map]
              exact Nat.le_trans (show _ ≤ 1000 by simp only [List.length_cons, List.length_nil]; omega) (by decide)
            have se := same_new (o := .lst (([35, 49] : List Int).map V.int ++ ((List.replicate (o / 320 % 19).toNat op).flatten).map V.int)) ne
            have sA := sa.trans (sb.trans se)
            refine ⟨_, rfl, e, t, _, _, rfl, rfl, upd_same, sA _ _ ht2, ?_, fun p np => ?_⟩
            · rw [List.length_append, List.length_map, List.length_map, List.length_map]
              have := ok1.len
              exact Nat.le_trans (show _ ≤ 1000 by simp only [List.length_cons, List.length_nil]; omega) (by decide)
            · have ok2 : okAny ([35, 49] : List Int) 2 1 := ⟨by decide, by decide, by decide⟩
              refine ⟨p, ([35, 49] ++ (List.replicate (o / 320 % 19).toNat op).flatten) ++ d, _, _, rfl, sm2.trans (sA.trans (same_new np)), upd_same.trans (by rw [List.map_append, List.map_append]), ((ok2.app okr).app ok1).mono (by omega) (by omega)⟩
        · exact ⟨t, d, _, _, rfl, sm, ht, ok1.mono (by omega) (by omega)⟩
      · rintro σ' H2 ⟨t, d, x3, x4, rfl, sm2, ht2, ok2⟩
        exact ⟨_, rfl, q t d H2 sm2 ht2 ok2⟩
end
end K22

set_option maxHeartbeats 4000000
/-! the law's own: deep, sound (printed by gen_l3.py) -/
namespace K22
open PySem PySem.Spec PyProof.Rows L2
section
variable {P : Program} {w : World} {K : PySem.W.Frag} {mg : Str → Option Value} {base : Heap}
def spDeep (deep : Nat) : Sp := fun vs H Q _ => ∃ (u : V) (v : Val), vs = [u] ∧ Rep H u v ∧ okV deep v ∧ ∀ (n : Int) H', 0 ≤ n → n ≤ 16 - (deep : Int) → Same H H' → Q (.int n) H'
def spDeepN (deep : Nat) : Sp := fun vs H Q E => deep < 16 ∧ spDeep (deep + 1) vs H Q E
theorem sc_law_deep : FnScope ["_law_value", "_law_one", "_law_pair"] ["_law_value"] (defScope s_law_deep) := ⟨rfl, rfl, rfl, by decide +kernel, rfl, by decide +kernel, by decide +kernel⟩
theorem ok_law_deep (T : Tx K mg) {deep k : Nat} (hd : deep ≤ 16) (cs : Cal P w K mg base "_law_deep" k ["_law_value"] (spDeepN deep)) : Cal P w K mg base "_law_deep" (k + 1) ["_law_value"] (spDeep deep) := by
  obtain ⟨fd, F⟩ := T.F_law_deep
  refine ⟨_, fd, F.ok sc_law_deep (fun vs H Q E h => ?_) (fun cdv A outer s H vs Q E hr h => ?_), T.g_law_deep, F.kp, F.binds fun _ _ _ _ _ _ us hl => match us, hl with | [_], _ => rfl⟩
  · obtain ⟨u, v, rfl, _⟩ := h
    rfl
  · obtain ⟨u, v, rfl, hrep, hok, q⟩ := h
    refine ⟨_, pss_cons (ps_if (pt_cmpR op_eq (pe_ix ix_tup (pv 0) pe_int (fun _ _ => rfl)) pe_str (nomark _)) (pss_one (ps_ret (pe_op op_add pe_int (pe_callB (cr_max rfl) (by rfl) T.fr_max (by decide +kernel) (pa_cons (pe_op op_cat (pe_lc (own := [("_law_one", 1)]) (g := gName 1) (tt := tYes) rfl sc_law_deep.nd (pi_tup (pe_ix ix_tup (pv 0) pe_int (fun _ _ => rfl)))
            (blkOk_by (own := [("_law_one", 1)]) (N := ["_law_value", "_law_one", "_law_pair"]) (sc := defScope s_law_deep) (by decide +kernel))
            (fun _ _ _ _ _ => pg_name (i := 1) sc_law_deep.nd rfl (Or.inl rfl)) (fun _ _ _ _ _ => pts_nil) (fun _ _ _ _ _ => pe_cal cs hr (pa_cons (pv 1) pa_nil))) (pe_lst (pa_cons pe_int pa_nil))) pa_nil))))) pss_nil)
      (pss_cons (ps_if (pt_cmpR op_in_seq (pe_ix ix_tup (pv 0) pe_int (fun _ _ => rfl)) (pe_tup (pa_cons pe_str (pa_cons pe_str pa_nil))) rfl) (pss_one (ps_ret (pe_op op_add pe_int (pe_callB (cr_max rfl) (by rfl) T.fr_max (by decide +kernel) (pa_cons (pe_op op_cat (pe_lc (own := [("_law_pair", 2)]) (g := gName 2) (tt := tYes) rfl sc_law_deep.nd (pi_tup (pe_ix ix_tup (pv 0) pe_int (fun _ _ => rfl)))
            (blkOk_by (own := [("_law_pair", 2)]) (N := ["_law_value", "_law_one", "_law_pair"]) (sc := defScope s_law_deep) (by decide +kernel))
            (fun _ _ _ _ _ => pg_name (i := 2) sc_law_deep.nd rfl (Or.inl rfl)) (fun _ _ _ _ _ => pts_nil) (fun _ _ _ _ _ => pe_cal cs hr (pa_cons (pe_ix (r := rIxT K) ix_tup (pv 2) pe_int (fun _ _ => rfl)) pa_nil))) (pe_lst (pa_cons pe_int pa_nil))) pa_nil))))) pss_nil)
      (pss_one (ps_ret pe_int))), ?_⟩
    cases hrep with
    | none ha =>
      rename_i a
      refine ⟨_, rfl, a, _, _, _, rfl, rfl, SqT.of ha, atI_nat (j := 0) rfl, rfl, _, rfl, ifF (by decide +kernel) ?_⟩
      refine ⟨_, rfl, a, _, _, _, rfl, rfl, SqT.of ha, atI_nat (j := 0) rfl, by show 2 ≤ sizeLine; decide, fun y ny => ?_⟩
      have sY := same_new (o := .tup [V.str "dict", V.str "stream"]) ny
      have hY : SqT K (upd H y (.tup [V.str "dict", V.str "stream"])) y [V.str "dict", V.str "stream"] := SqT.of upd_same
      generalize upd H y (.tup [V.str "dict", V.str "stream"]) = H1 at sY hY
      refine ⟨_, _, rfl, .inr hY, rfl, by decide +kernel, _, rfl, ifF (by decide +kernel) ?_⟩
      exact q 0 H1 (by omega) (by omega) sY
    | bool ha =>
      rename_i a b
      refine ⟨_, rfl, a, _, _, _, rfl, rfl, SqT.of ha, atI_nat (j := 0) rfl, rfl, _, rfl, ifF (by decide +kernel) ?_⟩
      refine ⟨_, rfl, a, _, _, _, rfl, rfl, SqT.of ha, atI_nat (j := 0) rfl, by show 2 ≤ sizeLine; decide, fun y ny => ?_⟩
      have sY := same_new (o := .tup [V.str "dict", V.str "stream"]) ny
      have hY : SqT K (upd H y (.tup [V.str "dict", V.str "stream"])) y [V.str "dict", V.str "stream"] := SqT.of upd_same
      generalize upd H y (.tup [V.str "dict", V.str "stream"]) = H1 at sY hY
      refine ⟨_, _, rfl, .inr hY, rfl, by decide +kernel, _, rfl, ifF (by decide +kernel) ?_⟩
      exact q 0 H1 (by omega) (by omega) sY
    | int ha =>
      rename_i a n
      refine ⟨_, rfl, a, _, _, _, rfl, rfl, SqT.of ha, atI_nat (j := 0) rfl, rfl, _, rfl, ifF (by decide +kernel) ?_⟩
      refine ⟨_, rfl, a, _, _, _, rfl, rfl, SqT.of ha, atI_nat (j := 0) rfl, by show 2 ≤ sizeLine; decide, fun y ny => ?_⟩
      have sY := same_new (o := .tup [V.str "dict", V.str "stream"]) ny
      have hY : SqT K (upd H y (.tup [V.str "dict", V.str "stream"])) y [V.str "dict", V.str "stream"] := SqT.of upd_same
      generalize upd H y (.tup [V.str "dict", V.str "stream"]) = H1 at sY hY
      refine ⟨_, _, rfl, .inr hY, rfl, by decide +kernel, _, rfl, ifF (by decide +kernel) ?_⟩
      exact q 0 H1 (by omega) (by omega) sY
    | ref ha =>
      rename_i a n
      refine ⟨_, rfl, a, _, _, _, rfl, rfl, SqT.of ha, atI_nat (j := 0) rfl, rfl, _, rfl, ifF (by decide +kernel) ?_⟩
      refine ⟨_, rfl, a, _, _, _, rfl, rfl, SqT.of ha, atI_nat (j := 0) rfl, by show 2 ≤ sizeLine; decide, fun y ny => ?_⟩
      have sY := same_new (o := .tup [V.str "dict", V.str "stream"]) ny
      have hY : SqT K (upd H y (.tup [V.str "dict", V.str "stream"])) y [V.str "dict", V.str "stream"] := SqT.of upd_same
      generalize upd H y (.tup [V.str "dict", V.str "stream"]) = H1 at sY hY
      refine ⟨_, _, rfl, .inr hY, rfl, by decide +kernel, _, rfl, ifF (by decide +kernel) ?_⟩
      exact q 0 H1 (by omega) (by omega) sY
    | name ha ht =>
      rename_i a t d
      refine ⟨_, rfl, a, _, _, _, rfl, rfl, SqT.of ha, atI_nat (j := 0) rfl, rfl, _, rfl, ifF (by decide +kernel) ?_⟩
      refine ⟨_, rfl, a, _, _, _, rfl, rfl, SqT.of ha, atI_nat (j := 0) rfl, by show 2 ≤ sizeLine; decide, fun y ny => ?_⟩
      have sY := same_new (o := .tup [V.str "dict", V.str "stream"]) ny
      have hY : SqT K (upd H y (.tup [V.str "dict", V.str "stream"])) y [V.str "dict", V.str "stream"] := SqT.of upd_same
      generalize upd H y (.tup [V.str "dict", V.str "stream"]) = H1 at sY hY
      refine ⟨_, _, rfl, .inr hY, rfl, by decide +kernel, _, rfl, ifF (by decide +kernel) ?_⟩
      exact q 0 H1 (by omega) (by omega) sY
    | text ha ht =>
      rename_i a t d
      refine ⟨_, rfl, a, _, _, _, rfl, rfl, SqT.of ha, atI_nat (j := 0) rfl, rfl, _, rfl, ifF (by decide +kernel) ?_⟩
      refine ⟨_, rfl, a, _, _, _, rfl, rfl, SqT.of ha, atI_nat (j := 0) rfl, by show 2 ≤ sizeLine; decide, fun y ny => ?_⟩
      have sY := same_new (o := .tup [V.str "dict", V.str "stream"]) ny
      have hY : SqT K (upd H y (.tup [V.str "dict", V.str "stream"])) y [V.str "dict", V.str "stream"] := SqT.of upd_same
      generalize upd H y (.tup [V.str "dict", V.str "stream"]) = H1 at sY hY
      refine ⟨_, _, rfl, .inr hY, rfl, by decide +kernel, _, rfl, ifF (by decide +kernel) ?_⟩
      exact q 0 H1 (by omega) (by omega) sY
    | list ha ht hl =>
      rename_i a t us vs
      have hb : deep < 16 ∧ vs.length ≤ 100000 ∧ okL (deep + 1) vs := hok
      have hul := hl.len
      refine ⟨_, rfl, a, _, _, _, rfl, rfl, SqT.of ha, atI_nat (j := 0) rfl, rfl, _, rfl, ifT (by decide +kernel) ?_⟩
      refine ⟨_, rfl, a, _, _, _, rfl, rfl, SqT.of ha, atI_nat (j := 1) rfl, t, rfl, ⟨_, SqT.of ht⟩, fun D nD => ?_⟩
      refine lc_tup (K := K) (a := t) (xs := us) (fun j H3 => Same H H3 ∧ j ≤ us.length ∧ ∃ ns : List Int, H3 D = some (.lst (ns.map V.int)) ∧ ns.length = j ∧ ∀ n ∈ ns, 0 ≤ n ∧ n ≤ 15 - (deep : Int)) ⟨same_new nD, Nat.zero_le _, [], upd_same, rfl, fun n h => by cases h⟩ (fun j H3 _ ⟨s3, _⟩ => SqT.of (s3 _ _ ht)) ?_ ?_
      · rintro j x H3 hx ⟨s3, hj, ns, hns, hnl, hle⟩
        obtain ⟨v, hv, rep⟩ := (hl.keep (TK.of s3)).get hx
        have hjl := (List.getElem?_eq_some_iff.mp hx).1
        refine ⟨rfl, _, rfl, hb.1, x, v, rfl, rep, okL_get hb.2.2 hv, fun n H4 hn0 hn1 s4 => ?_⟩
        refine ⟨_, s4 _ _ hns, ?_, ?_, by omega, ns ++ [n], upd_same.trans (by rw [map_snoc]), by rw [List.length_append]; simp [hnl], ?_⟩
        · rw [List.length_map]
          exact line_big (by omega)
        · intro c o e
          rw [upd_ne (ne_of_none e nD)]
          exact s4 _ _ (s3 c o e)
        · intro m hm
          rcases List.mem_append.mp hm with h | h
          · exact hle m h
          · rw [List.mem_singleton.mp h]
            omega
      · rintro H3 ⟨s3, _, ns, hns, hnl, hle⟩
        refine ⟨by show 1 ≤ sizeLine; decide, fun z nz => ?_⟩
        have sZ := same_new (o := .lst [V.int 0]) nz
        have hZ : (upd H3 z (.lst [V.int 0])) z = some (.lst (([0] : List Int).map V.int)) := upd_same
        generalize upd H3 z (.lst [V.int 0]) = H4 at sZ hZ
        refine ⟨D, z, _, _, rfl, rfl, sZ _ _ hns, hZ, ?_, fun r nr => ?_⟩
        · rw [List.length_map, List.length_map]
          exact Nat.le_trans (show _ ≤ 100001 by simp only [List.length_cons, List.length_nil]; omega) (by decide)
        have sR := same_new (o := .lst (ns.map V.int ++ ([0] : List Int).map V.int)) nr
        have hR : (upd H4 r (.lst (ns.map V.int ++ ([0] : List Int).map V.int))) r = some (.lst ((ns ++ [0]).map V.int)) := upd_same.trans (by rw [List.map_append])
        generalize upd H4 r (.lst (ns.map V.int ++ ([0] : List Int).map V.int)) = H5 at sR hR
        refine ⟨r, ns ++ [0], rfl, SqL.of hR, by rw [List.length_append]; simp, fun m hm _ => ⟨_, _, rfl, rfl, ?_⟩⟩
        have hmb : 0 ≤ m ∧ m ≤ 15 - (deep : Int) := by
          rcases List.mem_append.mp hm with h | h
          · exact hle m h
          · rw [List.mem_singleton.mp h]
            omega
        exact q (1 + m) H5 (by omega) (by omega) ((s3.trans (sZ.trans sR)))
    | dict ha ht hp =>
      rename_i a t us ps
      have hok : deep < 16 ∧ ps.length ≤ 100000 ∧ (ps.map (·.1)).Nodup ∧ okP (deep + 1) ps := hok
      have hb : deep < 16 ∧ ps.length ≤ 100000 ∧ okP (deep + 1) ps := ⟨hok.1, hok.2.1, hok.2.2.2⟩
      have hul := hp.len
      refine ⟨_, rfl, a, _, _, _, rfl, rfl, SqT.of ha, atI_nat (j := 0) rfl, rfl, _, rfl, ifF (by decide +kernel) ?_⟩
      refine ⟨_, rfl, a, _, _, _, rfl, rfl, SqT.of ha, atI_nat (j := 0) rfl, by show 2 ≤ sizeLine; decide, fun y ny => ?_⟩
      have sY := same_new (o := .tup [V.str "dict", V.str "stream"]) ny
      have hY : SqT K (upd H y (.tup [V.str "dict", V.str "stream"])) y [V.str "dict", V.str "stream"] := SqT.of upd_same
      generalize upd H y (.tup [V.str "dict", V.str "stream"]) = H1 at sY hY
      refine ⟨_, _, rfl, .inr hY, rfl, by decide +kernel, _, rfl, ifT (by decide +kernel) ?_⟩
      refine ⟨_, rfl, a, _, _, _, rfl, rfl, SqT.of (sY _ _ ha), atI_nat (j := 1) rfl, t, rfl, ⟨_, SqT.of (sY _ _ ht)⟩, fun D nD => ?_⟩
      refine lc_tup (K := K) (a := t) (xs := us) (fun j H3 => Same H1 H3 ∧ j ≤ us.length ∧ ∃ ns : List Int, H3 D = some (.lst (ns.map V.int)) ∧ ns.length = j ∧ ∀ n ∈ ns, 0 ≤ n ∧ n ≤ 15 - (deep : Int)) ⟨same_new nD, Nat.zero_le _, [], upd_same, rfl, fun n h => by cases h⟩ (fun j H3 _ ⟨s3, _⟩ => SqT.of (s3 _ _ (sY _ _ ht))) ?_ ?_
      · rintro j x H3 hx ⟨s3, hj, ns, hns, hnl, hle⟩
        obtain ⟨qa, kq, y, ky, v, rfl, hpi, hq, hkq, rep⟩ := (hp.keep (TK.of (sY.trans s3))).get hx
        have hjl := (List.getElem?_eq_some_iff.mp hx).1
        refine ⟨rfl, _, rfl, qa, _, _, _, rfl, rfl, SqT.of hq, atI_nat (j := 1) rfl, hb.1, y, v, rfl, rep, (okP_get hb.2.2 hpi).2, fun n H4 hn0 hn1 s4 => ?_⟩
        refine ⟨_, s4 _ _ hns, ?_, ?_, by omega, ns ++ [n], upd_same.trans (by rw [map_snoc]), by rw [List.length_append]; simp [hnl], ?_⟩
        · rw [List.length_map]
          exact line_big (by omega)
        · intro c o e
          rw [upd_ne (ne_of_none e nD)]
          exact s4 _ _ (s3 c o e)
        · intro m hm
          rcases List.mem_append.mp hm with h | h
          · exact hle m h
          · rw [List.mem_singleton.mp h]
            omega
      · rintro H3 ⟨s3, _, ns, hns, hnl, hle⟩
        refine ⟨by show 1 ≤ sizeLine; decide, fun z nz => ?_⟩
        have sZ := same_new (o := .lst [V.int 0]) nz
        have hZ : (upd H3 z (.lst [V.int 0])) z = some (.lst (([0] : List Int).map V.int)) := upd_same
        generalize upd H3 z (.lst [V.int 0]) = H4 at sZ hZ
        refine ⟨D, z, _, _, rfl, rfl, sZ _ _ hns, hZ, ?_, fun r nr => ?_⟩
        · rw [List.length_map, List.length_map]
          exact Nat.le_trans (show _ ≤ 100001 by simp only [List.length_cons, List.length_nil]; omega) (by decide)
        have sR := same_new (o := .lst (ns.map V.int ++ ([0] : List Int).map V.int)) nr
        have hR : (upd H4 r (.lst (ns.map V.int ++ ([0] : List Int).map V.int))) r = some (.lst ((ns ++ [0]).map V.int)) := upd_same.trans (by rw [List.map_append])
        generalize upd H4 r (.lst (ns.map V.int ++ ([0] : List Int).map V.int)) = H5 at sR hR
        refine ⟨r, ns ++ [0], rfl, SqL.of hR, by rw [List.length_append]; simp, fun m hm _ => ⟨_, _, rfl, rfl, ?_⟩⟩
        have hmb : 0 ≤ m ∧ m ≤ 15 - (deep : Int) := by
          rcases List.mem_append.mp hm with h | h
          · exact hle m h
          · rw [List.mem_singleton.mp h]
            omega
        exact q (1 + m) H5 (by omega) (by omega) (sY.trans (s3.trans (sZ.trans sR)))
    | stream ha ht hp he =>
      rename_i a t e us ps d
      have hok : deep < 16 ∧ ps.length ≤ 100000 ∧ (ps.map (·.1)).Nodup ∧ okP (deep + 1) ps ∧ okD d := hok
      have hb : deep < 16 ∧ ps.length ≤ 100000 ∧ okP (deep + 1) ps := ⟨hok.1, hok.2.1, hok.2.2.2.1⟩
      have hul := hp.len
      refine ⟨_, rfl, a, _, _, _, rfl, rfl, SqT.of ha, atI_nat (j := 0) rfl, rfl, _, rfl, ifF (by decide +kernel) ?_⟩
      refine ⟨_, rfl, a, _, _, _, rfl, rfl, SqT.of ha, atI_nat (j := 0) rfl, by show 2 ≤ sizeLine; decide, fun y ny => ?_⟩
      have sY := same_new (o := .tup [V.str "dict", V.str "stream"]) ny
      have hY : SqT K (upd H y (.tup [V.str "dict", V.str "stream"])) y [V.str "dict", V.str "stream"] := SqT.of upd_same
      generalize upd H y (.tup [V.str "dict", V.str "stream"]) = H1 at sY hY
      refine ⟨_, _, rfl, .inr hY, rfl, by decide +kernel, _, rfl, ifT (by decide +kernel) ?_⟩
      refine ⟨_, rfl, a, _, _, _, rfl, rfl, SqT.of (sY _ _ ha), atI_nat (j := 1) rfl, t, rfl, ⟨_, SqT.of (sY _ _ ht)⟩, fun D nD => ?_⟩
      refine lc_tup (K := K) (a := t) (xs := us) (fun j H3 => Same H1 H3 ∧ j ≤ us.length ∧ ∃ ns : List Int, H3 D = some (.lst (ns.map V.int)) ∧ ns.length = j ∧ ∀ n ∈ ns, 0 ≤ n ∧ n ≤ 15 - (deep : Int)) ⟨same_new nD, Nat.zero_le _, [], upd_same, rfl, fun n h => by cases h⟩ (fun j H3 _ ⟨s3, _⟩ => SqT.of (s3 _ _ (sY _ _ ht))) ?_ ?_
      · rintro j x H3 hx ⟨s3, hj, ns, hns, hnl, hle⟩
        obtain ⟨qa, kq, y, ky, v, rfl, hpi, hq, hkq, rep⟩ := (hp.keep (TK.of (sY.trans s3))).get hx
        have hjl := (List.getElem?_eq_some_iff.mp hx).1
        refine ⟨rfl, _, rfl, qa, _, _, _, rfl, rfl, SqT.of hq, atI_nat (j := 1) rfl, hb.1, y, v, rfl, rep, (okP_get hb.2.2 hpi).2, fun n H4 hn0 hn1 s4 => ?_⟩
        refine ⟨_, s4 _ _ hns, ?_, ?_, by omega, ns ++ [n], upd_same.trans (by rw [map_snoc]), by rw [List.length_append]; simp [hnl], ?_⟩
        · rw [List.length_map]
          exact line_big (by omega)
        · intro c o e
          rw [upd_ne (ne_of_none e nD)]
          exact s4 _ _ (s3 c o e)
        · intro m hm
          rcases List.mem_append.mp hm with h | h
          · exact hle m h
          · rw [List.mem_singleton.mp h]
            omega
      · rintro H3 ⟨s3, _, ns, hns, hnl, hle⟩
        refine ⟨by show 1 ≤ sizeLine; decide, fun z nz => ?_⟩
        have sZ := same_new (o := .lst [V.int 0]) nz
        have hZ : (upd H3 z (.lst [V.int 0])) z = some (.lst (([0] : List Int).map V.int)) := upd_same
        generalize upd H3 z (.lst [V.int 0]) = H4 at sZ hZ
        refine ⟨D, z, _, _, rfl, rfl, sZ _ _ hns, hZ, ?_, fun r nr => ?_⟩
        · rw [List.length_map, List.length_map]
          exact Nat.le_trans (show _ ≤ 100001 by simp only [List.length_cons, List.length_nil]; omega) (by decide)
        have sR := same_new (o := .lst (ns.map V.int ++ ([0] : List Int).map V.int)) nr
        have hR : (upd H4 r (.lst (ns.map V.int ++ ([0] : List Int).map V.int))) r = some (.lst ((ns ++ [0]).map V.int)) := upd_same.trans (by rw [List.map_append])
        generalize upd H4 r (.lst (ns.map V.int ++ ([0] : List Int).map V.int)) = H5 at sR hR
        refine ⟨r, ns ++ [0], rfl, SqL.of hR, by rw [List.length_append]; simp, fun m hm _ => ⟨_, _, rfl, rfl, ?_⟩⟩
        have hmb : 0 ≤ m ∧ m ≤ 15 - (deep : Int) := by
          rcases List.mem_append.mp hm with h | h
          · exact hle m h
          · rw [List.mem_singleton.mp h]
            omega
        exact q (1 + m) H5 (by omega) (by omega) (sY.trans (s3.trans (sZ.trans sR)))
theorem no_law_deep (T : Tx K mg) {k : Nat} : Cal P w K mg base "_law_deep" (k + 1) ["_law_value"] (spDeepN 16) := by
  obtain ⟨fd, F⟩ := T.F_law_deep
  refine ⟨_, fd, F.ok (k := k) sc_law_deep (fun vs H Q E h => ?_) (fun cdv A outer s H vs Q E hr h => ?_), T.g_law_deep, F.kp, F.binds fun _ _ _ _ _ _ us hl => match us, hl with | [_], _ => rfl⟩
  · exact absurd h.1 (by decide)
  · exact absurd h.1 (by decide)
theorem ok_law_deeps (T : Tx K mg) : ∀ j, j ≤ 16 → Cal P w K mg base "_law_deep" (2 + j) ["_law_value"] (spDeep (16 - j))
  | 0, _ => ok_law_deep T (k := 1) (by decide) (no_law_deep T (k := 0))
  | j + 1, h => by
    have ih := ok_law_deeps T j (by omega)
    have e : 16 - j = 16 - (j + 1) + 1 := by omega
    rw [e] at ih
    exact ok_law_deep T (by omega) (ih.imp fun vs H Q E h => h.2)
theorem ok_law_deep0 (T : Tx K mg) : Cal P w K mg base "_law_deep" 18 ["_law_value"] (spDeep 0) := ok_law_deeps T 16 (by decide)
/-! ### sound -/
def spLSound : Sp := fun vs H Q _ => ∃ (b a : Addr) (us : List V) (sobs : List (Int × Val)) (root : Int), vs = [.ref b] ∧ H b = some (.tup [.ref a, .int root]) ∧ H a = some (.tup us) ∧ RepB H us sobs ∧ OkB sobs root ∧ ∀ H', Same H H' → Q (.bl true) H'
theorem sc_law_sound : FnScope ["_law_book", "_law_last", "_law_number", "_law_value", "_law_one"] ["_law_book"] (defScope s_law_sound) := ⟨rfl, rfl, rfl, by decide +kernel, rfl, by decide +kernel, by decide +kernel⟩
theorem lookI_mem {n : Int} : ∀ {obs : List (Int × Val)}, lookI n obs ≠ none → n ∈ obs.map (·.1)
  | [], h => absurd rfl h
  | (k, v) :: r, h => by
    by_cases e : k = n
    · rw [List.map_cons, e]
      exact List.mem_cons_self
    · rw [List.map_cons]
      refine List.mem_cons_of_mem _ (lookI_mem ?_)
      have : lookI n ((k, v) :: r) = lookI n r := if_neg e
      rw [this] at h
      exact h
theorem ok_law_sound (T : Tx K mg) : Cal P w K mg base "_law_sound" 19 ["_law_book"] spLSound := by
  obtain ⟨fd, F⟩ := T.F_law_sound
  refine ⟨_, fd, F.ok sc_law_sound (fun vs H Q E h => ?_) (fun cdv A outer s H vs Q E hr h => ?_), T.g_law_sound, F.kp, F.binds fun _ _ _ _ _ _ us hl => match us, hl with | [_], _ => rfl⟩
  · obtain ⟨b, a, us, sobs, root, rfl, _⟩ := h
    rfl
  · obtain ⟨b, a, us, sobs, root, rfl, hb, ha, hB, ok, q⟩ := h
    refine ⟨_, pss_cons (ps_set (i := 1) sc_law_sound.nd rfl (.inl rfl) pe_int)
      (pss_cons (ps_for PassesOwn.never rfl (pi_tup (pe_ix ix_tup (pv 0) pe_int (fun _ _ => rfl))) (pg_tup (by rfl) (pgs_cons (pg_name (i := 2) sc_law_sound.nd rfl (.inl rfl)) (pgs_cons (pg_name (i := 3) sc_law_sound.nd rfl (.inl rfl)) pgs_nil)))
        (pss_cons (ps_if (PW.pt (pw_or (pt_not (pt_val (pe_callB call_isi (by rfl) T.fr_isinstance (by decide +kernel) (pa_cons (pv 2) (pa_cons (pe_bltn (v := .ty "int") (by rfl) T.fr_int (by decide +kernel) rfl) pa_nil)))))
            (pw_or (pt_cmpR op_le (pv 2) (pv 1) (nomark _)) (pw_or (pt_cmpR op_gt (pv 2) pe_int (nomark _)) (pw_or1 (pt_cmpR op_gt (pe_cal (ok_law_deep0 T) hr (pa_cons (pv 3) pa_nil)) pe_int (nomark _))))))) (pss_one (ps_ret pe_bl)) pss_nil)
        (pss_one (ps_set (i := 1) sc_law_sound.nd rfl (.inl rfl) (pv 2)))))
      (pss_one (ps_ret (pe_or (pe_cmpR op_eq (pe_ix ix_tup (pv 0) pe_int (fun _ _ => rfl)) pe_int (nomark _)) (pe_one (pe_cmpR op_in_seq (pe_ix ix_tup (pv 0) pe_int (fun _ _ => rfl)) (pe_lc (own := [("_law_one", 4)]) (g := gName 4) (tt := tYes) rfl sc_law_sound.nd (pi_tup (pe_ix ix_tup (pv 0) pe_int (fun _ _ => rfl)))
            (blkOk_by (own := [("_law_one", 4)]) (N := ["_law_book", "_law_last", "_law_number", "_law_value", "_law_one"]) (sc := defScope s_law_sound) (by decide +kernel))
            (fun _ _ _ _ _ => pg_name (i := 4) sc_law_sound.nd rfl (Or.inl rfl)) (fun _ _ _ _ _ => pts_nil) (fun _ _ _ _ _ => pe_ix (r := rIxT K) ix_tup (pv 4) pe_int (fun _ _ => rfl))) rfl)))))), ?_⟩
    have hul := hB.len
    refine ⟨_, rfl, b, _, _, _, rfl, rfl, SqT.of hb, rfl, a, rfl, ⟨_, SqT.of ha⟩, for_tup (K := K) (a := a) (xs := us) (fun i σ H' => ∃ last x2 x3, σ = [some (.ref b), some (.int last), x2, x3, none] ∧ Same H H' ∧ ∀ n ∈ (sobs.map (·.1)).drop i, last < n) ⟨0, none, none, rfl, Same.refl _, ?_⟩ (fun i σ H' _ ⟨_, _, _, _, e, _⟩ => SqT.of (e _ _ ha)) ?_ ?_⟩
    · intro n hn
      obtain ⟨o, ho, e⟩ := List.mem_map.mp (List.mem_of_mem_drop hn)
      have := (ok.num o ho).1
      omega
    · rintro i x σ H' hx ⟨last, x2, x3, rfl, sm, hgt⟩
      obtain ⟨qa, n, y, v, rfl, hi, hq, rep⟩ := (hB.keep (TK.of sm)).get hx
      have hmem := List.mem_of_getElem? hi
      have hnum := ok.num _ hmem
      have hval := ok.val _ hmem
      simp only [] at hnum hval
      have hki : (sobs.map (·.1))[i]? = some n := by rw [List.getElem?_map, hi] <;> rfl
      have hdr := drop_at hki
      have hlt : last < n := hgt n (by rw [hdr]; exact List.mem_cons_self)
      refine ⟨qa, _, rfl, SqT.of hq, rfl, _, _, rfl, _, _, rfl, rfl, ?_⟩
      refine ⟨_, rfl, .int n, .ty "int", _, _, true, rfl, .ty _, .base (.int n), kit_ty (by decide +kernel), _, rfl, iteF ?_⟩
      refine ⟨_, rfl, _, rfl, _, _, rfl, rfl, _, rfl, ifB_f (by omega) ?_⟩
      refine ⟨_, rfl, _, _, rfl, rfl, _, rfl, ifB_f (by omega) ?_⟩
      refine ⟨_, rfl, y, v, rfl, rep, hval, fun m H2 hm0 hm1 s2 => ⟨_, _, rfl, rfl, _, rfl, ifB_f (by omega) ?_⟩⟩
      refine ⟨_, rfl, n, _, _, rfl, sm.trans s2, ?_⟩
      intro m hm
      have hp := List.Pairwise.sublist (List.drop_sublist i _) ok.inc
      rw [hdr] at hp
      exact (List.pairwise_cons.mp hp).1 m hm
    · rintro σ H' ⟨last, x2, x3, rfl, sm, _⟩
      have hb2 := sm _ _ hb
      have ha2 := sm _ _ ha
      have hB2 := hB.keep (TK.of sm)
      refine ⟨_, rfl, b, _, _, _, rfl, rfl, SqT.of hb2, atI_nat (j := 1) rfl, rfl, _, rfl, ?_⟩
      rcases ok.rt with h | h
      · refine ifI_f (by omega) ?_
        refine ⟨_, rfl, b, _, _, _, rfl, rfl, SqT.of hb2, atI_nat (j := 1) rfl, _, rfl, b, _, _, _, rfl, rfl, SqT.of hb2, rfl, a, rfl, ⟨_, SqT.of ha2⟩, fun D nD => ?_⟩
        refine lc_tup (K := K) (a := a) (xs := us) (fun j H3 => Same H' H3 ∧ j ≤ us.length ∧ H3 D = some (.lst (((sobs.map (·.1)).take j).map V.int))) ⟨same_new nD, Nat.zero_le _, upd_same⟩ (fun j H3 _ ⟨s3, _⟩ => SqT.of (s3 _ _ ha2)) ?_ ?_
        · rintro j x H3 hx ⟨s3, hj, e3⟩
          obtain ⟨qa, n, y, v, rfl, hi, hq, rep⟩ := (hB2.keep (TK.of s3)).get hx
          have hjl := (List.getElem?_eq_some_iff.mp hx).1
          have hki : (sobs.map (·.1))[j]? = some n := by rw [List.getElem?_map, hi] <;> rfl
          refine ⟨rfl, _, rfl, qa, _, _, _, rfl, rfl, SqT.of hq, rfl, _, e3, ?_, ?_, by omega, ?_⟩
          · rw [List.length_map, List.length_take, List.length_map]
            have := ok.few
            exact line_big (by omega)
          · intro c o e
            rw [upd_ne (ne_of_none e nD)]
            exact s3 c o e
          · rw [upd_same, List.take_add_one, hki, List.map_append] <;> rfl
        · rintro H3 ⟨s3, _, e3⟩
          rw [hul, ← List.length_map (f := (·.1)), List.take_length] at e3
          refine ⟨D, _, rfl, .inl (SqL.of e3), rfl, flat_ints _, ?_⟩
          have e := in_eq root (sobs.map (·.1))
          rw [decide_eq_true (lookI_mem h.2.2)] at e
          have q' := q H3 (sm.trans s3)
          rw [← e] at q'
          exact q'
      · exact ifI_t h.1 (q _ sm)
end
end K22

set_option maxHeartbeats 4000000
/-! the law -/
namespace K22
open PySem PySem.Spec PyProof.Rows L2
mutual
def toPy : Val → PyData
  | .none => .tuple [.str "none"]
  | .bool b => .tuple [.str "bool", .int (if b then 1 else 0)]
  | .int n => .tuple [.str "int", .int n]
  | .name d => .tuple [.str "name", .tuple (d.map PyData.int)]
  | .text d => .tuple [.str "text", .tuple (d.map PyData.int)]
  | .ref n => .tuple [.str "ref", .int n]
  | .list vs => .tuple [.str "list", .tuple (toPyL vs)]
  | .dict ps => .tuple [.str "dict", .tuple (toPyP ps)]
  | .stream ps d => .tuple [.str "stream", .tuple (toPyP ps), .tuple (d.map PyData.int)]
def toPyL : List Val → List PyData
  | [] => []
  | v :: r => toPy v :: toPyL r
def toPyP : List (List Int × Val) → List PyData
  | [] => []
  | (k, v) :: r => .tuple [.tuple (k.map PyData.int), toPy v] :: toPyP r
end
def toPyB : List (Int × Val) → List PyData
  | [] => []
  | (n, v) :: r => .tuple [.int n, toPy v] :: toPyB r
mutual
theorem Rep.dp {K : PySem.W.Frag} {H : Hp} : ∀ {u : V} {v : Val}, Rep H u v → Dp K H u (toPy v)
  | _, _, .none h => by unfold toPy; exact .tup (SqT.of h) (.cons (.str _) .nil)
  | _, _, .bool h => by unfold toPy; exact .tup (SqT.of h) (.cons (.str _) (.cons (.int _) .nil))
  | _, _, .int h => by unfold toPy; exact .tup (SqT.of h) (.cons (.str _) (.cons (.int _) .nil))
  | _, _, .name h1 h2 => by unfold toPy; exact .tup (SqT.of h1) (.cons (.str _) (.cons (dp_tup (SqT.of h2)) .nil))
  | _, _, .text h1 h2 => by unfold toPy; exact .tup (SqT.of h1) (.cons (.str _) (.cons (dp_tup (SqT.of h2)) .nil))
  | _, _, .ref h => by unfold toPy; exact .tup (SqT.of h) (.cons (.str _) (.cons (.int _) .nil))
  | _, _, .list h1 h2 r => by unfold toPy; exact .tup (SqT.of h1) (.cons (.str _) (.cons (.tup (SqT.of h2) (RepL.dp r)) .nil))
  | _, _, .dict h1 h2 r => by unfold toPy; exact .tup (SqT.of h1) (.cons (.str _) (.cons (.tup (SqT.of h2) (RepP.dp r)) .nil))
  | _, _, .stream h1 h2 r h3 => by unfold toPy; exact .tup (SqT.of h1) (.cons (.str _) (.cons (.tup (SqT.of h2) (RepP.dp r)) (.cons (dp_tup (SqT.of h3)) .nil)))
theorem RepL.dp {K : PySem.W.Frag} {H : Hp} : ∀ {us : List V} {vs : List Val}, RepL H us vs → DpAll K H us (toPyL vs)
  | _, _, .nil => by unfold toPyL; exact .nil
  | _, _, .cons r t => by unfold toPyL; exact .cons (Rep.dp r) (RepL.dp t)
theorem RepP.dp {K : PySem.W.Frag} {H : Hp} : ∀ {us : List V} {ps : List (List Int × Val)}, RepP H us ps → DpAll K H us (toPyP ps)
  | _, _, .nil => by unfold toPyP; exact .nil
  | _, _, .cons h1 h2 r t => by unfold toPyP; exact .cons (.tup (SqT.of h1) (.cons (dp_tup (SqT.of h2)) (.cons (Rep.dp r) .nil))) (RepP.dp t)
end
theorem RepB.dp {K : PySem.W.Frag} {H : Hp} {us : List V} {obs : List (Int × Val)} (r : RepB H us obs) : DpAll K H us (toPyB obs) := by
  induction r with
  | nil => exact .nil
  | cons h a _ ih => exact .cons (.tup (SqT.of h) (.cons (.int _) (.cons (Rep.dp a) .nil))) ih
mutual
theorem lay_py : ∀ v : Val, PyData.canLay0 (toPy v) = true
  | .none => by unfold toPy; decide +kernel
  | .bool b => by unfold toPy; simp only [PyData.canLay0, PyData.canLayAll0, Bool.and_true]; decide +kernel
  | .int n => by unfold toPy; simp only [PyData.canLay0, PyData.canLayAll0, Bool.and_true]; decide +kernel
  | .ref n => by unfold toPy; simp only [PyData.canLay0, PyData.canLayAll0, Bool.and_true]; decide +kernel
  | .name d => by unfold toPy; simp only [PyData.canLay0, PyData.canLayAll0, Bool.and_true, lay_ints]; decide +kernel
  | .text d => by unfold toPy; simp only [PyData.canLay0, PyData.canLayAll0, Bool.and_true, lay_ints]; decide +kernel
  | .list vs => by unfold toPy; simp only [PyData.canLay0, PyData.canLayAll0, Bool.and_true, lay_pyL vs]; decide +kernel
  | .dict ps => by unfold toPy; simp only [PyData.canLay0, PyData.canLayAll0, Bool.and_true, lay_pyP ps]; decide +kernel
  | .stream ps d => by unfold toPy; simp only [PyData.canLay0, PyData.canLayAll0, Bool.and_true, lay_pyP ps, lay_ints]; decide +kernel
theorem lay_pyL : ∀ vs : List Val, PyData.canLayAll0 (toPyL vs) = true
  | [] => by unfold toPyL; rfl
  | v :: r => by unfold toPyL; simp only [PyData.canLayAll0, lay_py v, lay_pyL r, Bool.and_true]
theorem lay_pyP : ∀ ps : List (List Int × Val), PyData.canLayAll0 (toPyP ps) = true
  | [] => by unfold toPyP; rfl
  | (k, v) :: r => by unfold toPyP; simp only [PyData.canLay0, PyData.canLayAll0, lay_py v, lay_pyP r, lay_ints, Bool.and_true]
end
theorem lay_pyB : ∀ obs : List (Int × Val), PyData.canLayAll0 (toPyB obs) = true
  | [] => rfl
  | (n, v) :: r => by unfold toPyB; simp only [PyData.canLay0, PyData.canLayAll0, lay_py v, lay_pyB r, Bool.and_true]
theorem dep_ints (d : List Int) : PyData.depthAll (d.map PyData.int) = 0 := by
  induction d with
  | nil => rfl
  | cons a r ih => rw [List.map_cons]; simp only [PyData.depthAll, PyData.depth, ih]; rfl
mutual
theorem dep_py : ∀ (v : Val) (deep : Nat), okV deep v → PyData.depth (toPy v) ≤ 3 * (16 - deep) + 2
  | .none, _, _ => by unfold toPy; simp only [PyData.depth, PyData.depthAll]; omega
  | .bool b, _, _ => by unfold toPy; simp only [PyData.depth, PyData.depthAll]; omega
  | .int n, _, _ => by unfold toPy; simp only [PyData.depth, PyData.depthAll]; omega
  | .ref n, _, _ => by unfold toPy; simp only [PyData.depth, PyData.depthAll]; omega
  | .name d, _, _ => by unfold toPy; simp only [PyData.depth, PyData.depthAll, dep_ints]; omega
  | .text d, _, _ => by unfold toPy; simp only [PyData.depth, PyData.depthAll, dep_ints]; omega
  | .list vs, deep, h => by
    unfold okV at h
    have ih := dep_pyL vs (deep + 1) h.2.2
    unfold toPy
    simp only [PyData.depth, PyData.depthAll]
    omega
  | .dict ps, deep, h => by
    unfold okV at h
    have ih := dep_pyP ps (deep + 1) h.2.2.2
    unfold toPy
    simp only [PyData.depth, PyData.depthAll]
    omega
  | .stream ps d, deep, h => by
    unfold okV at h
    have ih := dep_pyP ps (deep + 1) h.2.2.2.1
    unfold toPy
    simp only [PyData.depth, PyData.depthAll, dep_ints]
    omega
theorem dep_pyL : ∀ (vs : List Val) (deep : Nat), okL deep vs → PyData.depthAll (toPyL vs) ≤ 3 * (16 - deep) + 2
  | [], _, _ => by unfold toPyL; simp only [PyData.depthAll]; omega
  | v :: r, deep, h => by
    unfold okL at h
    have h1 := dep_py v deep h.1
    have h2 := dep_pyL r deep h.2
    unfold toPyL
    simp only [PyData.depthAll]
    omega
theorem dep_pyP : ∀ (ps : List (List Int × Val)) (deep : Nat), okP deep ps → PyData.depthAll (toPyP ps) ≤ 3 * (16 - deep) + 3
  | [], _, _ => by unfold toPyP; simp only [PyData.depthAll]; omega
  | (k, v) :: r, deep, h => by
    unfold okP at h
    have h1 := dep_py v deep h.2.1
    have h2 := dep_pyP r deep h.2.2
    unfold toPyP
    simp only [PyData.depth, PyData.depthAll, dep_ints]
    omega
end
theorem dep_pyB : ∀ (obs : List (Int × Val)), (∀ o ∈ obs, okV 0 o.2) → PyData.depthAll (toPyB obs) ≤ 51
  | [], _ => by unfold toPyB; simp only [PyData.depthAll]; omega
  | (n, v) :: r, h => by
    have h1 := dep_py v 0 (h (n, v) List.mem_cons_self)
    have h2 := dep_pyB r fun o ho => h o (List.mem_cons_of_mem _ ho)
    unfold toPyB
    simp only [PyData.depth, PyData.depthAll]
    omega
/-- the pair (book, 0) -/
def pyPair (sobs : List (Int × Val)) (R : Int) : PyData := .tuple [.tuple [.tuple (toPyB sobs), .int R], .int 0]
theorem pyPair_shaped {sobs : List (Int × Val)} {R : Int} (h : ∀ o ∈ sobs, okV 0 o.2) : SeqAt.shaped (pyPair sobs R) = true := by
  have h1 := dep_pyB sobs h
  show (PyData.canLay0 (pyPair sobs R) && decide (PyData.depth (pyPair sobs R) ≤ 64)) = true
  rw [Bool.and_eq_true]
  refine ⟨?_, decide_eq_true ?_⟩
  · unfold pyPair
    simp only [PyData.canLay0, PyData.canLayAll0, lay_pyB sobs, Bool.and_true]
  · unfold pyPair
    simp only [PyData.depth, PyData.depthAll]
    omega
theorem sorted_one : ∀ {l1 l2 : List (Int × Val)}, l1.Perm l2 → (l1.map (·.1)).Pairwise (· < ·) → (l2.map (·.1)).Pairwise (· < ·) → l1 = l2
  | [], l2, p, _, _ => (List.nil_perm.mp p).symm
  | x :: s, [], p, _, _ => absurd p.length_eq (by simp)
  | x :: s, y :: t, p, h1, h2 => by
    have a1 := List.pairwise_cons.mp h1
    have a2 := List.pairwise_cons.mp h2
    have e : x = y := by
      have hx : x ∈ y :: t := p.mem_iff.mp List.mem_cons_self
      have hy : y ∈ x :: s := p.mem_iff.mpr List.mem_cons_self
      rcases List.mem_cons.mp hx with h | h
      · exact h
      · rcases List.mem_cons.mp hy with h' | h'
        · exact h'.symm
        · have c1 : x.1 < y.1 := a1.1 y.1 (List.mem_map.mpr ⟨y, h', rfl⟩)
          have c2 : y.1 < x.1 := a2.1 x.1 (List.mem_map.mpr ⟨x, h, rfl⟩)
          omega
    subst e
    rw [sorted_one (List.Perm.cons_inv p) a1.2 a2.2]
theorem lt_of_le_nodup : ∀ {l : List Int}, l.Pairwise (· ≤ ·) → l.Nodup → l.Pairwise (· < ·)
  | [], _, _ => .nil
  | x :: s, h, n => by
    have a := List.pairwise_cons.mp h
    have b := List.nodup_cons.mp n
    refine List.pairwise_cons.mpr ⟨fun y hy => ?_, lt_of_le_nodup a.2 b.2⟩
    have := a.1 y hy
    have : x ≠ y := fun e => b.1 (by rw [e]; exact hy)
    omega
/-- a book that was read: sound, its text short, read again the same -/
structure Good (sobs : List (Int × Val)) (R : Int) : Prop where
  ok : OkB sobs R
  len : (wBook sobs R).length ≤ 100000
  byt : ∀ b ∈ wBook sobs R, 0 ≤ b ∧ b ≤ 255
  few : sobs.length < 64
  back : ∃ r2, PO [] 0 (skipS false (wBook sobs R)) sobs r2 ∧ (if lookI r2 sobs = none then firstP sobs else r2) = R
/-- what is to be shown of the mirror -/
structure Facts : Prop where
  few : ∀ data obs root, okAny data 599 40 → PO [] 0 (skipS false data) obs root → obs.length < 64
  good : ∀ data obs root sobs, okAny data 599 40 → PO [] 0 (skipS false data) obs root → obs ≠ [] → sobs.Perm obs → (sobs.map (·.1)).Pairwise (· < ·) → Good sobs (if lookI root obs = none then firstP sobs else root)
section
variable {P : Program} {w : World} {K : PySem.W.Frag} {mg : Str → Option Value} {base : Heap}
def spLaw (K : PySem.W.Frag) : Sp := fun vs H Q _ => ∃ (a : Addr) (ns : List Int), vs = [.ref a] ∧ SqL K H a (ns.map V.int) ∧ ∀ H', Q (.bl true) H'
theorem sc_law : FnScope ["_law_script", "_law_k", "_law_data", "_law_given", "_law_left", "_law_found", "_law_rest", "_law_written"] ["_law_script"] (defScope s_law) := ⟨rfl, rfl, rfl, by decide +kernel, rfl, by decide +kernel, by decide +kernel⟩
theorem ok_law (Fx : Facts) (T : Tx K mg) {fd : FuncData} (F : Fun K "law" "law" s_law (He.ga K "law") fd) : FnOk P w K mg base CX0 40 (He.ga K "law") fd ["_law_script"] (spLaw K) := by
  refine F.ok sc_law (fun vs H Q E h => ?_) (fun cdv A outer s H vs Q E hr h => ?_)
  · obtain ⟨a, ns, rfl, _⟩ := h
    rfl
  · obtain ⟨a, ns, rfl, hS, q⟩ := h
    have hr1 : Room 1 _ := hr.mono (by decide)
    have hr3 : Room 3 _ := hr.mono (by decide)
    have hr19 : Room 19 _ := hr.mono (by decide)
    have hr37 : Room 37 _ := hr.mono (by decide)
    have hr38 : Room 38 _ := hr.mono (by decide)
    refine ⟨_, pss_cons (ps_for PassesOwn.never rfl (pi_range1 rfl T.fr_range (pa_cons pe_int pa_nil)) (pg_name (i := 1) sc_law.nd rfl (.inl rfl))
        (pss_cons (ps_set (i := 2) sc_law.nd rfl (.inl rfl) (pe_cal (ok_law_any T) hr3 (pa_cons (pe_callB call_abs (by rfl) T.fr_abs (by decide +kernel) (pa_cons (pe_cal (ok_law_cell T) hr1 (pa_cons (pv 0) (pa_cons (pe_op op_mul pe_int (pv 1)) pa_nil))) pa_nil))
            (pa_cons (pe_callB call_abs (by rfl) T.fr_abs (by decide +kernel) (pa_cons (pe_cal (ok_law_cell T) hr1 (pa_cons (pv 0) (pa_cons (pe_op op_add (pe_op op_mul pe_int (pv 1)) pe_int) pa_nil))) pa_nil)) pa_nil))))
        (pss_cons (ps_set (i := 3) sc_law.nd rfl (.inl rfl) (pe_callTy call_list_of (by rfl) T.fr_list (by decide +kernel) (pa_cons (pv 2) pa_nil)))
        (pss_cons (ps_set (i := 4) sc_law.nd rfl (.inl rfl) (pe_op op_add (pe_callB call_len_seq (by rfl) T.fr_len PySem.boot_len (pa_cons (pv 2) pa_nil)) (pv 1)))
        (C8.pss_cut (ps_asg (pe_cal (ok_read_book T) hr (pa_cons (pv 3) (pa_cons (pv 4) pa_nil))) (pg_tup (by rfl) (pgs_cons (pg_name (i := 5) sc_law.nd rfl (.inl rfl)) (pgs_cons (pg_name (i := 6) sc_law.nd rfl (.inl rfl)) pgs_nil))))
        (pss_cons (ps_if (PW.pt (pw_or (pt_cmpR op_ne (pv 6) (pv 1) (nomark _)) (pw_or1 (pt_cmpR (op_neD hr.units) (pv 3) (pv 2) (nomark _))))) (pss_one (ps_ret pe_bl)) pss_nil)
        (C8.pss_cut (ps_if (PW.pt (pw_and (pt_cmpR op_gt (pe_callB call_len_seq (by rfl) T.fr_len PySem.boot_len (pa_cons (pv 2) pa_nil)) pe_int (nomark _))
            (pw_and1 (pt_cmpR (op_neD hr.units) (pe_cal (ok_read_book T) hr (pa_cons (pv 3) (pa_cons (pe_op op_sub (pe_callB call_len_seq (by rfl) T.fr_len PySem.boot_len (pa_cons (pv 2) pa_nil)) pe_int) pa_nil))) (pe_tup (pa_cons pe_non (pa_cons pe_int pa_nil))) (nomark _))))) (pss_one (ps_ret pe_bl)) pss_nil)
        (pss_cons (ps_if (pt_cmpR op_isN (pv 5) pe_non (nomark _)) (pss_one ps_continue) pss_nil)
        (pss_cons (ps_if (PW.pt (pw_or (pt_not (pt_val (pe_cal (ok_law_sound T) hr19 (pa_cons (pv 5) pa_nil)))) (pw_or1 (pt_cmpR op_isnot_bl (pe_cal (ok_is_book T) hr37 (pa_cons (pv 5) pa_nil)) pe_bl (nomark _))))) (pss_one (ps_ret pe_bl)) pss_nil)
        (pss_cons (ps_set (i := 7) sc_law.nd rfl (.inl rfl) (pe_cal (ok_write_book T) hr38 (pa_cons (pv 5) pa_nil)))
        (pss_one (ps_if (pt_cmpR (op_neD hr.units) (pe_cal (ok_read_book T) hr (pa_cons (pe_callTy call_list_of (by rfl) T.fr_list (by decide +kernel) (pa_cons (pv 7) pa_nil)) (pa_cons (pe_callB call_len_seq (by rfl) T.fr_len PySem.boot_len (pa_cons (pv 7) pa_nil)) pa_nil))) (pe_tup (pa_cons (pv 5) (pa_cons pe_int pa_nil))) (nomark _)) (pss_one (ps_ret pe_bl)) pss_nil))))))))))))
      (pss_one (ps_ret pe_bl)), ?_⟩
    refine ⟨4, rfl, by decide, by decide, ?_⟩
    refine for_range (fun i σ H' => ∃ x1 x2 x3 x4 x5 x6 x7, σ = [some (.ref a), x1, x2, x3, x4, x5, x6, x7] ∧ Same H H') ⟨none, none, none, none, none, none, none, rfl, Same.refl _⟩ ?_ ?_
    · rintro i σ H' hi ⟨x1, x2, x3, x4, x5, x6, x7, rfl, sm⟩
      have hi4 : i < 4 := hi
      have e1 : (2 : Int) * (0 + (i : Int)) = ((2 * i : Nat) : Int) := by omega
      have e2 : (2 : Int) * (0 + (i : Int)) + 1 = ((2 * i + 1 : Nat) : Int) := by omega
      have hS' := sm.seq hS
      refine ⟨_, rfl, _, rfl, _, _, rfl, rfl, .inl ⟨by decide, by decide⟩, a, ns, 2 * i, congrArg (fun z => [V.ref a, V.int z]) e1, hS', fun n1 => ⟨n1, rfl, ?_⟩⟩
      refine ⟨_, rfl, _, rfl, _, _, rfl, rfl, .inl ⟨by decide, by decide⟩, _, _, rfl, rfl, a, ns, 2 * i + 1, congrArg (fun z => [V.ref a, V.int z]) e2, hS', fun n2 => ⟨n2, rfl, ?_⟩⟩
      refine ⟨_, _, rfl, fun t d H1 s1 ht ok => ?_⟩
      have hd := ok.len
      have eL : (((d.map V.int).length : Nat) : Int) = (d.length : Int) := by rw [List.length_map]
      refine ⟨_, rfl, t, _, rfl, .inl (SqL.of ht), fun g ng => ?_⟩
      have sG := same_new (o := .lst (d.map V.int)) ng
      have hG : (upd H1 g (.lst (d.map V.int))) g = some (.lst (d.map V.int)) := upd_same
      have ht2 := sG _ _ ht
      generalize upd H1 g (.lst (d.map V.int)) = H2 at sG hG ht2
      have sm2 : Same H H2 := sm.trans (s1.trans sG)
      refine ⟨_, rfl, t, _, rfl, .inl (SqL.of ht2), _, rfl, _, _, rfl, rfl, ?_⟩
      refine ⟨fun σ' H3 => ∃ u r, σ' = [some (.ref a), some (.int (0 + (i : Int))), some (.ref t), some (.ref g), some (.int (((d.map V.int).length : Int) + (0 + (i : Int)))), some u, some (.int r), x7] ∧ r = 0 + (i : Int) ∧ Same H2 H3 ∧
        (u = .non ∨ ∃ b f us sobs R, u = .ref b ∧ H3 b = some (.tup [.ref f, .int R]) ∧ H3 f = some (.tup us) ∧ RepB H3 us sobs ∧ Good sobs R), ?_, ?_⟩
      · refine ⟨_, rfl, _, rfl, g, d, _, rfl, SqL.of hG, by omega, ok.byt, fun obs root hp => Fx.few d obs root ok hp, fun hlt => absurd hlt (by omega), fun hge obs root hp => ⟨fun e0 y H3 s3 hy => ?_, fun e0 sobs hperm hsort hnd y b f us H3 s3 hy hb hf hB => ?_⟩⟩
        · refine ⟨y, _, rfl, SqT.of hy, rfl, _, _, rfl, _, _, rfl, rfl, ?_⟩
          exact ⟨.non, _, rfl, by omega, s3, .inl rfl⟩
        · refine ⟨y, _, rfl, SqT.of hy, rfl, _, _, rfl, _, _, rfl, rfl, ?_⟩
          have hlt := lt_of_le_nodup hsort hnd
          exact ⟨.ref b, _, rfl, by omega, s3, .inr ⟨b, f, us, sobs, _, rfl, hb, hf, hB, Fx.good d obs root sobs ok hp e0 hperm hlt⟩⟩
      · rintro σ' H3 ⟨u, r, rfl, hr0, s3, hu⟩
        have hG3 := s3 _ _ hG
        have ht3 := s3 _ _ ht2
        refine ⟨_, rfl, _, rfl, rfl, _, rfl, ifN (fun e => absurd hr0 e) (fun _ => ?_)⟩
        refine ⟨_, rfl, _, rfl, _, _, .lst (SqL.of hG3) (dp_all_ints d), .lst (SqL.of ht3) (dp_all_ints d), shaped_list _, shaped_list _, _, rfl, ifNL (fun e => absurd rfl e) (fun _ => ?_)⟩
        refine ⟨fun σ' H4 => σ' = [some (.ref a), some (.int (0 + (i : Int))), some (.ref t), some (.ref g), some (.int (((d.map V.int).length : Int) + (0 + (i : Int)))), some u, some (.int r), x7] ∧ Same H3 H4, ?_, ?_⟩
        · refine ⟨_, rfl, t, _, rfl, .inl (SqL.of ht3), _, _, rfl, rfl, _, rfl, ifB (fun z => ?_) (fun z => ⟨rfl, Same.refl _⟩)⟩
          refine ⟨_, rfl, _, rfl, t, _, rfl, .inl (SqL.of ht3), _, _, rfl, rfl, g, d, _, rfl, SqL.of hG3, by omega, ok.byt, fun obs root hp => Fx.few d obs root ok hp, fun hlt y H4 s4 hy => ?_, fun hge => absurd hge (by omega)⟩
          refine ⟨by show 2 ≤ sizeLine; decide, fun z2 nz2 => ?_⟩
          have sZ := same_new (o := .tup [V.non, V.int 0]) nz2
          refine ⟨.tuple [.none, .int 0], .tuple [.none, .int 0], .tup (SqT.of (sZ _ _ hy)) (.cons .non (.cons (.int 0) .nil)), .tup (SqT.of upd_same) (.cons .non (.cons (.int 0) .nil)), by decide +kernel, by decide +kernel, _, rfl, ifF (by decide +kernel) ?_⟩
          exact ⟨rfl, s4.trans sZ⟩
        · rintro σ' H4 ⟨rfl, s4⟩
          have sm4 : Same H H4 := sm2.trans (s3.trans s4)
          refine ⟨_, rfl, rfl, _, rfl, ?_⟩
          rcases hu with hu | ⟨b, f, us, sobs, R, hu, hb, hf, hB, gd⟩
          · subst hu
            exact iteT ⟨_, _, _, _, _, _, _, rfl, sm4⟩
          · subst hu
            refine iteF ?_
            have hb4 := s4 _ _ hb
            have hf4 := s4 _ _ hf
            have hB4 := hB.keep (TK.of s4)
            refine ⟨_, rfl, b, f, us, sobs, R, rfl, hb4, hf4, hB4, gd.ok, fun H5 s5 => ⟨_, rfl, iteF ?_⟩⟩
            have hb5 := s5 _ _ hb4
            have hf5 := s5 _ _ hf4
            have hB5 := hB4.keep (TK.of s5)
            refine ⟨_, rfl, b, f, us, sobs, R, rfl, hb5, hf5, hB5, gd.ok, fun H6 s6 => ⟨_, _, rfl, rfl, _, rfl, ifF (by decide) ?_⟩⟩
            have hb6 := s6 _ _ hb5
            have hf6 := s6 _ _ hf5
            have hB6 := hB5.keep (TK.of s6)
            have hwl := gd.len
            refine ⟨_, rfl, b, f, us, sobs, R, rfl, hb6, hf6, hB6, gd.ok, by omega, fun m H7 nm s7 hm => ?_⟩
            have hb7 := s7 _ _ hb6
            have hf7 := s7 _ _ hf6
            have hB7 := hB6.keep (TK.of s7)
            refine ⟨_, rfl, m, _, rfl, .inl (SqL.of hm), fun l nl => ?_⟩
            have sL := same_new (o := .lst ((wBook sobs R).map V.int)) nl
            have hL : (upd H7 l (.lst ((wBook sobs R).map V.int))) l = some (.lst ((wBook sobs R).map V.int)) := upd_same
            have hm8 := sL _ _ hm
            generalize upd H7 l (.lst ((wBook sobs R).map V.int)) = H8 at sL hL hm8
            have eW : ((((wBook sobs R).map V.int).length : Nat) : Int) = ((wBook sobs R).length : Int) := by rw [List.length_map]
            obtain ⟨r2, hp2, hr2⟩ := gd.back
            refine ⟨_, rfl, m, _, rfl, .inl (SqL.of hm8), l, wBook sobs R, _, rfl, SqL.of hL, hwl, gd.byt, fun obs root hp => by rw [(PO.one hp hp2).1]; exact gd.few, fun hlt => absurd hlt (by omega), fun hge obs root hp => ?_⟩
            obtain ⟨eo, er⟩ := PO.one hp hp2
            subst eo er
            refine ⟨fun e0 => absurd e0 gd.ok.ne, fun _ sobs2 hperm hsort hnd y b2 f2 us2 H9 s9 hy hb2 hf2 hB2 => ?_⟩
            have es : sobs2 = obs := sorted_one hperm (lt_of_le_nodup hsort hnd) gd.ok.inc
            subst es
            rw [hr2] at hb2
            have s69 : Same H7 H9 := sL.trans s9
            refine ⟨_, rfl, by show 2 ≤ sizeLine; decide, fun z nz => ?_⟩
            have sZ := same_new (o := .tup [V.ref b, V.int 0]) nz
            have sZ9 := s69.trans sZ
            have val := gd.ok.val
            refine ⟨pyPair sobs2 R, pyPair sobs2 R, ?_, ?_, pyPair_shaped val, pyPair_shaped val, _, rfl, ifF ?_ ?_⟩
            · have e0 : ((((wBook sobs2 R).map V.int).length : Nat) : Int) - ((wBook sobs2 R).length : Int) = 0 := by omega
              rw [e0] at hy
              exact .tup (SqT.of (sZ _ _ hy)) (.cons (.tup (SqT.of (sZ _ _ hb2)) (.cons (.tup (SqT.of (sZ _ _ hf2)) (RepB.dp (hB2.keep (TK.of sZ)))) (.cons (.int R) .nil))) (.cons (.int 0) .nil))
            · exact .tup (SqT.of upd_same) (.cons (.tup (SqT.of (sZ9 _ _ hb7)) (.cons (.tup (SqT.of (sZ9 _ _ hf7)) (RepB.dp (hB7.keep (TK.of sZ9)))) (.cons (.int R) .nil))) (.cons (.int 0) .nil))
            · rw [SeqAt.eqv_refl _ (SeqAt.canLay_of_shaped (pyPair_shaped val))] <;> rfl
            · exact ⟨_, _, _, _, _, _, _, rfl, sm4.trans (s5.trans (s6.trans (s7.trans (s69.trans sZ))))⟩
    · rintro σ H' ⟨x1, x2, x3, x4, x5, x6, x7, rfl, sm⟩
      exact q H'
end
end K22

/-! What is read is sound and short. -/
namespace K22
def By (s : List Int) : Prop := ∀ b ∈ s, 0 ≤ b ∧ b ≤ 255
theorem By.sub {s t : List Int} (h : By s) (k : t.Sublist s) : By t := fun b hb => h b (k.subset hb)
/-! ### what is left over stands in what was given -/
theorem sub_skipS : ∀ (b : Bool) (s : List Int), (skipS b s).Sublist s
  | true, [] => List.Sublist.refl _
  | false, [] => List.Sublist.refl _
  | false, c :: r => by
    have h1 := (sub_skipS false r).cons c
    have h2 := (sub_skipS true r).cons c
    unfold skipS
    split
    · exact h1
    · split
      · exact h2
      · exact List.Sublist.refl _
  | true, c :: r => by
    have h1 := (sub_skipS false r).cons c
    have h2 := (sub_skipS true r).cons c
    unfold skipS
    split
    · exact h1
    · exact h2
theorem sub_of_skip {s r : List Int} {c : Int} (h : skipS false s = c :: r) : r.Sublist s := (List.sublist_cons_self c r).trans (by rw [← h]; exact sub_skipS false s)
theorem sub_dropR (s : List Int) : (dropR s).Sublist s := List.dropWhile_sublist _
theorem sub_takeR (s : List Int) : (takeR s).Sublist s := List.takeWhile_sublist _
theorem sub_mark {c n : Int} {r t : List Int} (h : markOf (c :: r) = some (n, t)) : t.Sublist r := by
  have h : (if _ then _ else _) = _ := h
  split at h
  · injection h with h
    injection h with _ h
    rw [← h]
    exact List.dropWhile_sublist _
  · cases h
theorem num_mark {c n : Int} {r t : List Int} (h : markOf (c :: r) = some (n, t)) : 1 ≤ n ∧ n ≤ 9999 := by
  have h : (if _ then _ else _) = _ := h
  split at h
  · rename_i hc
    injection h with h
    injection h with h _
    rw [← h]
    exact ⟨hc.2.2.2.1, hc.2.2.2.2⟩
  · cases h
theorem escP_if (a b : Int) (r : List Int) : escP (a :: b :: r) = if 0 ≤ hexv a ∧ 0 ≤ hexv b then ([16 * hexv a + hexv b], r) else ([escv a], b :: r) := rfl
theorem unesc_if (c a b : Int) (r : List Int) : unesc (c :: a :: b :: r) = if c = 126 ∧ 0 ≤ hexv a ∧ 0 ≤ hexv b then (16 * hexv a + hexv b) :: unesc r else c :: unesc (a :: b :: r) := by
  conv => lhs; unfold unesc
theorem sub_escP (s : List Int) : (escP s).2.Sublist s := by
  match s with
  | [] => exact List.Sublist.refl _
  | [a] => exact List.nil_sublist _
  | a :: b :: r =>
    rw [escP_if]
    split
    · exact (List.sublist_cons_self b r).cons a
    · exact List.sublist_cons_self a _
theorem hexv_le (c : Int) : hexv c ≤ 15 := by
  unfold hexv
  split
  · omega
  · split
    · omega
    · split
      · omega
      · omega
theorem escv_by {a : Int} (h : 0 ≤ a ∧ a ≤ 255) : 0 ≤ escv a ∧ escv a ≤ 255 := by
  unfold escv
  split
  · omega
  · split
    · omega
    · split
      · omega
      · exact h
theorem by_escP {s : List Int} (h : By s) : By (escP s).1 := by
  match s with
  | [] => intro b hb; cases hb
  | [a] =>
    intro b hb
    rw [List.mem_singleton.mp hb]
    exact escv_by (h a List.mem_cons_self)
  | a :: b :: r =>
    rw [escP_if]
    split
    · rename_i hh
      intro x hx
      rw [List.mem_singleton.mp hx]
      have := hexv_le a
      have := hexv_le b
      omega
    · intro x hx
      rw [List.mem_singleton.mp hx]
      exact escv_by (h a List.mem_cons_self)
theorem len_escP2 (s : List Int) : (escP s).1.length + (escP s).2.length ≤ s.length := by
  match s with
  | [] => exact Nat.le_refl _
  | [a] => exact Nat.le_refl _
  | a :: b :: r =>
    rw [escP_if]
    split
    · simp only [List.length_cons, List.length_nil]; omega
    · simp only [List.length_cons, List.length_nil]; omega
theorem pText_all (k : Nat) (s : List Int) : (pText k s).2.Sublist s ∧ (By s → By (pText k s).1) ∧ (pText k s).1.length + (pText k s).2.length ≤ s.length := by
  match s with
  | [] => unfold pText; exact ⟨List.Sublist.refl _, fun h => h, Nat.le_refl _⟩
  | c :: r =>
    have h0 := escP_le r
    have h0' := len_escP2 r
    have hs := sub_escP r
    obtain ⟨a1, a2, a3⟩ := pText_all k (escP r).2
    obtain ⟨b1, b2, b3⟩ := pText_all (k + 1) r
    obtain ⟨c1, c2, c3⟩ := pText_all (k - 1) r
    obtain ⟨d1, d2, d3⟩ := pText_all k r
    have cons : ∀ {x : List Int}, By (c :: r) → By x → By (c :: x) := fun h g b hb => by
      rcases List.mem_cons.mp hb with e | e
      · rw [e]; exact h c List.mem_cons_self
      · exact g b e
    have tl : By (c :: r) → By r := fun h b hb => h b (List.mem_cons_of_mem _ hb)
    unfold pText
    split
    · refine ⟨(a1.trans hs).cons c, fun h b hb => ?_, ?_⟩
      · rcases List.mem_append.mp hb with e | e
        · exact by_escP (tl h) b e
        · exact a2 ((tl h).sub hs) b e
      · simp only [List.length_append, List.length_cons]; omega
    · split
      · refine ⟨b1.cons c, fun h => cons h (b2 (tl h)), ?_⟩
        simp only [List.length_cons]; omega
      · split
        · split
          · refine ⟨List.sublist_cons_self c r, fun h b hb => (by cases hb), ?_⟩
            simp only [List.length_cons, List.length_nil]; omega
          · refine ⟨c1.cons c, fun h => cons h (c2 (tl h)), ?_⟩
            simp only [List.length_cons]; omega
        · refine ⟨d1.cons c, fun h => cons h (d2 (tl h)), ?_⟩
          simp only [List.length_cons]; omega
termination_by s.length
decreasing_by all_goals (simp only [List.length_cons]; first | omega | (have := escP_le r; omega))
theorem unesc_all (s : List Int) : (By s → By (unesc s)) ∧ (unesc s).length ≤ s.length := by
  match s with
  | [] => exact ⟨fun h => h, Nat.le_refl _⟩
  | [c] => exact ⟨fun h => by unfold unesc; exact h, by unfold unesc; simp [unesc]⟩
  | [c, a] => exact ⟨fun h => by unfold unesc; simp only [unesc]; exact h, by simp [unesc]⟩
  | c :: a :: b :: r =>
    obtain ⟨h1, h2⟩ := unesc_all r
    obtain ⟨h3, h4⟩ := unesc_all (a :: b :: r)
    rw [unesc_if]
    split
    · rename_i hh
      refine ⟨fun h x hx => ?_, ?_⟩
      · rcases List.mem_cons.mp hx with e | e
        · rw [e]
          have := hexv_le a
          have := hexv_le b
          omega
        · exact h1 (fun y hy => h y (List.mem_cons_of_mem _ (List.mem_cons_of_mem _ (List.mem_cons_of_mem _ hy)))) x e
      · simp only [List.length_cons]; omega
    · refine ⟨fun h x hx => ?_, ?_⟩
      · rcases List.mem_cons.mp hx with e | e
        · rw [e]; exact h c List.mem_cons_self
        · exact h3 (fun y hy => h y (List.mem_cons_of_mem _ hy)) x e
      · simp only [List.length_cons] at h4 ⊢; omega
termination_by s.length
theorem pairUp_all2 : ∀ vs : List Int, (∀ v ∈ vs, 0 ≤ v ∧ v ≤ 15) → By (pairUp vs)
  | [], _ => fun b hb => by cases hb
  | [_], _ => fun b hb => by cases hb
  | a :: b :: r, h => fun x hx => by
    have ha := h a (by simp)
    have hb := h b (by simp)
    rcases List.mem_cons.mp (show x ∈ (16 * a + b) :: pairUp r from hx) with e | e
    · omega
    · exact pairUp_all2 r (fun v hv => h v (by simp [hv])) x e
theorem pairUp_len2 : ∀ vs : List Int, (pairUp vs).length ≤ vs.length
  | [] => Nat.le_refl _
  | [_] => Nat.zero_le _
  | a :: b :: r => by
    have := pairUp_len2 r
    show (pairUp r).length + 1 ≤ r.length + 1 + 1
    omega
theorem hexBytes_all (s : List Int) : By (hexBytes s) ∧ (hexBytes s).length ≤ s.length := by
  refine ⟨pairUp_all2 _ fun v hv => ?_, ?_⟩
  · obtain ⟨h1, h2⟩ := List.mem_filter.mp hv
    obtain ⟨c, _, e⟩ := List.mem_map.mp h1
    have := hexv_le c
    have := of_decide_eq_true h2
    omega
  · refine Nat.le_trans (pairUp_len2 _) (Nat.le_trans (List.length_filter_le _ _) ?_)
    rw [List.length_map]
    exact Nat.le_refl _
theorem len_tw {α : Type} (f : α → Bool) (l : List α) : (l.takeWhile f).length + (l.dropWhile f).length = l.length := by
  conv => rhs; rw [← List.takeWhile_append_dropWhile (p := f) (l := l)]
  rw [List.length_append]
theorem bnd_nn_from : ∀ (ds : List Int) (n : Int), 0 ≤ n → ds.all isDigit = true → 0 ≤ ds.foldl (fun n c => min (10 * n + c - 48) 2147483648) n
  | [], n, h, _ => h
  | c :: ds, n, h, hd => by
    rw [List.all_cons, Bool.and_eq_true] at hd
    have hc : 48 ≤ c ∧ c ≤ 57 := of_decide_eq_true hd.1
    refine bnd_nn_from ds _ ?_ hd.2
    show 0 ≤ min (10 * n + c - 48) 2147483648
    omega
theorem wordInt_ok {w : List Int} {n : Int} (h : wordInt w = some n) : -2147483647 ≤ n ∧ n ≤ 2147483647 ∧ 1 ≤ w.length := by
  unfold wordInt at h
  have hw : (if w.take 1 = [45] then w.drop 1 else w).length ≤ w.length := by
    split
    · rw [List.length_drop]; omega
    · exact Nat.le_refl _
  generalize (if w.take 1 = [45] then w.drop 1 else w) = ds at h hw
  have h : (if ds.length = 0 ∨ ds.all isDigit = false then none else some (if ds.length < w.length then -(min (bounded ds) 2147483647) else min (bounded ds) 2147483647)) = some n := h
  by_cases hc : ds.length = 0 ∨ ds.all isDigit = false
  · rw [if_pos hc] at h
    cases h
  · rw [if_neg hc] at h
    have h0 : ¬ ds.length = 0 := fun e => hc (.inl e)
    have h1 : ds.all isDigit = true := by
      cases e : ds.all isDigit with
      | true => rfl
      | false => exact absurd (.inr e) hc
    have h3 : 0 ≤ bounded ds := bnd_nn_from _ 0 (Int.le_refl _) h1
    have h' := Option.some.inj h
    rw [← h']
    generalize bounded ds = m at h3
    refine ⟨?_, ?_, by omega⟩
    · split <;> omega
    · split <;> omega
theorem streamV_cons {ps : List (List Int × Val)} {s r : List Int} {c : Int} (h : skipW s = c :: r) : streamV ps s = if c = 123 ∧ (r.dropWhile isDigit).take 1 = [125] ∧ (r.takeWhile isDigit).length ≤ 9 then streamD ps (r.takeWhile isDigit) ((r.dropWhile isDigit).drop 1) else (.dict ps, s) := by
  unfold streamV
  rw [h]
theorem streamV_all (ps : List (List Int × Val)) (s : List Int) : (streamV ps s = (.dict ps, s)) ∨ ∃ d t, streamV ps s = (.stream ps d, t) ∧ d.Sublist s ∧ t.Sublist s ∧ d.length + t.length + 2 ≤ s.length := by
  have findA : ∀ r : List Int, (findC r).1.Sublist r ∧ (findC r).2.Sublist r ∧ (findC r).1.length + (findC r).2.length ≤ r.length := by
    intro r
    induction r with
    | nil => exact ⟨List.Sublist.refl _, List.Sublist.refl _, Nat.le_refl _⟩
    | cons c r ih =>
      obtain ⟨i1, i2, i3⟩ := ih
      unfold findC
      split
      · refine ⟨List.nil_sublist _, (List.drop_sublist 1 r).cons c, ?_⟩
        show 0 + (r.drop 1).length ≤ r.length + 1
        rw [List.length_drop]; omega
      · refine ⟨i1.cons_cons c, i2.cons c, ?_⟩
        show (findC r).1.length + 1 + (findC r).2.length ≤ r.length + 1
        omega
  cases h : skipW s with
  | nil =>
    refine .inl ?_
    unfold streamV
    rw [h]
  | cons c r =>
    have hs : (c :: r).Sublist s := by rw [← h]; exact List.dropWhile_sublist _
    have hr : r.Sublist s := (List.sublist_cons_self c r).trans hs
    have hl := hs.length_le
    simp only [List.length_cons] at hl
    rw [streamV_cons h]
    by_cases hc : c = 123 ∧ (r.dropWhile isDigit).take 1 = [125] ∧ (r.takeWhile isDigit).length ≤ 9
    · rw [if_pos hc]
      refine .inr ?_
      have hX : ((r.dropWhile isDigit).drop 1).Sublist r := (List.drop_sublist 1 _).trans (List.dropWhile_sublist _)
      have hXl : ((r.dropWhile isDigit).drop 1).length + 1 ≤ r.length := by
        have h1 := congrArg List.length hc.2.1
        rw [List.length_take] at h1
        have h2 := (List.dropWhile_sublist isDigit (l := r)).length_le
        rw [List.length_drop]
        simp only [List.length_cons, List.length_nil] at h1
        omega
      generalize (r.dropWhile isDigit).drop 1 = X at hX hXl
      unfold streamD
      split
      · refine ⟨_, _, rfl, (List.take_sublist _ _).trans (hX.trans hr), (List.drop_sublist _ _).trans (hX.trans hr), ?_⟩
        rw [List.length_take, List.length_drop]
        omega
      · obtain ⟨f1, f2, f3⟩ := findA X
        exact ⟨_, _, rfl, f1.trans (hX.trans hr), f2.trans (hX.trans hr), by omega⟩
    · rw [if_neg hc]
      exact .inl rfl
end K22

/-! What is read is sound and short: the induction. -/
namespace K22
theorem ndig_pos (n : Nat) : 1 ≤ (ndig n).length := by
  unfold ndig
  split
  · exact Nat.le_refl _
  · rw [List.length_append]
    simp
theorem ndig_len10 : ∀ k n : Nat, n < 10 ^ (k + 1) → (ndig n).length ≤ k + 1
  | 0, n, h => by
    unfold ndig
    rw [if_pos (by simpa using h)]
    exact Nat.le_refl _
  | k + 1, n, h => by
    unfold ndig
    split
    · show 1 ≤ _
      omega
    · have ih := ndig_len10 k (n / 10) (by rw [Nat.pow_succ] at h; omega)
      rw [List.length_append]
      show _ + 1 ≤ _
      omega
theorem decs_le {n : Int} (h1 : -2147483647 ≤ n) (h2 : n ≤ 2147483647) : (decs n).length ≤ 11 := by
  have h := ndig_len10 9 n.natAbs (by omega)
  unfold decs
  split
  · rw [List.length_cons]; omega
  · omega
theorem decs_le5 {n : Int} (h1 : 1 ≤ n) (h2 : n ≤ 9999) : (decs n).length ≤ 4 := by
  have h := ndig_len10 3 n.natAbs (by omega)
  unfold decs
  rw [if_neg (by omega)]
  exact h
theorem nameB_le (b : Int) : (wNameB b).length ≤ 3 := by
  unfold wNameB
  split
  · exact Nat.le_refl 3
  · show 1 ≤ 3
    omega
theorem textB_le (b : Int) : (wTextB b).length ≤ 3 := by
  unfold wTextB
  split
  · show 2 ≤ 3
    omega
  · split
    · exact Nat.le_refl 3
    · show 1 ≤ 3
      omega
theorem flat3 (f : Int → List Int) (h : ∀ b, (f b).length ≤ 3) : ∀ d : List Int, (d.flatMap f).length ≤ 3 * d.length
  | [] => Nat.le_refl _
  | b :: r => by
    have h1 := h b
    have h2 := flat3 f h r
    rw [List.flatMap_cons, List.length_append, List.length_cons]
    omega
theorem wName_le (d : List Int) : (wName d).length ≤ 1 + 3 * d.length := by
  unfold wName
  rw [List.length_cons]
  have := flat3 wNameB nameB_le d
  omega
theorem wText_le (d : List Int) : (wText d).length ≤ 2 + 3 * d.length := by
  unfold wText
  rw [List.length_append, List.length_cons]
  have := flat3 wTextB textB_le d
  simp only [List.length_cons, List.length_nil]
  omega
theorem joinSp_fold : ∀ (ps : List (List Int)) (acc : List Int), (ps.foldl (fun acc p => (if 0 < acc.length then acc ++ [32] else acc) ++ p) acc).length ≤ acc.length + (ps.map fun p => p.length + 1).sum
  | [], acc => by simp
  | p :: ps, acc => by
    refine Nat.le_trans (joinSp_fold ps _) ?_
    rw [List.map_cons, List.sum_cons, List.length_append]
    split
    · rw [List.length_append]
      simp only [List.length_cons, List.length_nil]
      omega
    · omega
theorem joinSp_le (ps : List (List Int)) : (joinSp ps).length ≤ (ps.map fun p => p.length + 1).sum := by
  have := joinSp_fold ps []
  simp only [List.length_nil, Nat.zero_add] at this
  exact this
/-- what the pairs of a dict cost -/
def cost : List (List Int × Val) → Nat
  | [] => 0
  | (k, v) :: r => (wName k).length + (wVal v).length + 2 + cost r
def costL : List Val → Nat
  | [] => 0
  | v :: r => (wVal v).length + 1 + costL r
theorem cost_sum : ∀ ps : List (List Int × Val), ((wParts ps).map fun p => p.length + 1).sum = cost ps
  | [] => by unfold wParts; rfl
  | (k, v) :: r => by
    unfold wParts cost
    rw [List.map_cons, List.sum_cons, cost_sum r]
    simp only [List.length_append, List.length_cons, List.length_nil]
    omega
theorem costL_sum : ∀ vs : List Val, ((wVals vs).map fun p => p.length + 1).sum = costL vs
  | [] => by unfold wVals; rfl
  | v :: r => by
    unfold wVals costL
    rw [List.map_cons, List.sum_cons, costL_sum r]
theorem cost_app : ∀ (ps qs : List (List Int × Val)), cost (ps ++ qs) = cost ps + cost qs
  | [], qs => by simp [cost]
  | (k, v) :: r, qs => by
    show (wName k).length + (wVal v).length + 2 + cost (r ++ qs) = (wName k).length + (wVal v).length + 2 + cost r + cost qs
    rw [cost_app r qs]
    omega
theorem cost_sub (k : List Int) (v : Val) : ∀ ps : List (List Int × Val), (ps.map (·.1)).Nodup → cost (ps.map (fun kv => if kv.1 = k then (kv.1, v) else kv)) ≤ cost ps + (wName k).length + (wVal v).length + 2
  | [], _ => by simp [cost]
  | (k', v') :: r, h => by
    have h' := List.nodup_cons.mp (show (k' :: r.map (·.1)).Nodup from h)
    rw [List.map_cons]
    by_cases e : k' = k
    · subst e
      have e2 : r.map (fun kv => if kv.1 = k' then (kv.1, v) else kv) = r := by
        have : r.map (fun kv => if kv.1 = k' then (kv.1, v) else kv) = r.map id := List.map_congr_left fun x hx => by
          rw [if_neg fun z => h'.1 (List.mem_map.mpr ⟨x, hx, z⟩)] <;> rfl
        rw [this, List.map_id]
      rw [e2, if_pos rfl]
      simp only [cost]
      omega
    · have ih := cost_sub k v r h'.2
      rw [if_neg e]
      simp only [cost]
      omega
theorem cost_put {ps : List (List Int × Val)} (h : (ps.map (·.1)).Nodup) (k : List Int) (v : Val) : cost (putA ps k v) ≤ cost ps + (wName k).length + (wVal v).length + 2 := by
  unfold putA
  split
  · exact cost_sub k v ps h
  · rw [cost_app]
    simp only [cost]
    omega
theorem wVal_dict (ps : List (List Int × Val)) : (wVal (.dict ps)).length ≤ 4 + cost ps := by
  have e : wVal (.dict ps) = [60, 60] ++ joinSp (wParts ps) ++ [62, 62] := by
    unfold wVal
    rfl
  have := joinSp_le (wParts ps)
  rw [cost_sum] at this
  rw [e]
  simp only [List.length_append, List.length_cons, List.length_nil]
  omega
theorem wVal_list (vs : List Val) : (wVal (.list vs)).length ≤ 2 + costL vs := by
  have e : wVal (.list vs) = [91] ++ joinSp (wVals vs) ++ [93] := by
    unfold wVal
    rfl
  have := joinSp_le (wVals vs)
  rw [costL_sum] at this
  rw [e]
  simp only [List.length_append, List.length_cons, List.length_nil]
  omega
theorem wVal_stream (ps : List (List Int × Val)) (d : List Int) (hd : d.length ≤ 100000) : (wVal (.stream ps d)).length ≤ 19 + cost ps + d.length := by
  have e : wVal (.stream ps d) = ([60, 60] ++ joinSp (wParts ps) ++ [62, 62]) ++ ([123] ++ decs (d.length : Int) ++ [125]) ++ d ++ [123, 125] := by
    unfold wVal
    rfl
  have := joinSp_le (wParts ps)
  rw [cost_sum] at this
  have h2 := decs_le (n := (d.length : Int)) (by omega) (by omega)
  rw [e]
  simp only [List.length_append, List.length_cons, List.length_nil]
  omega
theorem okP_put {deep : Nat} {k : List Int} {v : Val} (hk : okD k) (hv : okV deep v) : ∀ {ps : List (List Int × Val)}, okP deep ps → okP deep (putA ps k v) := by
  have app : ∀ {ps : List (List Int × Val)}, okP deep ps → okP deep (ps ++ [(k, v)]) := by
    intro ps
    induction ps with
    | nil => intro _; unfold okP; exact ⟨hk, hv, by unfold okP; exact True.intro⟩
    | cons x r ih =>
      intro h
      obtain ⟨a, b⟩ := x
      unfold okP at h
      rw [List.cons_append]
      unfold okP
      exact ⟨h.1, h.2.1, ih h.2.2⟩
  have sub : ∀ {ps : List (List Int × Val)}, okP deep ps → okP deep (ps.map (fun kv => if kv.1 = k then (kv.1, v) else kv)) := by
    intro ps
    induction ps with
    | nil => intro h; exact h
    | cons x r ih =>
      intro h
      obtain ⟨a, b⟩ := x
      unfold okP at h
      rw [List.map_cons]
      by_cases e : a = k
      · rw [if_pos e]
        unfold okP
        exact ⟨h.1, hv, ih h.2.2⟩
      · rw [if_neg e]
        unfold okP
        exact ⟨h.1, h.2.1, ih h.2.2⟩
  intro ps h
  unfold putA
  split
  · exact sub h
  · exact app h
theorem putA_len2 {κ β : Type} [DecidableEq κ] (ps : List (κ × β)) (k : κ) (v : β) : (putA ps k v).length ≤ ps.length + 1 := by
  unfold putA
  split
  · rw [List.length_map]; omega
  · rw [List.length_append]; simp
/-! ### the motives -/
abbrev LV (ar : Nat) (s : List Int) (x : Option Val × List Int) : Prop := (x.1 = none ∧ x.2 = skipS false s ∧ (∀ c r, skipS false s = c :: r → isMark 35 (c :: r) = true ∨ gStop ar c r)) ∨ x.2.length < (skipS false s).length
def MV (ar deep : Nat) (s : List Int) (x : Option Val × List Int) : Prop := LV ar s x ∧ x.2.Sublist s ∧ (By s → s.length ≤ 100000 → deep ≤ 16 → ∀ v, x.1 = some v → okV deep v ∧ (wVal v).length + 1 + 16 * x.2.length ≤ 16 * (skipS false s).length)
def ML (deep : Nat) (s : List Int) (x : List Val × List Int) : Prop := x.2.length ≤ s.length ∧ x.2.Sublist s ∧ (By s → s.length ≤ 100000 → deep < 16 → okL (deep + 1) x.1 ∧ x.1.length + x.2.length ≤ s.length ∧ costL x.1 + 16 * x.2.length ≤ 16 * s.length)
def MD (deep : Nat) (ps : List (List Int × Val)) (s : List Int) (x : Val × List Int) : Prop := x.2.length ≤ s.length ∧ x.2.Sublist s ∧ (By s → ps.length + s.length ≤ 100000 → deep < 16 → okP (deep + 1) ps → (ps.map (·.1)).Nodup → okV deep x.1 ∧ (wVal x.1).length + 1 + 16 * x.2.length ≤ 5 + cost ps + 16 * s.length)
theorem okD_sub {s d : List Int} (h : By s) (l : s.length ≤ 100000) (k : d.Sublist s) : okD d := ⟨h.sub k, Nat.le_trans k.length_le l⟩
theorem LV.le {ar : Nat} {s : List Int} {x : Option Val × List Int} (h : LV ar s x) : x.2.length ≤ (skipS false s).length := by
  rcases h with ⟨_, e, _⟩ | h
  · rw [e]; exact Nat.le_refl _
  · omega
theorem ndig_le_word {w : List Int} {v : Val} (h : wordVal w = some v) (hl : 1 ≤ w.length) : okV 16 v ∧ (wVal v).length + 1 ≤ 16 * w.length ∧ ∀ deep, okV deep v := by
  unfold wordVal at h
  split at h
  · have e := Option.some.inj h
    rw [← e]
    exact ⟨by unfold okV; exact True.intro, by unfold wVal; show 4 + 1 ≤ _; omega, fun d => by unfold okV; exact True.intro⟩
  · split at h
    · have e := Option.some.inj h
      rw [← e]
      exact ⟨by unfold okV; exact True.intro, by unfold wVal; show 5 + 1 ≤ _; omega, fun d => by unfold okV; exact True.intro⟩
    · split at h
      · have e := Option.some.inj h
        rw [← e]
        exact ⟨by unfold okV; exact True.intro, by unfold wVal; show 4 + 1 ≤ _; omega, fun d => by unfold okV; exact True.intro⟩
      · cases hw : wordInt w with
        | none => rw [hw] at h; cases h
        | some n =>
          rw [hw] at h
          have e := Option.some.inj h
          obtain ⟨h1, h2, h3⟩ := wordInt_ok hw
          have h4 := decs_le h1 h2
          rw [← e]
          exact ⟨by unfold okV; exact ⟨h1, h2⟩, by unfold wVal; omega, fun d => by unfold okV; exact ⟨h1, h2⟩⟩
theorem plain_ok {c : Int} {r t : List Int} {v : Val} (h : plainV c (c :: r) = (some v, t)) (hb : By (c :: r)) (hl : (c :: r).length ≤ 100000) (deep : Nat) : okV deep v ∧ (wVal v).length + 1 + 16 * t.length ≤ 16 * (c :: r).length := by
  have hb' : By r := fun b hh => hb b (List.mem_cons_of_mem _ hh)
  simp only [List.length_cons] at hl ⊢
  unfold plainV at h
  split at h
  · split at h
    · cases hm : markOf (c :: r) with
      | none => rw [hm] at h; cases h
      | some x =>
        obtain ⟨n, t'⟩ := x
        rw [hm] at h
        injection h with h1 h2
        have e := Option.some.inj h1
        obtain ⟨n1, n2⟩ := num_mark hm
        have hs := (sub_mark hm).length_le
        have hd := decs_le5 n1 n2
        rw [← e, ← h2]
        refine ⟨by unfold okV; exact ⟨n1, n2⟩, ?_⟩
        have e2 : wVal (.ref n) = 64 :: decs n := by unfold wVal; rfl
        rw [e2, List.length_cons]
        omega
    · cases h
  · split at h
    · injection h with h1 h2
      have e := Option.some.inj h1
      have e3 : t = dropR r := h2.symm
      have hu := unesc_all (takeR r)
      have ht : (takeR ((c :: r).drop 1)) = takeR r := rfl
      rw [ht] at e
      have hlen := len_tw isReg r
      have hlen' : (takeR r).length + (dropR r).length = r.length := hlen
      rw [← e, e3]
      refine ⟨by unfold okV; exact ⟨hu.1 (hb'.sub (sub_takeR r)), by omega⟩, ?_⟩
      have e2 : wVal (.name (unesc (takeR r))) = wName (unesc (takeR r)) := by unfold wVal; rfl
      have := wName_le (unesc (takeR r))
      rw [e2]
      omega
    · split at h
      · injection h with h1 h2
        have e := Option.some.inj h1
        obtain ⟨a1, a2, a3⟩ := pText_all 1 r
        have ht : pText 1 ((c :: r).drop 1) = pText 1 r := rfl
        rw [ht] at e h2
        rw [← e, ← h2]
        refine ⟨by unfold okV; exact ⟨a2 hb', by omega⟩, ?_⟩
        have e2 : wVal (.text (pText 1 r).1) = wText (pText 1 r).1 := by unfold wVal; rfl
        have := wText_le (pText 1 r).1
        rw [e2]
        omega
      · injection h with h1 h2
        have e := Option.some.inj h1
        have ht : (c :: r).drop 1 = r := rfl
        rw [ht] at e h2
        obtain ⟨a1, a2⟩ := hexBytes_all (r.takeWhile fun x => decide (x ≠ 62))
        have hlen := len_tw (fun x => decide (x ≠ (62 : Int))) r
        rw [← e, ← h2]
        refine ⟨by unfold okV; exact ⟨a1, by omega⟩, ?_⟩
        have e2 : wVal (.text (hexBytes (r.takeWhile fun x => decide (x ≠ 62)))) = wText (hexBytes (r.takeWhile fun x => decide (x ≠ 62))) := by unfold wVal; rfl
        have := wText_le (hexBytes (r.takeWhile fun x => decide (x ≠ 62)))
        rw [e2, List.length_drop]
        omega
theorem sub_plain {c : Int} {r t : List Int} {o : Option Val} (h : plainV c (c :: r) = (o, t)) : t.Sublist r := by
  unfold plainV at h
  split at h
  · split at h
    · cases hm : markOf (c :: r) with
      | none =>
        rw [hm] at h
        injection h with _ h2
        rw [← h2]
        exact List.Sublist.refl _
      | some x =>
        obtain ⟨n, t'⟩ := x
        rw [hm] at h
        injection h with _ h2
        rw [← h2]
        exact sub_mark hm
    · injection h with _ h2
      rw [← h2]
      exact List.Sublist.refl _
  · split at h
    · injection h with _ h2
      rw [← h2]
      exact sub_dropR r
    · split at h
      · injection h with _ h2
        rw [← h2]
        exact (pText_all 1 r).1
      · injection h with _ h2
        rw [← h2]
        exact (List.drop_sublist 1 _).trans (List.dropWhile_sublist _)
end K22

/-! What is read is sound and short: the cases. -/
namespace K22
theorem skip_sub_le {s r : List Int} {c : Int} (h : skipS false s = c :: r) : r.length + 1 ≤ s.length := by
  have := len_skipS false s
  rw [h] at this
  exact this
theorem by_skip {s r : List Int} {c : Int} (h : skipS false s = c :: r) (hb : By s) : By (c :: r) := by
  have := hb.sub (sub_skipS false s)
  rw [h] at this
  exact this
theorem sound_ind : Ind MV ML MD where
  v_nil := fun ar deep s h => ⟨len_ind.v_nil ar deep s h, List.nil_sublist _, fun _ _ _ v e => by cases e⟩
  v_stop := fun ar deep s c r h hh => ⟨len_ind.v_stop ar deep s c r h hh, by rw [← h]; exact sub_skipS false s, fun _ _ _ v e => by cases e⟩
  v_word := fun ar deep s c r v h hr hw => by
    refine ⟨len_ind.v_word ar deep s c r v h hr hw, (sub_dropR _).trans (by rw [← h]; exact sub_skipS false s), fun hb hl hd u e => ?_⟩
    have e' := Option.some.inj e
    rw [← e']
    have hlen : (takeR (c :: r)).length + (dropR (c :: r)).length = (c :: r).length := len_tw isReg (c :: r)
    have hlt := len_dropR (r := r) hr
    obtain ⟨_, b2, b3⟩ := ndig_le_word hw (by omega)
    refine ⟨b3 deep, ?_⟩
    rw [h]
    show _ + 1 + 16 * (dropR (c :: r)).length ≤ _
    omega
  v_word0 := fun ar deep s c r x h hr ih => by
    obtain ⟨i1, i2, i3⟩ := ih
    have hlt := len_dropR (r := r) hr
    have hss := (sub_dropR (c :: r)).trans (by rw [← h]; exact sub_skipS false s)
    have h2 := len_skipS false (dropR (c :: r))
    refine ⟨len_ind.v_word0 ar deep s c r x h hr i1, i2.trans hss, fun hb hl hd u e => ?_⟩
    obtain ⟨j1, j2⟩ := i3 (hb.sub hss) (Nat.le_trans hss.length_le hl) hd u e
    refine ⟨j1, ?_⟩
    rw [h]
    omega
  v_plain := fun ar deep s c r v s2 h hp hw => by
    have hss : s2.Sublist s := (sub_plain hw).trans (sub_of_skip h)
    refine ⟨len_ind.v_plain ar deep s c r v s2 h hp hw, hss, fun hb hl hd u e => ?_⟩
    have e' := Option.some.inj e
    have hle := skip_sub_le h
    rw [← e', h]
    exact plain_ok hw (by_skip h hb) (by simp only [List.length_cons]; omega) deep
  v_plain0 := fun ar deep s c r s2 x h hp hw ih => by
    obtain ⟨i1, i2, i3⟩ := ih
    have hss : s2.Sublist s := (sub_plain hw).trans (sub_of_skip h)
    have h1 := (sub_plain hw).length_le
    have h2 := len_skipS false s2
    refine ⟨len_ind.v_plain0 ar deep s c r s2 x h hp hw i1, i2.trans hss, fun hb hl hd u e => ?_⟩
    obtain ⟨j1, j2⟩ := i3 (hb.sub hss) (Nat.le_trans hss.length_le hl) hd u e
    refine ⟨j1, ?_⟩
    rw [h, List.length_cons]
    omega
  v_list := fun ar deep s r vs s2 h hd ih => by
    obtain ⟨i1, i2, i3⟩ := ih
    have hcl : (closeL s2).Sublist s2 := by
      unfold closeL
      split
      · exact List.drop_sublist _ _
      · exact List.Sublist.refl _
    have hr := sub_of_skip h
    refine ⟨len_ind.v_list ar deep s r vs s2 h hd i1, hcl.trans (i2.trans hr), fun hb hl _ u e => ?_⟩
    have e' := Option.some.inj e
    obtain ⟨j1, j2, j3⟩ := i3 (hb.sub hr) (Nat.le_trans hr.length_le hl) hd
    have hle := skip_sub_le h
    have hw := wVal_list vs
    have hc := hcl.length_le
    simp only [] at j1 j2 j3
    rw [← e']
    refine ⟨by unfold okV; exact ⟨hd, by omega, j1⟩, ?_⟩
    rw [h, List.length_cons]
    show _ + 1 + 16 * (closeL s2).length ≤ _
    omega
  v_dict := fun ar deep s r v s2 h hd ih => by
    obtain ⟨i1, i2, i3⟩ := ih
    have hr : (r.drop 1).Sublist s := (List.drop_sublist 1 r).trans (sub_of_skip h)
    refine ⟨len_ind.v_dict ar deep s r v s2 h hd i1, i2.trans hr, fun hb hl _ u e => ?_⟩
    have e' := Option.some.inj e
    have hle := skip_sub_le h
    have hdl : (r.drop 1).length ≤ r.length := by rw [List.length_drop]; omega
    obtain ⟨j1, j2⟩ := i3 (hb.sub hr) (by simp only [List.length_nil]; omega) hd (by unfold okP; exact True.intro) (by simp)
    rw [← e']
    refine ⟨j1, ?_⟩
    rw [h, List.length_cons]
    simp only [cost] at j2
    show (wVal v).length + 1 + 16 * s2.length ≤ _
    omega
  v_skip := fun ar deep s c r x h ih => by
    obtain ⟨i1, i2, i3⟩ := ih
    have hr := sub_of_skip h
    have h2 := len_skipS false r
    refine ⟨len_ind.v_skip ar deep s c r x h i1, i2.trans hr, fun hb hl hd u e => ?_⟩
    obtain ⟨j1, j2⟩ := i3 (hb.sub hr) (Nat.le_trans hr.length_le hl) hd u e
    refine ⟨j1, ?_⟩
    rw [h, List.length_cons]
    omega
  l_nil := fun deep s s2 ih => by
    obtain ⟨i1, i2, _⟩ := ih
    have hle := i2.length_le
    simp only [] at hle
    exact ⟨len_ind.l_nil deep s s2 i1, i2, fun _ _ _ => ⟨by unfold okL; exact True.intro, by show 0 + s2.length ≤ _; omega, by show 0 + 16 * s2.length ≤ _; omega⟩⟩
  l_cons := fun deep s v s2 vs s3 ih l => by
    obtain ⟨i1, i2, i3⟩ := ih
    obtain ⟨k1, k2, k3⟩ := l
    have i2' : s2.Sublist s := i2
    have hs2 := i2'.length_le
    have hsk := len_skipS false s
    have hlt : s2.length < (skipS false s).length := by
      rcases i1 with ⟨e, _, _⟩ | h
      · cases e
      · exact h
    refine ⟨len_ind.l_cons deep s v s2 vs s3 i1 k1, k2.trans i2', fun hb hl hd => ?_⟩
    obtain ⟨j1, j2⟩ := i3 hb hl (by omega) v rfl
    obtain ⟨m1, m2, m3⟩ := k3 (hb.sub i2') (Nat.le_trans hs2 hl) hd
    simp only [] at j2 m1 m2 m3
    refine ⟨by unfold okL; exact ⟨j1, m1⟩, ?_, ?_⟩
    · show vs.length + 1 + s3.length ≤ _
      omega
    · show (wVal v).length + 1 + costL vs + 16 * s3.length ≤ _
      omega
  d_nil := fun deep ps s h => ⟨Nat.zero_le _, List.nil_sublist _, fun _ hl hd hok hn => by
    have := wVal_dict ps
    refine ⟨by unfold okV; exact ⟨hd, by omega, hn, hok⟩, ?_⟩
    show (wVal (.dict ps)).length + 1 + 16 * 0 ≤ _
    omega⟩
  d_mark := fun deep ps s c r h => by
    have hss : (c :: r).Sublist s := by rw [← h]; exact sub_skipS false s
    refine ⟨len_ind.d_mark deep ps s c r h, hss, fun _ hl hd hok hn => ?_⟩
    have := wVal_dict ps
    have := hss.length_le
    refine ⟨by unfold okV; exact ⟨hd, by omega, hn, hok⟩, ?_⟩
    show (wVal (.dict ps)).length + 1 + 16 * (c :: r).length ≤ _
    omega
  d_end := fun deep ps s c r h he => by
    have hr : (r.drop 1).Sublist s := (List.drop_sublist 1 r).trans (sub_of_skip h)
    have hle := skip_sub_le h
    have hdl : (r.drop 1).length ≤ r.length := by rw [List.length_drop]; omega
    rcases streamV_all ps (r.drop 1) with e | ⟨d, t, e, a1, a2, a3⟩
    · have hL := len_ind.d_end deep ps s c r h he
      rw [e] at hL ⊢
      refine ⟨hL, hr, fun _ hl hd hok hn => ?_⟩
      have := wVal_dict ps
      refine ⟨by unfold okV; exact ⟨hd, by omega, hn, hok⟩, ?_⟩
      show (wVal (.dict ps)).length + 1 + 16 * (r.drop 1).length ≤ _
      omega
    · have hL := len_ind.d_end deep ps s c r h he
      rw [e] at hL ⊢
      refine ⟨hL, a2.trans hr, fun hb hl hd hok hn => ?_⟩
      have hw := wVal_stream ps d (by omega)
      refine ⟨by unfold okV; exact ⟨hd, by omega, hn, hok, hb.sub (a1.trans hr), by omega⟩, ?_⟩
      show (wVal (.stream ps d)).length + 1 + 16 * t.length ≤ _
      omega
  d_name := fun deep ps s r v s2 x h ih l => by
    obtain ⟨i1, i2, i3⟩ := ih
    obtain ⟨k1, k2, k3⟩ := l
    have hr := sub_of_skip h
    have hdr : (dropR r).Sublist s := (sub_dropR r).trans hr
    have i2' : s2.Sublist (dropR r) := i2
    have hle := skip_sub_le h
    have hlen : (takeR r).length + (dropR r).length = r.length := len_tw isReg r
    have hs2 := i2'.length_le
    have hsk := len_skipS false (dropR r)
    refine ⟨len_ind.d_name deep ps s r v s2 x h i1 k1, k2.trans (i2'.trans hdr), fun hb hl hd hok hn => ?_⟩
    obtain ⟨u1, u2⟩ := unesc_all (takeR r)
    have okk : okD (unesc (takeR r)) := ⟨u1 (hb.sub ((sub_takeR r).trans hr)), by omega⟩
    have okv : okV (deep + 1) (v.getD .none) ∧ (wVal (v.getD .none)).length + 1 + 16 * s2.length ≤ 5 + 16 * (dropR r).length := by
      cases v with
      | none =>
        refine ⟨by unfold okV; exact True.intro, ?_⟩
        have e : wVal ((none : Option Val).getD .none) = wNONE := by
          show wVal .none = wNONE
          unfold wVal
          rfl
        rw [e]
        show 4 + 1 + 16 * s2.length ≤ _
        omega
      | some u =>
        obtain ⟨j1, j2⟩ := i3 (hb.sub hdr) (Nat.le_trans hdr.length_le (by omega)) (by omega) u rfl
        simp only [] at j2
        exact ⟨j1, by show (wVal u).length + 1 + 16 * s2.length ≤ _; omega⟩
    have hpl := putA_len2 ps (unesc (takeR r)) (v.getD .none)
    have hcp := cost_put hn (unesc (takeR r)) (v.getD .none)
    have hwn := wName_le (unesc (takeR r))
    obtain ⟨m1, m2⟩ := k3 (hb.sub (i2'.trans hdr)) (by omega) hd (okP_put okk okv.1 hok) (putA_nodup hn)
    refine ⟨m1, ?_⟩
    have := okv.2
    omega
  d_item := fun deep ps s c r v s2 x h ih l => by
    obtain ⟨i1, i2, i3⟩ := ih
    obtain ⟨k1, k2, k3⟩ := l
    have hss : (c :: r).Sublist s := by rw [← h]; exact sub_skipS false s
    have i2' : s2.Sublist (c :: r) := i2
    have h1 := i2'.length_le
    have h2 := hss.length_le
    refine ⟨len_ind.d_item deep ps s c r v s2 x h i1 k1, k2.trans (i2'.trans hss), fun hb hl hd hok hn => ?_⟩
    obtain ⟨m1, m2⟩ := k3 (hb.sub (i2'.trans hss)) (by omega) hd hok hn
    exact ⟨m1, by omega⟩
  d_skip := fun deep ps s c r x h l => by
    obtain ⟨k1, k2, k3⟩ := l
    have hr := sub_of_skip h
    have h1 := hr.length_le
    refine ⟨len_ind.d_skip deep ps s c r x h k1, k2.trans hr, fun hb hl hd hok hn => ?_⟩
    obtain ⟨m1, m2⟩ := k3 (hb.sub hr) (by omega) hd hok hn
    exact ⟨m1, by omega⟩
theorem PV.sound {ar deep : Nat} {s t : List Int} {v : Option Val} (h : PV ar deep s v t) : MV ar deep s (v, t) := by
  obtain ⟨n, h⟩ := h
  exact (sound_ind.all n).1 _ _ _ _ h
/-! ### the objects -/
def costO : List (Int × Val) → Nat
  | [] => 0
  | o :: r => (wObj o).length + costO r
theorem costO_app : ∀ (a b : List (Int × Val)), costO (a ++ b) = costO a + costO b
  | [], b => by simp [costO]
  | o :: r, b => by
    show (wObj o).length + costO (r ++ b) = (wObj o).length + costO r + costO b
    rw [costO_app r b]
    omega
theorem costO_sub (k : Int) (v : Val) : ∀ ps : List (Int × Val), (ps.map (·.1)).Nodup → costO (ps.map (fun kv => if kv.1 = k then (kv.1, v) else kv)) ≤ costO ps + (wObj (k, v)).length
  | [], _ => by simp [costO]
  | (k', v') :: r, h => by
    have h' := List.nodup_cons.mp (show (k' :: r.map (·.1)).Nodup from h)
    rw [List.map_cons]
    by_cases e : k' = k
    · subst e
      have e2 : r.map (fun kv => if kv.1 = k' then (kv.1, v) else kv) = r := by
        have : r.map (fun kv => if kv.1 = k' then (kv.1, v) else kv) = r.map id := List.map_congr_left fun x hx => by
          rw [if_neg fun z => h'.1 (List.mem_map.mpr ⟨x, hx, z⟩)] <;> rfl
        rw [this, List.map_id]
      rw [e2, if_pos rfl]
      simp only [costO]
      omega
    · have ih := costO_sub k v r h'.2
      rw [if_neg e]
      simp only [costO]
      omega
theorem costO_put {ps : List (Int × Val)} (h : (ps.map (·.1)).Nodup) (k : Int) (v : Val) : costO (putA ps k v) ≤ costO ps + (wObj (k, v)).length := by
  unfold putA
  split
  · exact costO_sub k v ps h
  · rw [costO_app]
    simp only [costO]
    omega
/-- between two objects -/
structure MO (data : List Int) (obs : List (Int × Val)) (root : Int) (s : List Int) : Prop where
  sub : s.Sublist data
  nd : (obs.map (·.1)).Nodup
  cnt : obs.length + s.count 35 ≤ data.count 35
  num : ∀ o ∈ obs, 1 ≤ o.1 ∧ o.1 ≤ 9999 ∧ okV 0 o.2
  rt : 0 ≤ root ∧ root ≤ 9999
  cost : costO obs + 16 * s.length ≤ 16 * data.length
theorem MO.step {data s t : List Int} {obs : List (Int × Val)} {root : Int} (m : MO data obs root s) (h : t.Sublist s) : MO data obs root t :=
  ⟨h.trans m.sub, m.nd, by have := h.count_le 35; have := m.cnt; omega, m.num, m.rt, by have := h.length_le; have := m.cost; omega⟩
theorem PO.sound {data : List Int} {obs : List (Int × Val)} {root : Int} (hb : By data) (hl : data.length ≤ 100000) (h : PO [] 0 (skipS false data) obs root) : MO data obs root [] := by
  obtain ⟨n, h⟩ := h
  refine PO.induct (M := MO data) ?_ ?_ ?_ ?_ n [] 0 (skipS false data) (obs, root) ?_ h
  · intro obs root c r k s2 v t m hm hk hv
    have hs2 := sub_mark hk
    obtain ⟨_, i2, i3⟩ := hv.sound
    have i2' : t.Sublist s2 := i2
    have hcr : (c :: r).Sublist data := m.sub
    have hr : r.Sublist data := (List.sublist_cons_self c r).trans hcr
    have ht : (skipS false t).Sublist r := (sub_skipS false t).trans (i2'.trans hs2)
    have hc35 : c = 35 := by
      unfold isMark at hm
      rw [Bool.and_eq_true] at hm
      have := of_decide_eq_true hm.1
      exact Option.some.inj this
    obtain ⟨k1, k2⟩ := num_mark hk
    have hlr := hr.length_le
    have hls2 := hs2.length_le
    have okv : okV 0 (v.getD .none) ∧ (wVal (v.getD .none)).length + 1 + 16 * t.length ≤ 5 + 16 * s2.length := by
      have ht2 := i2'.length_le
      cases v with
      | none =>
        refine ⟨by unfold okV; exact True.intro, ?_⟩
        have e : wVal ((none : Option Val).getD .none) = wNONE := by
          show wVal .none = wNONE
          unfold wVal
          rfl
        rw [e]
        show 4 + 1 + 16 * t.length ≤ _
        omega
      | some u =>
        obtain ⟨j1, j2⟩ := i3 (hb.sub (hs2.trans hr)) (by omega) (by omega) u rfl
        have := len_skipS false s2
        simp only [] at j2
        exact ⟨j1, by show (wVal u).length + 1 + 16 * t.length ≤ _; omega⟩
    -- a mark has a digit
    have hdig : s2.length + 1 ≤ r.length := by
      have hk' : (if _ then _ else _) = _ := hk
      split at hk'
      · rename_i hc
        injection hk' with hk'
        injection hk' with _ e2
        have := len_tw isDigit r
        have h1 := hc.2.1
        rw [← e2]
        omega
      · cases hk'
    refine ⟨ht.trans hr, putA_nodup m.nd, ?_, ?_, m.rt, ?_⟩
    · have h1 := ht.count_le 35
      have h2 := m.cnt
      rw [hc35, List.count_cons_self] at h2
      have h3 := putA_len2 obs k (v.getD .none)
      omega
    · intro o ho
      rcases putA_mem ho with e | e
      · exact m.num o e
      · rw [e]
        exact ⟨k1, k2, okv.1⟩
    · have h1 := costO_put m.nd k (v.getD .none)
      have h2 := m.cost
      have h3 := decs_le5 k1 k2
      have h4 := okv.2
      have h5 := (sub_skipS false t).length_le
      have e : (wObj (k, v.getD .none)).length = (decs k).length + (wVal (v.getD .none)).length + 3 := by
        show ((35 :: decs k) ++ [10] ++ wVal (v.getD .none) ++ [10]).length = _
        simp only [List.length_append, List.length_cons, List.length_nil]
        omega
      simp only [List.length_cons] at h2
      omega
  · intro obs root c r k s2 m hr hg hk
    cases e : skipS false (dropR (c :: r)) with
    | nil => rw [e] at hk; cases hk
    | cons c2 r2 =>
      rw [e] at hk
      have hsub : (skipS false s2).Sublist (c :: r) := (sub_skipS false s2).trans ((sub_mark hk).trans ((List.sublist_cons_self c2 r2).trans ((by rw [← e]; exact sub_skipS false _ : (c2 :: r2).Sublist (dropR (c :: r))).trans (sub_dropR _))))
      have m' := m.step hsub
      obtain ⟨k1, k2⟩ := num_mark hk
      exact ⟨m'.sub, m'.nd, m'.cnt, m'.num, ⟨by omega, k2⟩, m'.cost⟩
  · intro obs root c r m hr
    exact m.step ((sub_skipS false _).trans (sub_dropR _))
  · intro obs root c r m
    exact m.step ((sub_skipS false r).trans (List.sublist_cons_self c r))
  · have hs := sub_skipS false data
    exact ⟨hs, by simp, by have := hs.count_le 35; simp only [List.length_nil]; omega, fun o h => by simp at h, by omega, by have := hs.length_le; simp only [costO]; omega⟩
end K22

/-! What is written is read again: bytes, names, texts, numbers. -/
namespace K22
/-! ### bytes -/
theorem reg_digit {c : Int} (h : 48 ≤ c ∧ c ≤ 57) : isReg c = true := by
  unfold isReg
  rw [decide_eq_false (by simp [whites]; omega), decide_eq_false (by simp [signs]; omega)]
  rfl
theorem reg_low {c : Int} (h : 97 ≤ c ∧ c ≤ 102) : isReg c = true := by
  unfold isReg
  rw [decide_eq_false (by simp [whites]; omega), decide_eq_false (by simp [signs]; omega)]
  rfl
theorem hexd_reg {i : Int} (h : 0 ≤ i ∧ i < 16) : isReg (hexd i) = true := by
  unfold hexd
  split
  · exact reg_digit (by omega)
  · exact reg_low (by omega)
theorem hexv_hexd {i : Int} (h : 0 ≤ i ∧ i < 16) : hexv (hexd i) = i := by
  unfold hexd hexv
  by_cases h1 : i < 10
  · rw [if_pos h1, if_pos (by omega)]
    omega
  · rw [if_neg h1, if_neg (by omega), if_pos (by omega)]
    omega
theorem hex_back {b : Int} (h : 0 ≤ b ∧ b ≤ 255) : 16 * hexv (hexd (b / 16)) + hexv (hexd (b % 16)) = b ∧ 0 ≤ hexv (hexd (b / 16)) ∧ 0 ≤ hexv (hexd (b % 16)) := by
  rw [hexv_hexd (by omega), hexv_hexd (by omega)]
  omega
/-- no byte of a word stands at the head -/
def Stp (t : List Int) : Prop := ∀ c r, t = c :: r → isReg c = false
theorem tw_app {f : Int → Bool} : ∀ {w t : List Int}, (∀ b ∈ w, f b = true) → (∀ c r, t = c :: r → f c = false) → (w ++ t).takeWhile f = w ∧ (w ++ t).dropWhile f = t
  | [], [], _, _ => ⟨rfl, rfl⟩
  | [], c :: r, _, h => by
    have := h c r rfl
    constructor
    · rw [List.nil_append, List.takeWhile_cons, if_neg (by rw [this]; exact Bool.false_ne_true)]
    · rw [List.nil_append, List.dropWhile_cons, if_neg (by rw [this]; exact Bool.false_ne_true)]
  | b :: w, t, hw, h => by
    have hb := hw b List.mem_cons_self
    obtain ⟨i1, i2⟩ := tw_app (w := w) (t := t) (fun x hx => hw x (List.mem_cons_of_mem _ hx)) h
    constructor
    · rw [List.cons_append, List.takeWhile_cons, if_pos hb, i1]
    · rw [List.cons_append, List.dropWhile_cons, if_pos hb, i2]
theorem takeR_app {w t : List Int} (h : ∀ b ∈ w, isReg b = true) (s : Stp t) : takeR (w ++ t) = w := (tw_app h s).1
theorem dropR_app {w t : List Int} (h : ∀ b ∈ w, isReg b = true) (s : Stp t) : dropR (w ++ t) = t := (tw_app h s).2
/-! ### numbers -/
theorem ndig_dig : ∀ n : Nat, ∀ b ∈ ndig n, 48 ≤ b ∧ b ≤ 57 := by
  intro n
  induction n using Nat.strongRecOn with
  | _ n ih =>
    intro b hb
    unfold ndig at hb
    by_cases h : n < 10
    · rw [if_pos h] at hb
      rw [List.mem_singleton.mp hb]
      omega
    · rw [if_neg h] at hb
      rcases List.mem_append.mp hb with h' | h'
      · exact ih (n / 10) (by omega) b h'
      · rw [List.mem_singleton.mp h']
        omega
theorem bnd_ndig : ∀ n : Nat, n ≤ 2147483647 → bounded (ndig n) = n := by
  intro n
  induction n using Nat.strongRecOn with
  | _ n ih =>
    intro hn
    unfold ndig
    by_cases h : n < 10
    · rw [if_pos h]
      show min (10 * 0 + (48 + (n : Int)) - 48) 2147483648 = n
      omega
    · rw [if_neg h]
      have i1 := ih (n / 10) (by omega) (by omega)
      unfold bounded at i1 ⊢
      rw [List.foldl_append, i1]
      show min (10 * ((n / 10 : Nat) : Int) + (48 + ((n % 10 : Nat) : Int)) - 48) 2147483648 = n
      omega
theorem ndig_all (n : Nat) : (ndig n).all isDigit = true := by
  rw [List.all_eq_true]
  intro b hb
  exact decide_eq_true (ndig_dig n b hb)
theorem ndig_cons (n : Nat) : ∃ c r, ndig n = c :: r ∧ 48 ≤ c ∧ c ≤ 57 := by
  cases h : ndig n with
  | nil =>
    have := ndig_pos n
    rw [h] at this
    simp at this
  | cons c r => exact ⟨c, r, rfl, ndig_dig n c (by rw [h]; exact List.mem_cons_self)⟩
theorem wordInt_decs {n : Int} (h1 : -2147483647 ≤ n) (h2 : n ≤ 2147483647) : wordInt (decs n) = some n := by
  have hb := bnd_ndig n.natAbs (by omega)
  have hp := ndig_pos n.natAbs
  have ha := ndig_all n.natAbs
  unfold decs
  by_cases hn : n < 0
  · rw [if_pos hn]
    unfold wordInt
    have e : (if (45 :: ndig n.natAbs).take 1 = [45] then (45 :: ndig n.natAbs).drop 1 else 45 :: ndig n.natAbs) = ndig n.natAbs := by
      exact if_pos rfl
    rw [e]
    show (if (ndig n.natAbs).length = 0 ∨ (ndig n.natAbs).all isDigit = false then none else some (if (ndig n.natAbs).length < (45 :: ndig n.natAbs).length then -(min (bounded (ndig n.natAbs)) 2147483647) else min (bounded (ndig n.natAbs)) 2147483647)) = some n
    rw [if_neg (by rw [ha]; intro y; rcases y with y | y; · omega
                   · cases y), if_pos (by simp), hb]
    congr 1
    omega
  · rw [if_neg hn]
    unfold wordInt
    obtain ⟨c, r, ec, hc1, hc2⟩ := ndig_cons n.natAbs
    have e : (if (ndig n.natAbs).take 1 = [45] then (ndig n.natAbs).drop 1 else ndig n.natAbs) = ndig n.natAbs := by
      refine if_neg ?_
      rw [ec]
      intro z
      have : c = 45 := by simpa using z
      omega
    rw [e]
    show (if (ndig n.natAbs).length = 0 ∨ (ndig n.natAbs).all isDigit = false then none else some (if (ndig n.natAbs).length < (ndig n.natAbs).length then -(min (bounded (ndig n.natAbs)) 2147483647) else min (bounded (ndig n.natAbs)) 2147483647)) = some n
    rw [if_neg (by rw [ha]; intro y; rcases y with y | y; · omega
                   · cases y), if_neg (by omega), hb]
    congr 1
    omega
theorem decs_reg (n : Int) : ∀ b ∈ decs n, isReg b = true := by
  intro b hb
  unfold decs at hb
  split at hb
  · rcases List.mem_cons.mp hb with e | e
    · rw [e]; decide
    · exact reg_digit (ndig_dig _ b e)
  · exact reg_digit (ndig_dig _ b hb)
theorem decs_cons (n : Int) : ∃ c r, decs n = c :: r ∧ (c = 45 ∨ (48 ≤ c ∧ c ≤ 57)) := by
  unfold decs
  split
  · exact ⟨45, _, rfl, .inl rfl⟩
  · obtain ⟨c, r, e, h⟩ := ndig_cons n.natAbs
    exact ⟨c, r, e, .inr h⟩
theorem wordVal_decs {n : Int} (h1 : -2147483647 ≤ n) (h2 : n ≤ 2147483647) : wordVal (decs n) = some (.int n) := by
  have hw := wordInt_decs h1 h2
  obtain ⟨c, r, e, hc⟩ := decs_cons n
  unfold wordVal
  have n1 : ¬ decs n = wTRUE := fun z => by rw [e] at z; injection z with z _; omega
  have n2 : ¬ decs n = wFALSE := fun z => by rw [e] at z; injection z with z _; omega
  have n3 : ¬ decs n = wNONE := fun z => by rw [e] at z; injection z with z _; omega
  rw [if_neg n1, if_neg n2, if_neg n3, hw] <;> rfl
theorem mark_back {g n : Int} {t : List Int} (hg : g = 35 ∨ g = 64) (h1 : 1 ≤ n) (h2 : n ≤ 9999) (ht : ∀ c r, t = c :: r → isDigit c = false) : markOf (g :: (decs n ++ t)) = some (n, t) ∧ isMark g (g :: (decs n ++ t)) = true := by
  have e : decs n = ndig n.natAbs := by unfold decs; rw [if_neg (by omega)]
  have hb := bnd_ndig n.natAbs (by omega)
  have hp := ndig_pos n.natAbs
  have hl := ndig_len10 3 n.natAbs (by omega)
  obtain ⟨a1, a2⟩ := tw_app (f := isDigit) (w := ndig n.natAbs) (t := t) (fun b hbb => decide_eq_true (ndig_dig _ b hbb)) ht
  have m : markOf (g :: (decs n ++ t)) = some (n, t) := by
    rw [e]
    show (if _ then _ else _) = _
    rw [a1, a2, hb, if_pos ⟨hg, hp, by omega, by omega, by omega⟩]
    congr 2
    omega
  refine ⟨m, ?_⟩
  unfold isMark
  rw [m]
  simp
/-! ### names -/
theorem nameB_reg {b : Int} (hb : 0 ≤ b ∧ b ≤ 255) : ∀ x ∈ wNameB b, isReg x = true := by
  intro x hx
  unfold wNameB at hx
  split at hx
  · rcases List.mem_cons.mp hx with e | e
    · rw [e]; decide
    · unfold hex2 at e
      rcases List.mem_cons.mp e with e | e
      · rw [e]; exact hexd_reg (by omega)
      · rw [List.mem_singleton.mp e]; exact hexd_reg (by omega)
  · rename_i h
    rw [List.mem_singleton.mp hx]
    cases h2 : isReg b with
    | true => rfl
    | false => exact absurd (.inl h2) h
theorem name_reg {d : List Int} (hd : By d) : ∀ x ∈ d.flatMap wNameB, isReg x = true := by
  intro x hx
  obtain ⟨b, hb, hx⟩ := List.mem_flatMap.mp hx
  exact nameB_reg (hd b hb) x hx
theorem unesc_ne {c : Int} (h : c ≠ 126) : ∀ r : List Int, unesc (c :: r) = c :: unesc r
  | [] => rfl
  | [a] => rfl
  | a :: b :: r => by rw [unesc_if, if_neg fun z => h z.1]
theorem unesc_back : ∀ {d : List Int}, By d → unesc (d.flatMap wNameB) = d
  | [], _ => rfl
  | b :: r, h => by
    have hb := h b List.mem_cons_self
    have ih := unesc_back (d := r) fun x hx => h x (List.mem_cons_of_mem _ hx)
    rw [List.flatMap_cons]
    by_cases hc : isReg b = false ∨ b < 33 ∨ 126 < b ∨ b = 126
    · have e : wNameB b = 126 :: hex2 b := if_pos hc
      obtain ⟨h1, h2, h3⟩ := hex_back hb
      rw [e]
      show unesc (126 :: hexd (b / 16) :: hexd (b % 16) :: r.flatMap wNameB) = _
      rw [unesc_if, if_pos ⟨rfl, h2, h3⟩, h1, ih]
    · have e : wNameB b = [b] := if_neg hc
      rw [e]
      show unesc (b :: r.flatMap wNameB) = _
      rw [unesc_ne (fun z => hc (.inr (.inr (.inr z)))), ih]
/-! ### texts -/
theorem pT_bs (k : Nat) (r : List Int) : pText k (92 :: r) = ((escP r).1 ++ (pText k (escP r).2).1, (pText k (escP r).2).2) := by
  conv => lhs; unfold pText
  rw [if_pos rfl]
theorem pT_end (r : List Int) : pText 1 (41 :: r) = ([], r) := by
  conv => lhs; unfold pText
  rw [if_neg (by decide), if_neg (by decide), if_pos rfl, if_pos rfl]
theorem pT_other {k : Nat} {c : Int} (h1 : c ≠ 92) (h2 : c ≠ 40) (h3 : c ≠ 41) (r : List Int) : pText k (c :: r) = (c :: (pText k r).1, (pText k r).2) := by
  conv => lhs; unfold pText
  rw [if_neg h1, if_neg h2, if_neg h3]
theorem text_back (t : List Int) : ∀ {d : List Int}, By d → pText 1 (d.flatMap wTextB ++ 41 :: t) = (d, t)
  | [], _ => pT_end t
  | b :: r, h => by
    have hb := h b List.mem_cons_self
    have ih := text_back t (d := r) fun x hx => h x (List.mem_cons_of_mem _ hx)
    rw [List.flatMap_cons, List.append_assoc]
    by_cases hc : b = 40 ∨ b = 41 ∨ b = 92
    · have e : wTextB b = [92, b] := if_pos hc
      rw [e]
      show pText 1 (92 :: b :: (r.flatMap wTextB ++ 41 :: t)) = _
      rw [pT_bs]
      have e2 : escP (b :: (r.flatMap wTextB ++ 41 :: t)) = ([b], r.flatMap wTextB ++ 41 :: t) := by
        have hb1 : escv b = b := by rcases hc with e | e | e <;> (subst e; decide)
        have hb2 : ¬ (0 ≤ hexv b) := by rcases hc with e | e | e <;> (subst e; decide)
        cases hX : r.flatMap wTextB ++ 41 :: t with
        | nil => simp at hX
        | cons x X => rw [escP_if, if_neg fun z => hb2 z.1, hb1]
      rw [e2, ih] <;> rfl
    · by_cases hc2 : b < 32 ∨ 126 < b
      · have e : wTextB b = 92 :: hex2 b := (if_neg hc).trans (if_pos hc2)
        obtain ⟨h1, h2, h3⟩ := hex_back hb
        rw [e]
        show pText 1 (92 :: hexd (b / 16) :: hexd (b % 16) :: (r.flatMap wTextB ++ 41 :: t)) = _
        rw [pT_bs, escP_if, if_pos ⟨h2, h3⟩, h1, ih] <;> rfl
      · have e : wTextB b = [b] := (if_neg hc).trans (if_neg hc2)
        rw [e]
        show pText 1 (b :: (r.flatMap wTextB ++ 41 :: t)) = _
        rw [pT_other (fun z => hc (.inr (.inr z))) (fun z => hc (.inl z)) (fun z => hc (.inr (.inl z))), ih]
/-! ### joined -/
def joinT (ps : List (List Int)) : List Int := ps.flatMap fun q => 32 :: q
theorem join_from : ∀ (ps : List (List Int)) (acc : List Int), acc ≠ [] → ps.foldl (fun acc p => (if 0 < acc.length then acc ++ [32] else acc) ++ p) acc = acc ++ joinT ps
  | [], acc, _ => (List.append_nil acc).symm
  | p :: ps, acc, h => by
    have hl : 0 < acc.length := List.length_pos_iff.mpr h
    rw [List.foldl_cons, if_pos hl, join_from ps _ (by simp [h])]
    show acc ++ [32] ++ p ++ joinT ps = acc ++ ((32 :: p) ++ joinT ps)
    simp
theorem join_cons {p : List Int} {ps : List (List Int)} (h : p ≠ []) : joinSp (p :: ps) = p ++ joinT ps := by
  unfold joinSp
  rw [List.foldl_cons]
  show ps.foldl _ ([] ++ p) = _
  rw [List.nil_append, join_from ps p h]
end K22

/-! What is written is read again: values, objects, books. -/
namespace K22
theorem wVals_c (v : Val) (r : List Val) : wVals (v :: r) = wVal v :: wVals r := by
  conv => lhs; unfold wVals
theorem wParts_c (k : List Int) (v : Val) (r : List (List Int × Val)) : wParts ((k, v) :: r) = (wName k ++ [32] ++ wVal v) :: wParts r := by
  conv => lhs; unfold wParts
/-! ### white at the head -/
theorem sk_white {c : Int} (h : isWhite c = true) (r : List Int) : skipS false (c :: r) = skipS false r := by
  conv => lhs; unfold skipS
  rw [if_pos h]
theorem sk_stay {c : Int} (h1 : isWhite c = false) (h2 : c ≠ 37) (r : List Int) : skipS false (c :: r) = c :: r := by
  conv => lhs; unfold skipS
  rw [if_neg (by rw [h1]; exact Bool.false_ne_true), if_neg h2]
theorem pVal_sk {s s' : List Int} (h : skipS false s = skipS false s') (n ar deep : Nat) : pVal n ar deep s = pVal n ar deep s' := by
  cases n with
  | zero => unfold pVal; rfl
  | succ n =>
    conv => lhs; unfold pVal
    conv => rhs; unfold pVal
    rw [h]
theorem PV.sk {ar deep : Nat} {s s' t : List Int} {v : Option Val} (h : skipS false s = skipS false s') (k : PV ar deep s v t) : PV ar deep s' v t := by
  obtain ⟨n, k⟩ := k
  exact ⟨n, by rw [← pVal_sk h]; exact k⟩
theorem PL.sk {deep : Nat} {s s' t : List Int} {vs : List Val} (h : skipS false s = skipS false s') (k : PL deep s vs t) : PL deep s' vs t := by
  obtain ⟨n, k⟩ := k
  refine ⟨n, ?_⟩
  cases n with
  | zero => unfold pList at k; cases k
  | succ n =>
    rw [pList_eq] at k ⊢
    rw [← pVal_sk h]
    exact k
theorem PD.sk {deep : Nat} {ps : List (List Int × Val)} {s s' t : List Int} {v : Val} (h : skipS false s = skipS false s') (k : PD deep ps s v t) : PD deep ps s' v t := by
  obtain ⟨n, k⟩ := k
  refine ⟨n, ?_⟩
  cases n with
  | zero => unfold pDict at k; cases k
  | succ n =>
    have e : pDict (n + 1) deep ps s' = pDict (n + 1) deep ps s := by
      conv => lhs; unfold pDict
      conv => rhs; unfold pDict
      rw [h]
    rw [e]
    exact k
/-- what stands behind a written value -/
structure Tl (t : List Int) : Prop where
  hd : ∃ c r, t = c :: r ∧ (c = 32 ∨ c = 93 ∨ c = 62 ∨ c = 10)
  nb : ∀ c r, skipW t = c :: r → c ≠ 123
theorem Tl.stp {t : List Int} (h : Tl t) : Stp t := by
  obtain ⟨c, r, e, hc⟩ := h.hd
  intro c' r' e'
  rw [e] at e'
  injection e' with e1 _
  subst e1
  rcases hc with e | e | e | e <;> (subst e; decide)
theorem Tl.dig {t : List Int} (h : Tl t) : ∀ c r, t = c :: r → isDigit c = false := by
  obtain ⟨c, r, e, hc⟩ := h.hd
  intro c' r' e'
  rw [e] at e'
  injection e' with e1 _
  subst e1
  rcases hc with e | e | e | e <;> (subst e; decide)
theorem skW_stay {c : Int} (h : isWhite c = false) (r : List Int) : skipW (c :: r) = c :: r := by
  unfold skipW
  rw [List.dropWhile_cons, if_neg (by rw [h]; exact Bool.false_ne_true)]
theorem skW_white {c : Int} (h : isWhite c = true) (r : List Int) : skipW (c :: r) = skipW r := by
  unfold skipW
  rw [List.dropWhile_cons, if_pos h]
/-- a byte that a written value begins with -/
def Hd (c : Int) : Prop := isWhite c = false ∧ c ≠ 37 ∧ c ≠ 123 ∧ c ≠ 35 ∧ c ≠ 93 ∧ c ≠ 62
theorem Hd.dec {c : Int} (h : c = 45 ∨ (48 ≤ c ∧ c ≤ 57)) : Hd c := by
  refine ⟨decide_eq_false (by simp [whites]; omega), ?_, ?_, ?_, ?_, ?_⟩ <;> omega
theorem wVal_hd (v : Val) : ∃ c r, wVal v = c :: r ∧ Hd c := by
  cases v with
  | none => exact ⟨110, _, by unfold wVal; rfl, by unfold Hd; decide⟩
  | bool b => cases b with
    | true => exact ⟨116, _, by unfold wVal; rfl, by unfold Hd; decide⟩
    | false => exact ⟨102, _, by unfold wVal; rfl, by unfold Hd; decide⟩
  | int n =>
    obtain ⟨c, r, e, h⟩ := decs_cons n
    exact ⟨c, r, by unfold wVal; exact e, Hd.dec h⟩
  | name d => exact ⟨47, _, by unfold wVal; rfl, by unfold Hd; decide⟩
  | text d => exact ⟨40, _, by unfold wVal; rfl, by unfold Hd; decide⟩
  | ref n => exact ⟨64, _, by unfold wVal; rfl, by unfold Hd; decide⟩
  | list vs => exact ⟨91, _, by unfold wVal; rfl, by unfold Hd; decide⟩
  | dict ps => exact ⟨60, _, by unfold wVal; rfl, by unfold Hd; decide⟩
  | stream ps d => exact ⟨60, _, by unfold wVal; rfl, by unfold Hd; decide⟩
theorem sk_val (v : Val) (t : List Int) : skipS false (wVal v ++ t) = wVal v ++ t := by
  obtain ⟨c, r, e, h⟩ := wVal_hd v
  rw [e]
  exact sk_stay h.1 h.2.1 _
theorem no35 {c : Int} (h : c ≠ 35) (r : List Int) : ¬ isMark 35 (c :: r) = true := by
  unfold isMark
  intro z
  rw [Bool.and_eq_true] at z
  have := of_decide_eq_true z.1
  exact h (Option.some.inj this)
theorem noStop {ar : Nat} {c : Int} {r : List Int} (h1 : c ≠ 93) (h2 : c ≠ 62) : ¬ gStop ar c r := by
  intro g
  rcases g with g | g
  · exact h1 g.2
  · have := g.2
    cases r with
    | nil => simp at this
    | cons a b =>
      have : c = 62 := by simpa using (List.cons.inj (show c :: [a] = 62 :: [62] from this)).1
      exact h2 this
theorem no6262 {c : Int} (h : c ≠ 62) (r : List Int) : ¬ (c :: r).take 2 = [62, 62] := by
  intro z
  rw [List.take_succ_cons] at z
  injection z with z _
  exact h z
/-- the tails within a list and a dict -/
theorem Tl.list (vs : List Val) (t : List Int) : Tl (joinT (wVals vs) ++ 93 :: t) := by
  cases vs with
  | nil =>
    refine ⟨⟨93, t, by unfold wVals; rfl, .inr (.inl rfl)⟩, fun c r h => ?_⟩
    have e : joinT (wVals []) ++ 93 :: t = 93 :: t := by unfold wVals; rfl
    rw [e, skW_stay (by decide)] at h
    injection h with h _
    omega
  | cons v r =>
    have e : joinT (wVals (v :: r)) ++ 93 :: t = 32 :: (wVal v ++ (joinT (wVals r) ++ 93 :: t)) := by
      rw [wVals_c]
      show ((32 :: wVal v) ++ joinT (wVals r)) ++ 93 :: t = _
      simp
    rw [e]
    refine ⟨⟨32, _, rfl, .inl rfl⟩, fun c r' h => ?_⟩
    obtain ⟨c0, r0, e0, h0⟩ := wVal_hd v
    rw [skW_white (by decide), e0, List.cons_append, skW_stay h0.1] at h
    injection h with h _
    rw [← h]
    exact h0.2.2.1
theorem Tl.dict (ps : List (List Int × Val)) (t : List Int) : Tl (joinT (wParts ps) ++ 62 :: 62 :: t) := by
  cases ps with
  | nil =>
    have e : joinT (wParts []) ++ 62 :: 62 :: t = 62 :: 62 :: t := by unfold wParts; rfl
    rw [e]
    refine ⟨⟨62, _, rfl, .inr (.inr (.inl rfl))⟩, fun c r h => ?_⟩
    rw [skW_stay (by decide)] at h
    injection h with h _
    omega
  | cons x r =>
    obtain ⟨k, v⟩ := x
    have e : joinT (wParts ((k, v) :: r)) ++ 62 :: 62 :: t = 32 :: 47 :: (k.flatMap wNameB ++ 32 :: (wVal v ++ (joinT (wParts r) ++ 62 :: 62 :: t))) := by
      rw [wParts_c]
      show ((32 :: (wName k ++ [32] ++ wVal v)) ++ joinT (wParts r)) ++ 62 :: 62 :: t = _
      unfold wName
      simp
    rw [e]
    refine ⟨⟨32, _, rfl, .inl rfl⟩, fun c r' h => ?_⟩
    rw [skW_white (by decide), skW_stay (by decide)] at h
    injection h with h _
    omega
theorem putA_new {κ β : Type} [DecidableEq κ] {ps : List (κ × β)} {k : κ} (v : β) (h : k ∉ ps.map (·.1)) : putA ps k v = ps ++ [(k, v)] := by
  unfold putA
  refine if_neg ?_
  rw [List.any_eq_true]
  rintro ⟨x, hx, e⟩
  exact h (List.mem_map.mpr ⟨x, hx, of_decide_eq_true e⟩)
theorem stream_dict {t : List Int} (h : Tl t) (ps : List (List Int × Val)) : streamV ps t = (.dict ps, t) := by
  cases e : skipW t with
  | nil =>
    unfold streamV
    rw [e]
  | cons c r =>
    rw [streamV_cons e]
    exact if_neg fun z => h.nb c r e z.1
theorem stream_back (ps : List (List Int × Val)) {d : List Int} (hd : d.length ≤ 100000) (t : List Int) : streamV ps (([123] ++ decs (d.length : Int) ++ [125]) ++ d ++ [123, 125] ++ t) = (.stream ps d, t) := by
  have e0 : (([123] ++ decs (d.length : Int) ++ [125]) ++ d ++ [123, 125] ++ t) = 123 :: (ndig d.length ++ (125 :: (d ++ 123 :: 125 :: t))) := by
    have : decs (d.length : Int) = ndig d.length := by
      unfold decs
      rw [if_neg (by omega)] <;> rfl
    rw [this]
    simp
  rw [e0, streamV_cons (skW_stay (by decide) _)]
  obtain ⟨a1, a2⟩ := tw_app (f := isDigit) (w := ndig d.length) (t := 125 :: (d ++ 123 :: 125 :: t)) (fun b hbb => decide_eq_true (ndig_dig _ b hbb)) (fun c r e => by
    injection e with e _
    rw [← e]
    decide)
  have hl := ndig_len10 5 d.length (by omega)
  have hp := ndig_pos d.length
  rw [a1, a2, if_pos ⟨rfl, rfl, by omega⟩]
  show streamD ps (ndig d.length) (d ++ 123 :: 125 :: t) = _
  have hb := bnd_ndig d.length (by omega)
  have hn : (bounded (ndig d.length)).toNat = d.length := by rw [hb]; omega
  unfold streamD
  rw [hn, List.drop_left, if_pos ⟨by omega, rfl⟩, List.take_left, ← List.drop_drop, List.drop_left] <;> rfl
theorem sk_list (vs : List Val) (X : List Int) : skipS false (joinSp (wVals vs) ++ X) = skipS false (joinT (wVals vs) ++ X) := by
  cases vs with
  | nil => unfold wVals; rfl
  | cons v r =>
    obtain ⟨c, q, e, h⟩ := wVal_hd v
    unfold wVals
    rw [join_cons (by rw [e]; simp)]
    show _ = skipS false (((32 :: wVal v) ++ joinT (wVals r)) ++ X)
    rw [List.cons_append, List.cons_append, sk_white (by decide)]
theorem sk_parts (ps : List (List Int × Val)) (X : List Int) : skipS false (joinSp (wParts ps) ++ X) = skipS false (joinT (wParts ps) ++ X) := by
  cases ps with
  | nil => unfold wParts; rfl
  | cons x r =>
    obtain ⟨k, v⟩ := x
    unfold wParts
    rw [join_cons (by unfold wName; simp)]
    show _ = skipS false (((32 :: (wName k ++ [32] ++ wVal v)) ++ joinT (wParts r)) ++ X)
    rw [List.cons_append, List.cons_append, sk_white (by decide)]
mutual
theorem rtV : ∀ (v : Val) (ar deep : Nat) (t : List Int), okV deep v → Tl t → PV ar deep (wVal v ++ t) (some v) t
  | .none, ar, deep, t, _, h => by
    have hs := sk_val .none t
    have e : wVal .none = wNONE := by unfold wVal; rfl
    rw [e] at hs ⊢
    have hr : ∀ b ∈ wNONE, isReg b = true := by decide
    have := PV.word (ar := ar) (deep := deep) (u := .none) (c := 110) (r := [111, 110, 101] ++ t) hs (no35 (by decide) _) (noStop (by decide) (by decide)) (by decide) (by
      show wordVal (takeR (wNONE ++ t)) = _
      rw [takeR_app hr h.stp] <;> rfl)
    have hd : dropR (110 :: ([111, 110, 101] ++ t)) = t := dropR_app (w := wNONE) hr h.stp
    rw [hd] at this
    exact this
  | .bool true, ar, deep, t, _, h => by
    have hs := sk_val (.bool true) t
    have e : wVal (.bool true) = wTRUE := by unfold wVal; rfl
    rw [e] at hs ⊢
    have hr : ∀ b ∈ wTRUE, isReg b = true := by decide
    have := PV.word (ar := ar) (deep := deep) (u := .bool true) (c := 116) (r := [114, 117, 101] ++ t) hs (no35 (by decide) _) (noStop (by decide) (by decide)) (by decide) (by
      show wordVal (takeR (wTRUE ++ t)) = _
      rw [takeR_app hr h.stp] <;> rfl)
    have hd : dropR (116 :: ([114, 117, 101] ++ t)) = t := dropR_app (w := wTRUE) hr h.stp
    rw [hd] at this
    exact this
  | .bool false, ar, deep, t, _, h => by
    have hs := sk_val (.bool false) t
    have e : wVal (.bool false) = wFALSE := by unfold wVal; rfl
    rw [e] at hs ⊢
    have hr : ∀ b ∈ wFALSE, isReg b = true := by decide
    have := PV.word (ar := ar) (deep := deep) (u := .bool false) (c := 102) (r := [97, 108, 115, 101] ++ t) hs (no35 (by decide) _) (noStop (by decide) (by decide)) (by decide) (by
      show wordVal (takeR (wFALSE ++ t)) = _
      rw [takeR_app hr h.stp] <;> rfl)
    have hd : dropR (102 :: ([97, 108, 115, 101] ++ t)) = t := dropR_app (w := wFALSE) hr h.stp
    rw [hd] at this
    exact this
  | .int n, ar, deep, t, ok, h => by
    unfold okV at ok
    have hs := sk_val (.int n) t
    have e : wVal (.int n) = decs n := by unfold wVal; rfl
    rw [e] at hs ⊢
    have hr := decs_reg n
    obtain ⟨c, r, ec, hc⟩ := decs_cons n
    have hdr : dropR (decs n ++ t) = t := dropR_app hr h.stp
    have htk : takeR (decs n ++ t) = decs n := takeR_app hr h.stp
    have hw := wordVal_decs ok.1 ok.2
    rw [← htk] at hw
    rw [ec, List.cons_append] at hs hdr hw ⊢
    have := PV.word (ar := ar) (deep := deep) hs (no35 (by omega) _) (noStop (by omega) (by omega)) (hr c (by rw [ec]; exact List.mem_cons_self)) hw
    rw [hdr] at this
    exact this
  | .ref n, ar, deep, t, ok, h => by
    unfold okV at ok
    have hs := sk_val (.ref n) t
    have e : wVal (.ref n) = 64 :: decs n := by unfold wVal; rfl
    rw [e, List.cons_append] at hs ⊢
    obtain ⟨m1, m2⟩ := mark_back (g := 64) (.inr rfl) ok.1 ok.2 h.dig
    exact PV.plain hs (no35 (by decide) _) (noStop (by decide) (by decide)) (by decide) (.inr (.inr (.inl rfl))) (by
      unfold plainV
      rw [if_pos rfl, if_pos m2, m1])
  | .name d, ar, deep, t, ok, h => by
    unfold okV at ok
    have hs := sk_val (.name d) t
    have e : wVal (.name d) = 47 :: d.flatMap wNameB := by unfold wVal; rfl
    rw [e, List.cons_append] at hs ⊢
    have hr := name_reg ok.1
    exact PV.plain hs (no35 (by decide) _) (noStop (by decide) (by decide)) (by decide) (.inr (.inl rfl)) (by
      unfold plainV
      rw [if_neg (by decide), if_pos rfl]
      show (some (Val.name (unesc (takeR (d.flatMap wNameB ++ t)))), dropR (d.flatMap wNameB ++ t)) = _
      rw [takeR_app hr h.stp, dropR_app hr h.stp, unesc_back ok.1])
  | .text d, ar, deep, t, ok, h => by
    unfold okV at ok
    have hs := sk_val (.text d) t
    have e : wVal (.text d) = (40 :: d.flatMap wTextB) ++ [41] := by unfold wVal; rfl
    have e2 : wVal (.text d) ++ t = 40 :: (d.flatMap wTextB ++ 41 :: t) := by rw [e]; simp
    rw [e2] at hs ⊢
    exact PV.plain hs (no35 (by decide) _) (noStop (by decide) (by decide)) (by decide) (.inl rfl) (by
      unfold plainV
      rw [if_neg (by decide), if_neg (by decide), if_pos rfl]
      show (some (Val.text (pText 1 (d.flatMap wTextB ++ 41 :: t)).1), (pText 1 (d.flatMap wTextB ++ 41 :: t)).2) = _
      rw [text_back t ok.1])
  | .list vs, ar, deep, t, ok, h => by
    unfold okV at ok
    have hs := sk_val (.list vs) t
    have e : wVal (.list vs) = [91] ++ joinSp (wVals vs) ++ [93] := by unfold wVal; rfl
    have e2 : wVal (.list vs) ++ t = 91 :: (joinSp (wVals vs) ++ 93 :: t) := by rw [e]; simp
    rw [e2] at hs ⊢
    have hL : PL deep (joinSp (wVals vs) ++ 93 :: t) vs (93 :: t) := PL.sk (sk_list vs _).symm (rtL vs deep t ok.2.2)
    have := PV.list (ar := ar) hs (no35 (by decide) _) (noStop (by decide) (by decide)) (by decide) (by
      intro g
      rcases g with g | g | g | g
      · exact absurd g (by decide)
      · exact absurd g (by decide)
      · exact absurd g (by decide)
      · exact absurd g.1 (by decide)) ⟨ok.1, rfl⟩ hL
    exact this
  | .dict ps, ar, deep, t, ok, h => by
    unfold okV at ok
    have hs := sk_val (.dict ps) t
    have e : wVal (.dict ps) = [60, 60] ++ joinSp (wParts ps) ++ [62, 62] := by unfold wVal; rfl
    have e2 : wVal (.dict ps) ++ t = 60 :: 60 :: (joinSp (wParts ps) ++ 62 :: 62 :: t) := by rw [e]; simp
    rw [e2] at hs ⊢
    have hD := PD.sk (sk_parts ps _).symm (rtP ps deep [] t ok.1 ok.2.2.2 (by simpa using ok.2.2.1))
    rw [List.nil_append, stream_dict h] at hD
    exact PV.dict hs (no35 (by decide) _) (noStop (by decide) (by decide)) (by decide) (by
      intro g
      rcases g with g | g | g | g
      · exact absurd g (by decide)
      · exact absurd g (by decide)
      · exact absurd g (by decide)
      · exact g.2 rfl) (fun y => absurd y.2 (by decide)) ⟨ok.1, rfl⟩ hD
  | .stream ps d, ar, deep, t, ok, h => by
    unfold okV at ok
    have hs := sk_val (.stream ps d) t
    have e : wVal (.stream ps d) = ([60, 60] ++ joinSp (wParts ps) ++ [62, 62]) ++ ([123] ++ decs (d.length : Int) ++ [125]) ++ d ++ [123, 125] := by unfold wVal; rfl
    have e2 : wVal (.stream ps d) ++ t = 60 :: 60 :: (joinSp (wParts ps) ++ 62 :: 62 :: (([123] ++ decs (d.length : Int) ++ [125]) ++ d ++ [123, 125] ++ t)) := by rw [e]; simp
    rw [e2] at hs ⊢
    have hD := PD.sk (sk_parts ps _).symm (rtP ps deep [] (([123] ++ decs (d.length : Int) ++ [125]) ++ d ++ [123, 125] ++ t) ok.1 ok.2.2.2.1 (by simpa using ok.2.2.1))
    rw [List.nil_append, stream_back ps ok.2.2.2.2.2] at hD
    exact PV.dict hs (no35 (by decide) _) (noStop (by decide) (by decide)) (by decide) (by
      intro g
      rcases g with g | g | g | g
      · exact absurd g (by decide)
      · exact absurd g (by decide)
      · exact absurd g (by decide)
      · exact g.2 rfl) (fun y => absurd y.2 (by decide)) ⟨ok.1, rfl⟩ hD
theorem rtL : ∀ (vs : List Val) (deep : Nat) (t : List Int), okL (deep + 1) vs → PL deep (joinT (wVals vs) ++ 93 :: t) vs (93 :: t)
  | [], deep, t, _ => by
    have e : joinT (wVals []) ++ 93 :: t = 93 :: t := by unfold wVals; rfl
    rw [e]
    exact PL.nil (PV.stop (sk_stay (by decide) (by decide) t) (.inl ⟨rfl, rfl⟩))
  | v :: r, deep, t, ok => by
    unfold okL at ok
    have e : joinT (wVals (v :: r)) ++ 93 :: t = 32 :: (wVal v ++ (joinT (wVals r) ++ 93 :: t)) := by
      rw [wVals_c]
      show ((32 :: wVal v) ++ joinT (wVals r)) ++ 93 :: t = _
      simp
    rw [e]
    exact PL.cons (PV.sk (sk_white (by decide) _).symm (rtV v 1 (deep + 1) _ ok.1 (Tl.list r t))) (rtL r deep t ok.2)
theorem rtP : ∀ (ps : List (List Int × Val)) (deep : Nat) (ps0 : List (List Int × Val)) (t : List Int), deep < 16 → okP (deep + 1) ps → ((ps0 ++ ps).map (·.1)).Nodup → PD deep ps0 (joinT (wParts ps) ++ 62 :: 62 :: t) (streamV (ps0 ++ ps) t).1 (streamV (ps0 ++ ps) t).2
  | [], deep, ps0, t, _, _, _ => by
    have e : joinT (wParts []) ++ 62 :: 62 :: t = 62 :: 62 :: t := by unfold wParts; rfl
    rw [e, List.append_nil]
    exact PD.end (r := 62 :: t) (sk_stay (by decide) (by decide) _) (no35 (by decide) _) rfl
  | (k, v) :: r, deep, ps0, t, hd, ok, hn => by
    unfold okP at ok
    have e : joinT (wParts ((k, v) :: r)) ++ 62 :: 62 :: t = 32 :: 47 :: (k.flatMap wNameB ++ 32 :: (wVal v ++ (joinT (wParts r) ++ 62 :: 62 :: t))) := by
      rw [wParts_c]
      show ((32 :: (wName k ++ [32] ++ wVal v)) ++ joinT (wParts r)) ++ 62 :: 62 :: t = _
      unfold wName
      simp
    rw [e]
    have hs : skipS false (32 :: 47 :: (k.flatMap wNameB ++ 32 :: (wVal v ++ (joinT (wParts r) ++ 62 :: 62 :: t)))) = 47 :: (k.flatMap wNameB ++ 32 :: (wVal v ++ (joinT (wParts r) ++ 62 :: 62 :: t))) := by
      rw [sk_white (by decide), sk_stay (by decide) (by decide)]
    have hst : Stp (32 :: (wVal v ++ (joinT (wParts r) ++ 62 :: 62 :: t))) := fun c q z => by
      injection z with z _
      rw [← z]
      decide
    have hr := name_reg ok.1.1
    have htk := takeR_app hr hst
    have hdr := dropR_app hr hst
    have hv := PV.sk (ar := 2) (deep := deep + 1) (sk_white (c := 32) (by decide) _).symm (rtV v 2 (deep + 1) _ ok.2.1 (Tl.dict r t))
    have hk : k ∉ ps0.map (·.1) := by
      rw [List.map_append, List.nodup_append] at hn
      exact fun z => hn.2.2 k z k (by simp) rfl
    have hl := rtP r deep (ps0 ++ [(k, v)]) t hd ok.2.2 (by rw [List.append_assoc]; exact hn)
    have ea : ps0 ++ (k, v) :: r = (ps0 ++ [(k, v)]) ++ r := by simp
    rw [ea]
    refine PD.name hs (no35 (by decide) _) (no6262 (by decide) _) rfl (by rw [hdr]; exact hv) ?_
    rw [htk, unesc_back ok.1.1]
    show PD deep (putA ps0 k v) _ _ _
    rw [putA_new v hk]
    exact hl
end
end K22

/-! What is written is read again: books. -/
namespace K22
def rootPart (R : Int) : List Int := if 0 < R then wROOT ++ [32, 64] ++ decs R ++ [10] else []
/-- what stands behind an object's line feed -/
theorem book_hd (obs : List (Int × Val)) (R : Int) : obs.flatMap wObj ++ rootPart R = [] ∨ ∃ c r, obs.flatMap wObj ++ rootPart R = c :: r ∧ (c = 35 ∨ c = 114) := by
  cases obs with
  | nil =>
    unfold rootPart
    by_cases h : 0 < R
    · rw [if_pos h]
      exact .inr ⟨114, _, rfl, .inr rfl⟩
    · rw [if_neg h]
      exact .inl rfl
  | cons o r => exact .inr ⟨35, _, rfl, .inl rfl⟩
theorem book_tl (obs : List (Int × Val)) (R : Int) : Tl (10 :: (obs.flatMap wObj ++ rootPart R)) ∧ skipS false (10 :: (obs.flatMap wObj ++ rootPart R)) = obs.flatMap wObj ++ rootPart R := by
  rcases book_hd obs R with e | ⟨c, r, e, hc⟩
  · rw [e]
    refine ⟨⟨⟨10, [], rfl, .inr (.inr (.inr rfl))⟩, fun c r h => ?_⟩, ?_⟩
    · rw [skW_white (by decide)] at h
      cases h
    · rw [sk_white (by decide)] <;> rfl
  · rw [e]
    have hw : isWhite c = false := by rcases hc with e | e <;> (subst e; decide)
    refine ⟨⟨⟨10, _, rfl, .inr (.inr (.inr rfl))⟩, fun c' r' h => ?_⟩, ?_⟩
    · rw [skW_white (by decide), skW_stay hw] at h
      injection h with h _
      omega
    · rw [sk_white (by decide), sk_stay hw (by omega)]
theorem rtO {R : Int} (hR : 0 ≤ R ∧ R ≤ 9999) : ∀ (obs obs0 : List (Int × Val)), (∀ o ∈ obs, 1 ≤ o.1 ∧ o.1 ≤ 9999 ∧ okV 0 o.2) → ((obs0 ++ obs).map (·.1)).Nodup → PO obs0 0 (obs.flatMap wObj ++ rootPart R) (obs0 ++ obs) R
  | [], obs0, _, _ => by
    rw [List.append_nil]
    show PO obs0 0 (rootPart R) obs0 R
    unfold rootPart
    by_cases h : 0 < R
    · rw [if_pos h]
      have e : wROOT ++ [32, 64] ++ decs R ++ [10] = 114 :: ([111, 111, 116] ++ (32 :: 64 :: (decs R ++ [10]))) := by
        unfold wROOT
        simp
      rw [e]
      have hst : Stp (32 :: 64 :: (decs R ++ [10])) := fun c q z => by
        injection z with z _
        rw [← z]
        decide
      have hr : ∀ b ∈ wROOT, isReg b = true := by decide
      have htk : takeR (114 :: ([111, 111, 116] ++ (32 :: 64 :: (decs R ++ [10])))) = wROOT := takeR_app (w := wROOT) hr hst
      have hdr : dropR (114 :: ([111, 111, 116] ++ (32 :: 64 :: (decs R ++ [10])))) = 32 :: 64 :: (decs R ++ [10]) := dropR_app (w := wROOT) hr hst
      have hsk : skipS false (32 :: 64 :: (decs R ++ [10])) = 64 :: (decs R ++ [10]) := by rw [sk_white (by decide), sk_stay (by decide) (by decide)]
      obtain ⟨m1, m2⟩ := mark_back (g := 64) (n := R) (t := [10]) (.inr rfl) (by omega) hR.2 (fun c r z => by
        injection z with z _
        rw [← z]
        decide)
      refine PO.rootw (no35 (by decide) _) (by decide) ⟨htk, by rw [hdr, hsk]; exact m2⟩ (by rw [hdr, hsk]; exact m1) ?_
      have : skipS false [10] = [] := by rw [sk_white (by decide)] <;> rfl
      rw [this]
      exact PO.nil
    · rw [if_neg h]
      have : R = 0 := by omega
      rw [this]
      exact PO.nil
  | (n, v) :: r, obs0, hok, hn => by
    obtain ⟨k1, k2, k3⟩ := hok (n, v) List.mem_cons_self
    have e : ((n, v) :: r).flatMap wObj ++ rootPart R = 35 :: (decs n ++ (10 :: (wVal v ++ (10 :: (r.flatMap wObj ++ rootPart R))))) := by
      rw [List.flatMap_cons]
      show ((35 :: decs n) ++ [10] ++ wVal v ++ [10] ++ r.flatMap wObj) ++ rootPart R = _
      simp
    rw [e]
    obtain ⟨m1, m2⟩ := mark_back (g := 35) (n := n) (t := 10 :: (wVal v ++ (10 :: (r.flatMap wObj ++ rootPart R)))) (.inl rfl) k1 k2 (fun c r z => by
      injection z with z _
      rw [← z]
      decide)
    obtain ⟨t1, t2⟩ := book_tl r R
    have hv := PV.sk (ar := 0) (deep := 0) (sk_white (c := 10) (by decide) _).symm (rtV v 0 0 _ k3 t1)
    have hk : n ∉ obs0.map (·.1) := by
      rw [List.map_append, List.nodup_append] at hn
      exact fun z => hn.2.2 n z n (by simp) rfl
    have ih := rtO hR r (obs0 ++ [(n, v)]) (fun o ho => hok o (List.mem_cons_of_mem _ ho)) (by rw [List.append_assoc]; exact hn)
    have ea : obs0 ++ (n, v) :: r = (obs0 ++ [(n, v)]) ++ r := by simp
    rw [ea]
    refine PO.mark m2 m1 hv ?_
    rw [t2]
    show PO (putA obs0 n v) 0 _ _ _
    rw [putA_new v hk]
    exact ih
theorem book_skip (obs : List (Int × Val)) (R : Int) : skipS false (wBook obs R) = obs.flatMap wObj ++ rootPart R := by
  have e : wBook obs R = 37 :: 70 :: 79 :: 76 :: 10 :: (obs.flatMap wObj ++ rootPart R) := by
    show ([37, 70, 79, 76, 10] ++ obs.flatMap wObj) ++ rootPart R = _
    simp
  rw [e]
  have h1 : ∀ X : List Int, skipS false (37 :: 70 :: 79 :: 76 :: 10 :: X) = skipS false X := by
    intro X
    conv => lhs; unfold skipS
    rw [if_neg (by decide), if_pos rfl]
    conv => lhs; unfold skipS
    rw [if_neg (by decide)]
    conv => lhs; unfold skipS
    rw [if_neg (by decide)]
    conv => lhs; unfold skipS
    rw [if_neg (by decide)]
    conv => lhs; unfold skipS
    rw [if_pos (by decide)]
  rw [h1]
  rcases book_hd obs R with e | ⟨c, r, e, hc⟩
  · rw [e] <;> rfl
  · rw [e]
    have hw : isWhite c = false := by rcases hc with e | e <;> (subst e; decide)
    exact sk_stay hw (by omega) r
/-! ### bytes of what is written -/
theorem By.app {a b : List Int} (h1 : By a) (h2 : By b) : By (a ++ b) := fun x hx => by
  rcases List.mem_append.mp hx with e | e
  · exact h1 x e
  · exact h2 x e
theorem by_decs (n : Int) : By (decs n) := fun b hb => by
  unfold decs at hb
  split at hb
  · rcases List.mem_cons.mp hb with e | e
    · omega
    · have := ndig_dig _ b e
      omega
  · have := ndig_dig _ b hb
    omega
theorem by_hexd {i : Int} (h : 0 ≤ i ∧ i < 16) : 0 ≤ hexd i ∧ hexd i ≤ 255 := by
  unfold hexd
  split <;> omega
theorem by_hex2 {b : Int} (h : 0 ≤ b ∧ b ≤ 255) : By (hex2 b) := fun x hx => by
  unfold hex2 at hx
  rcases List.mem_cons.mp hx with e | e
  · rw [e]; exact by_hexd (by omega)
  · rw [List.mem_singleton.mp e]; exact by_hexd (by omega)
theorem By.cons {c : Int} {a : List Int} (h : 0 ≤ c ∧ c ≤ 255) (h2 : By a) : By (c :: a) := fun x hx => by
  rcases List.mem_cons.mp hx with e | e
  · rw [e]; exact h
  · exact h2 x e
theorem By.nil : By [] := fun x hx => by cases hx
theorem by_nameB {b : Int} (h : 0 ≤ b ∧ b ≤ 255) : By (wNameB b) := by
  unfold wNameB
  split
  · exact By.cons (by omega) (by_hex2 h)
  · exact By.cons h By.nil
theorem by_textB {b : Int} (h : 0 ≤ b ∧ b ≤ 255) : By (wTextB b) := by
  unfold wTextB
  split
  · exact By.cons (by omega) (By.cons h By.nil)
  · split
    · exact By.cons (by omega) (by_hex2 h)
    · exact By.cons h By.nil
theorem by_flat {f : Int → List Int} (hf : ∀ b, 0 ≤ b ∧ b ≤ 255 → By (f b)) {d : List Int} (h : By d) : By (d.flatMap f) := fun x hx => by
  obtain ⟨b, hb, hx⟩ := List.mem_flatMap.mp hx
  exact hf b (h b hb) x hx
theorem by_name {d : List Int} (h : By d) : By (wName d) := By.cons (by omega) (by_flat (fun b => by_nameB) h)
theorem by_join : ∀ (ps : List (List Int)) (acc : List Int), By acc → (∀ p ∈ ps, By p) → By (ps.foldl (fun acc p => (if 0 < acc.length then acc ++ [32] else acc) ++ p) acc)
  | [], acc, h, _ => h
  | p :: ps, acc, h, hp => by
    refine by_join ps _ (By.app ?_ (hp p List.mem_cons_self)) fun q hq => hp q (List.mem_cons_of_mem _ hq)
    split
    · exact By.app h (By.cons (by omega) By.nil)
    · exact h
theorem by_joinSp {ps : List (List Int)} (hp : ∀ p ∈ ps, By p) : By (joinSp ps) := by_join ps [] By.nil hp
mutual
theorem by_val : ∀ (v : Val) (deep : Nat), okV deep v → By (wVal v)
  | .none, _, _ => by
    have e : wVal .none = wNONE := by unfold wVal; rfl
    rw [e]
    unfold By
    decide
  | .bool true, _, _ => by
    have e : wVal (.bool true) = wTRUE := by unfold wVal; rfl
    rw [e]
    unfold By
    decide
  | .bool false, _, _ => by
    have e : wVal (.bool false) = wFALSE := by unfold wVal; rfl
    rw [e]
    unfold By
    decide
  | .int n, _, _ => by
    have e : wVal (.int n) = decs n := by unfold wVal; rfl
    rw [e]
    exact by_decs n
  | .ref n, _, _ => by
    have e : wVal (.ref n) = 64 :: decs n := by unfold wVal; rfl
    rw [e]
    exact By.cons (by omega) (by_decs n)
  | .name d, _, ok => by
    unfold okV at ok
    have e : wVal (.name d) = wName d := by unfold wVal; rfl
    rw [e]
    exact by_name ok.1
  | .text d, _, ok => by
    unfold okV at ok
    have e : wVal (.text d) = (40 :: d.flatMap wTextB) ++ [41] := by unfold wVal; rfl
    rw [e]
    exact By.app (By.cons (by omega) (by_flat (fun b => by_textB) ok.1)) (By.cons (by omega) By.nil)
  | .list vs, deep, ok => by
    unfold okV at ok
    have e : wVal (.list vs) = [91] ++ joinSp (wVals vs) ++ [93] := by unfold wVal; rfl
    rw [e]
    exact By.app (By.app (By.cons (by omega) By.nil) (by_joinSp (by_vals vs (deep + 1) ok.2.2))) (By.cons (by omega) By.nil)
  | .dict ps, deep, ok => by
    unfold okV at ok
    have e : wVal (.dict ps) = [60, 60] ++ joinSp (wParts ps) ++ [62, 62] := by unfold wVal; rfl
    rw [e]
    exact By.app (By.app (By.cons (by omega) (By.cons (by omega) By.nil)) (by_joinSp (by_parts ps (deep + 1) ok.2.2.2))) (By.cons (by omega) (By.cons (by omega) By.nil))
  | .stream ps d, deep, ok => by
    unfold okV at ok
    have e : wVal (.stream ps d) = ([60, 60] ++ joinSp (wParts ps) ++ [62, 62]) ++ ([123] ++ decs (d.length : Int) ++ [125]) ++ d ++ [123, 125] := by unfold wVal; rfl
    rw [e]
    exact By.app (By.app (By.app (By.app (By.app (By.cons (by omega) (By.cons (by omega) By.nil)) (by_joinSp (by_parts ps (deep + 1) ok.2.2.2.1))) (By.cons (by omega) (By.cons (by omega) By.nil)))
      (By.app (By.app (By.cons (by omega) By.nil) (by_decs _)) (By.cons (by omega) By.nil))) ok.2.2.2.2.1) (By.cons (by omega) (By.cons (by omega) By.nil))
theorem by_vals : ∀ (vs : List Val) (deep : Nat), okL deep vs → ∀ p ∈ wVals vs, By p
  | [], _, _ => fun p hp => by
    unfold wVals at hp
    cases hp
  | v :: r, deep, ok => fun p hp => by
    unfold okL at ok
    rw [wVals_c] at hp
    rcases List.mem_cons.mp hp with e | e
    · rw [e]
      exact by_val v deep ok.1
    · exact by_vals r deep ok.2 p e
theorem by_parts : ∀ (ps : List (List Int × Val)) (deep : Nat), okP deep ps → ∀ p ∈ wParts ps, By p
  | [], _, _ => fun p hp => by
    unfold wParts at hp
    cases hp
  | (k, v) :: r, deep, ok => fun p hp => by
    unfold okP at ok
    rw [wParts_c] at hp
    rcases List.mem_cons.mp hp with e | e
    · rw [e]
      exact By.app (By.app (by_name ok.1.1) (By.cons (by omega) By.nil)) (by_val v deep ok.2.1)
    · exact by_parts r deep ok.2.2 p e
end
theorem by_book {obs : List (Int × Val)} (R : Int) (h : ∀ o ∈ obs, okV 0 o.2) : By (wBook obs R) := by
  have h1 : By (obs.flatMap wObj) := fun x hx => by
    obtain ⟨o, ho, hx⟩ := List.mem_flatMap.mp hx
    have e : wObj o = (35 :: decs o.1) ++ [10] ++ wVal o.2 ++ [10] := rfl
    rw [e] at hx
    exact By.app (By.app (By.app (By.cons (by omega) (by_decs _)) (By.cons (by omega) By.nil)) (by_val o.2 0 (h o ho))) (By.cons (by omega) By.nil) x hx
  have h2 : By (rootPart R) := by
    unfold rootPart
    split
    · exact By.app (By.app (By.app (by unfold By; decide) (By.cons (by omega) (By.cons (by omega) By.nil))) (by_decs R)) (By.cons (by omega) By.nil)
    · exact By.nil
  exact By.app (By.app (by unfold By; decide) h1) h2
/-! ### lengths -/
theorem costO_flat : ∀ obs : List (Int × Val), (obs.flatMap wObj).length = costO obs
  | [] => rfl
  | o :: r => by
    rw [List.flatMap_cons, List.length_append, costO_flat r] <;> rfl
theorem costO_perm {a b : List (Int × Val)} (p : a.Perm b) : costO a = costO b := by
  induction p with
  | nil => rfl
  | cons x _ ih => simp only [costO, ih]
  | swap x y l => simp only [costO]; omega
  | trans _ _ i1 i2 => rw [i1, i2]
theorem book_len {obs : List (Int × Val)} {R : Int} (hR : 0 ≤ R ∧ R ≤ 9999) : (wBook obs R).length ≤ costO obs + 16 := by
  have h : (rootPart R).length ≤ 11 := by
    unfold rootPart
    split
    · rename_i h
      have := decs_le5 (n := R) (by omega) hR.2
      simp only [List.length_append, List.length_cons, List.length_nil, wROOT]
      omega
    · exact Nat.zero_le _
  show (([37, 70, 79, 76, 10] ++ obs.flatMap wObj) ++ rootPart R).length ≤ _
  rw [List.length_append, List.length_append, costO_flat]
  simp only [List.length_cons, List.length_nil]
  omega
end K22

/-! The facts of the mirror that the law's walk leans on. -/
namespace K22
theorem firstP_in : ∀ obs : List (Int × Val), firstP obs = 0 ∨ firstP obs ∈ obs.map (·.1)
  | [] => .inl rfl
  | (n, v) :: r => by
    show (if isPages v = true then n else firstP r) = 0 ∨ (if isPages v = true then n else firstP r) ∈ _
    by_cases h : isPages v = true
    · rw [if_pos h]
      exact .inr List.mem_cons_self
    · rw [if_neg h]
      rcases firstP_in r with e | e
      · exact .inl e
      · exact .inr (List.mem_cons_of_mem _ e)
theorem look_of_mem {n : Int} {obs : List (Int × Val)} (h : n ∈ obs.map (·.1)) : lookI n obs ≠ none := by
  obtain ⟨v, e, _⟩ := lookI_some h
  rw [e]
  exact fun z => by cases z
theorem facts : Facts where
  few := fun data obs root ok h => by
    have m := PO.sound ok.byt (Nat.le_trans ok.len (by omega)) h
    have h1 := m.cnt
    have h2 := ok.cnt
    simp only [List.count_nil] at h1
    omega
  good := fun data obs root sobs ok h hne hp hinc => by
    have m := PO.sound ok.byt (Nat.le_trans ok.len (by omega)) h
    have hcnt : obs.length ≤ 40 := by
      have h1 := m.cnt
      have h2 := ok.cnt
      simp only [List.count_nil] at h1
      omega
    have hl : sobs.length = obs.length := hp.length_eq
    have hnum : ∀ o ∈ sobs, 1 ≤ o.1 ∧ o.1 ≤ 9999 ∧ okV 0 o.2 := fun o ho => m.num o (hp.mem_iff.mp ho)
    have hkeys : ∀ n, n ∈ sobs.map (·.1) ↔ n ∈ obs.map (·.1) := fun n => (hp.map (·.1)).mem_iff
    have hkn : ∀ n, n ∈ sobs.map (·.1) → 1 ≤ n ∧ n ≤ 9999 := fun n hn => by
      obtain ⟨o, ho, e⟩ := List.mem_map.mp hn
      have := hnum o ho
      rw [← e]
      exact ⟨this.1, this.2.1⟩
    have hrt : (0 < (if lookI root obs = none then firstP sobs else root) ∧ (if lookI root obs = none then firstP sobs else root) ≤ 9999 ∧ lookI (if lookI root obs = none then firstP sobs else root) sobs ≠ none) ∨ ((if lookI root obs = none then firstP sobs else root) = 0 ∧ firstP sobs = 0) := by
      by_cases hr : lookI root obs = none
      · rw [if_pos hr]
        rcases firstP_in sobs with e | e
        · exact .inr ⟨e, e⟩
        · have := hkn _ e
          exact .inl ⟨by omega, this.2, look_of_mem e⟩
      · rw [if_neg hr]
        have e := (hkeys root).mpr (lookI_mem hr)
        have := hkn _ e
        exact .inl ⟨by omega, this.2, look_of_mem e⟩
    generalize (if lookI root obs = none then firstP sobs else root) = R at hrt
    have hR : 0 ≤ R ∧ R ≤ 9999 := by
      rcases hrt with h | h
      · omega
      · omega
    have hnd : (sobs.map (·.1)).Nodup := (hp.map (·.1)).nodup_iff.mpr m.nd
    have okb : OkB sobs R := ⟨fun e => hne (by rw [e] at hp; exact List.nil_perm.mp hp), by omega, hinc, fun o ho => ⟨(hnum o ho).1, (hnum o ho).2.1⟩, fun o ho => (hnum o ho).2.2, hrt⟩
    refine ⟨okb, ?_, by_book R fun o ho => (hnum o ho).2.2, by omega, R, ?_, ?_⟩
    · have h1 := book_len (obs := sobs) hR
      have h2 := costO_perm hp
      have h3 := m.cost
      have h4 := ok.len
      simp only [List.length_nil] at h3
      omega
    · rw [book_skip]
      have := rtO hR sobs [] hnum (by rw [List.nil_append]; exact hnd)
      rw [List.nil_append] at this
      exact this
    · rcases hrt with h | h
      · exact if_neg h.2.2
      · by_cases hz : lookI R sobs = none
        · rw [if_pos hz, h.1, h.2]
        · exact if_neg hz
end K22

namespace K22
open PySem PySem.Spec PyProof.Rows L2
theorem law_binds {K : PySem.W.Frag} {f : Addr} {fd : FuncData} (F : Fun K "law" "law" s_law f fd) (s : Shared) (u : Value) : BindsTo s fd ⟨[u], []⟩ [("_law_script", u)] := by
  obtain ⟨oc, od, kV, doc, pm, an, cdv, ct, osl, rfl, lk, hcd⟩ := F.ex
  have h : bindArgs (PySem.W.fnOf "law" "law" (defArgs s_law) (defBody s_law) (defScope s_law) .none kV doc pm an cdv ct) ⟨[u], []⟩ = pure ((["_law_script"] : List Str).zip [u]) := rfl
  exact .of_eq h
end K22

set_option maxHeartbeats 0
namespace K22
open PySem PySem.Spec PyProof.Rows L2
abbrev R : PySem.W.OpenRow := PySem.W.OpenLaw.row PySem.Challenge.rw_stillroom_k22_whole_whatever_is_read_is
abbrev hk : PySem.W.Hook := He.hookX 5 fas fns [] [] exB
def ob (s : PySem.W.SharedT) : He.AlX := He.obsX 5 fas fns [] [] exB (HandSHeadRun.getT s)
theorem ob_eq (s : PySem.W.SharedT) : ob s = hk.obs s.abs := He.obsX_eq (HandSHeadRun.getT_eq s)
theorem runF (w : World) : HandSHeadRun.RunEq R (PySem.W.view R.prog [74]) hk ob 3000 loose (w.withFollow "special-get-raises" false) := by
  intro os
  kernel_rfl
theorem runT (w : World) : HandSHeadRun.RunEq R (PySem.W.view R.prog [74]) hk ob 3000 loose (w.withFollow "special-get-raises" true) := by
  intro os
  kernel_rfl
theorem run (w : World) : HandSHeadRun.RunEq R (PySem.W.view R.prog [74]) hk ob 3000 loose w := PySem.W.byRow2 "special-get-raises" runF runT w
end K22

set_option maxHeartbeats 0
open PySem PySem.W PySem.Calls PyProof.Rows
theorem K22.final (Fx : K22.Facts) : PySem.Challenge.rw_stillroom_k22_whole_whatever_is_read_is.Holds := by
  w_on; o_law
  refine HandSHeadRun.head_any (r := OpenLaw.row PySem.Challenge.rw_stillroom_k22_whole_whatever_is_read_is) (q := view (OpenLaw.row PySem.Challenge.rw_stillroom_k22_whole_whatever_is_read_is).prog [74]) (H := K22.hk) (ob := K22.ob) (M := 3000) (loose := K22.loose) (d := HandSHeadRun.topDef (OpenLaw.row PySem.Challenge.rw_stillroom_k22_whole_whatever_is_read_is).prog 74) (kwd := []) K22.ob_eq
    (by kernel_rfl) (fun s => by kernel_rfl) K22.run (by kernel_rfl) (by kernel_rfl) (by kernel_rfl) (by rfl) (by first | assumption | decide +kernel) (by decide +kernel) ⟨rfl, rfl, rfl, rfl, rfl, by decide +kernel⟩ ?hw ?hc
  case hw => w_witness2
  case hc =>
    refine L2.walk_ofE (l := PySem.Challenge.rw_stillroom_k22_whole_whatever_is_read_is) (n := 63) (k := 40) (x := "_law_script") (CX := L2.CX0) rfl (by decide) (by kernel_rfl) ⟨by decide, by decide, by decide⟩ ?F (fun _ _ _ _ z => z)
    intro w mg fa h Y G hmg0
    obtain ⟨K, KX, c⟩ := Y
    have hmg : mg ("law" : PySem.Str) = some (.ref fa) := by
      have e : (HandSHeadRun.topDef (OpenLaw.row PySem.Challenge.rw_stillroom_k22_whole_whatever_is_read_is).prog 74).name = ("law" : PySem.Str) := by kernel_rfl
      rw [← e]
      exact hmg0
    have T := K22.tx_of KX G c
    have e := hmg.symm.trans T.g_law
    cases e
    obtain ⟨fd0, F0⟩ := T.F_law
    exact ⟨K, fd0, K22.spLaw K, KX, fun s v => K22.law_binds F0 s v, fun H a ns hl _ hS => ⟨a, ns, rfl, hS, fun _ => rfl⟩, fun base _ _ => K22.ok_law Fx T F0⟩
theorem PySem.Challenge.cw_stillroom_k22_whole_whatever_is_read_is_holds : PySem.Challenge.rw_stillroom_k22_whole_whatever_is_read_is.Holds := by
  exact K22.final K22.facts
