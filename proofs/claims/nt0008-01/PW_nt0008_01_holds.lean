import PyProof.Rows.All
import Wide.All
import OpenK.AllK
import Wide.FinOn
import Lean
import PySem.Challenge.RW_nt0008_01
set_option Elab.async false
set_option linter.all false
section
-- Hm
set_option Elab.async false
set_option maxRecDepth 100000
set_option maxHeartbeats 8000000
namespace Mine
open PySem PySem.W PyProof.Rows
noncomputable abbrev pw : Program := PySem.Challenge.pw_nt0008_01
/-- the statements of the text, by number -/
noncomputable def stAt (i : Nat) : Stmt := (pw.main.body[i]?).getD (.Pass default)
noncomputable def clAt (i j : Nat) : Stmt := match stAt i with | .ClassDef _ _ _ b .. => (b[j]?).getD (.Pass default) | _ => .Pass default
noncomputable def stBody : Stmt → List Stmt | .FunctionDef _ _ b .. => b | _ => []
noncomputable def stScope : Stmt → Scope | .FunctionDef _ _ _ _ _ _ sc .. => sc | _ => default
noncomputable def stPar : Stmt → Arguments | .FunctionDef _ p .. => p | _ => default
noncomputable def mkF (st : Stmt) (n q : Str) (dfl m c : Value) : FuncData := { name := n, qualname := q, params := stPar st, body := .stmts (stBody st), scope := stScope st, globals := 3, closure := [], defaults := dfl, kwdefaults := .none, doc := .none, pyModule := m, annotations := none, code := c, closureTuple := .none, builtins := 0 }
/-- the part of the heap that the proof reads -/
noncomputable def myK (P : Params) : Frag := [
  (3, ⟨.type "dict", none, .dict #[⟨PyData.keyHash P "__name__", .str "__name__" 165, .str "law_nt0008_01" 485⟩, ⟨PyData.keyHash P "__doc__", .str "__doc__" 166, .none⟩, ⟨PyData.keyHash P "__package__", .str "__package__" 167, .none⟩, ⟨PyData.keyHash P "__loader__", .str "__loader__" 168, .builtin "__main__.__loader__#opaque"⟩, ⟨PyData.keyHash P "__spec__", .str "__spec__" 169, .none⟩, ⟨PyData.keyHash P "__annotations__", .str "__annotations__" 170, .ref 6⟩, ⟨PyData.keyHash P "__builtins__", .str "__builtins__" 171, .ref 4⟩, ⟨PyData.keyHash P "__file__", .str "__file__" 173, .str "/claim/cut.py" 172⟩, ⟨PyData.keyHash P "__cached__", .str "__cached__" 174, .none⟩, ⟨PyData.keyHash P "MAX_CODE", .str "MAX_CODE" 190, .int 1114111 189⟩, ⟨PyData.keyHash P "HIGH_FIRST", .str "HIGH_FIRST" 192, .int 55296 191⟩, ⟨PyData.keyHash P "HIGH_LAST", .str "HIGH_LAST" 194, .int 56319 193⟩, ⟨PyData.keyHash P "LOW_FIRST", .str "LOW_FIRST" 196, .int 56320 195⟩, ⟨PyData.keyHash P "LOW_LAST", .str "LOW_LAST" 198, .int 57343 197⟩, ⟨PyData.keyHash P "REPLACEMENT", .str "REPLACEMENT" 200, .int 65533 199⟩, ⟨PyData.keyHash P "ORDER_MARK", .str "ORDER_MARK" 202, .int 65279 201⟩, ⟨PyData.keyHash P "SUPPLEMENTARY", .str "SUPPLEMENTARY" 204, .int 65536 203⟩, ⟨PyData.keyHash P "UniError", .str "UniError" 233, .ref 32⟩, ⟨PyData.keyHash P "BadEncoding", .str "BadEncoding" 249, .ref 45⟩, ⟨PyData.keyHash P "BadCode", .str "BadCode" 265, .ref 57⟩, ⟨PyData.keyHash P "is_code", .str "is_code" 272, .ref 66⟩, ⟨PyData.keyHash P "is_high", .str "is_high" 279, .ref 73⟩, ⟨PyData.keyHash P "is_low", .str "is_low" 286, .ref 80⟩, ⟨PyData.keyHash P "is_surrogate", .str "is_surrogate" 293, .ref 87⟩, ⟨PyData.keyHash P "is_scalar", .str "is_scalar" 300, .ref 94⟩, ⟨PyData.keyHash P "check_scalars", .str "check_scalars" 308, .ref 101⟩, ⟨PyData.keyHash P "BIG", .str "BIG" 312, .str "be" 311⟩, ⟨PyData.keyHash P "HALF_BITS", .str "HALF_BITS" 314, .int 10 313⟩, ⟨PyData.keyHash P "HALF_MASK", .str "HALF_MASK" 316, .int 1023 315⟩, ⟨PyData.keyHash P "utf16_units", .str "utf16_units" 326, .ref 108⟩, ⟨PyData.keyHash P "utf16_joined", .str "utf16_joined" 334, .ref 115⟩, ⟨PyData.keyHash P "units_ahead", .str "units_ahead" 344, .ref 122⟩, ⟨PyData.keyHash P "place_of_unit", .str "place_of_unit" 356, .ref 129⟩, ⟨PyData.keyHash P "utf16_octets", .str "utf16_octets" 364, .ref 136⟩, ⟨PyData.keyHash P "utf16_unit", .str "utf16_unit" 373, .ref 143⟩, ⟨PyData.keyHash P "encode_utf16", .str "encode_utf16" 384, .ref 151⟩, ⟨PyData.keyHash P "utf16_step", .str "utf16_step" 395, .ref 158⟩, ⟨PyData.keyHash P "utf16_start", .str "utf16_start" 403, .ref 165⟩, ⟨PyData.keyHash P "decode_utf16", .str "decode_utf16" 416, .ref 173⟩, ⟨PyData.keyHash P "decode_utf16_replaced", .str "decode_utf16_replaced" 428, .ref 181⟩, ⟨PyData.keyHash P "encode_utf32", .str "encode_utf32" 440, .ref 189⟩, ⟨PyData.keyHash P "utf32_step", .str "utf32_step" 451, .ref 196⟩, ⟨PyData.keyHash P "utf32_start", .str "utf32_start" 459, .ref 203⟩, ⟨PyData.keyHash P "decode_utf32", .str "decode_utf32" 472, .ref 211⟩, ⟨PyData.keyHash P "decode_utf32_replaced", .str "decode_utf32_replaced" 484, .ref 219⟩, ⟨PyData.keyHash P "_law_halves", .str "_law_halves" 499, .ref 220⟩, ⟨PyData.keyHash P "_law_numbers", .str "_law_numbers" 512, .ref 221⟩, ⟨PyData.keyHash P "_law_put", .str "_law_put" 523, .ref 228⟩, ⟨PyData.keyHash P "_law_units", .str "_law_units" 536, .ref 235⟩, ⟨PyData.keyHash P "_law_read", .str "_law_read" 553, .ref 242⟩, ⟨PyData.keyHash P "_law_written", .str "_law_written" 564, .ref 249⟩, ⟨PyData.keyHash P "_law_told", .str "_law_told" 575, .ref 256⟩, ⟨PyData.keyHash P "_law_decoded_right", .str "_law_decoded_right" 592, .ref 263⟩, ⟨PyData.keyHash P "_law_refused", .str "_law_refused" 602, .ref 270⟩, ⟨PyData.keyHash P "_law_encoded_right", .str "_law_encoded_right" 616, .ref 277⟩, ⟨PyData.keyHash P "_law_places_right", .str "_law_places_right" 622, .ref 282⟩, ⟨PyData.keyHash P "law", .str "law" 628, .ref 287⟩] 57, #[]⟩),
  (22, ⟨.type "tuple", none, .seq #[.none] 0, #[]⟩),
  (28, ⟨.type "code", none, .fields #[.str "__init__" 217, .str "UniError.__init__" 218, .str "/claim/cut.py" 219, .int 12 0, .int 2 0, .int 0 0, .int 0 0, .int 3 0, .ref 23, .bool true, .int 181 0, .ref 24, .none, .ref 25, .ref 26, .ref 27, .int 222 0, .int 12 0, .str "/claim/cut.py" 223], #[]⟩),
  (29, ⟨.type "function", none, .func (mkF (clAt 9 0) "__init__" "UniError.__init__" (.ref 22) (.str "unicore.base" 187) (.ref 28)), #[]⟩),
  (31, ⟨.type "dict", none, .dict #[⟨PyData.keyHash P "__module__", .str "__module__" 212, .str "unicore.base" 187⟩, ⟨PyData.keyHash P "__firstlineno__", .str "__firstlineno__" 216, .int 10 215⟩, ⟨PyData.keyHash P "__init__", .str "__init__" 224, .ref 29⟩, ⟨PyData.keyHash P "__static_attributes__", .str "__static_attributes__" 226, .ref 30⟩, ⟨PyData.keyHash P "__weakref__", .str "__weakref__" 228, .ref 33⟩, ⟨PyData.keyHash P "__doc__", .str "__doc__" 229, .none⟩] 3, #[]⟩),
  (32, ⟨.type "type", none, .cls { name := "UniError", bases := [.type "Exception"], mro := [.ref 32, .type "Exception", .type "BaseException", .type "object"], ns := 31, qualname := "UniError", hasDict := true, slotNames := [], subclasses := [.ref 45, .ref 57], abstract := false, collection := none, hasDel := false }, #[some (.ref 15), none, some (.str "UniError" 205), some (.str "UniError" 213), some (.builtin "Exception.__new__"), some (.bool true)]⟩),
  (44, ⟨.type "dict", none, .dict #[⟨PyData.keyHash P "__module__", .str "__module__" 241, .str "unicore.base" 187⟩, ⟨PyData.keyHash P "__firstlineno__", .str "__firstlineno__" 245, .int 14 244⟩, ⟨PyData.keyHash P "__static_attributes__", .str "__static_attributes__" 246, .ref 43⟩, ⟨PyData.keyHash P "__doc__", .str "__doc__" 247, .none⟩] 2, #[]⟩),
  (45, ⟨.type "type", none, .cls { name := "BadEncoding", bases := [.ref 32], mro := [.ref 45, .ref 32, .type "Exception", .type "BaseException", .type "object"], ns := 44, qualname := "BadEncoding", hasDict := true, slotNames := [], subclasses := [], abstract := false, collection := none, hasDel := false }, #[some (.ref 36), none, some (.str "BadEncoding" 234), some (.str "BadEncoding" 242), some (.builtin "Exception.__new__"), some (.bool true)]⟩),
  (56, ⟨.type "dict", none, .dict #[⟨PyData.keyHash P "__module__", .str "__module__" 257, .str "unicore.base" 187⟩, ⟨PyData.keyHash P "__firstlineno__", .str "__firstlineno__" 261, .int 16 260⟩, ⟨PyData.keyHash P "__static_attributes__", .str "__static_attributes__" 262, .ref 55⟩, ⟨PyData.keyHash P "__doc__", .str "__doc__" 263, .none⟩] 2, #[]⟩),
  (57, ⟨.type "type", none, .cls { name := "BadCode", bases := [.ref 32], mro := [.ref 57, .ref 32, .type "Exception", .type "BaseException", .type "object"], ns := 56, qualname := "BadCode", hasDict := true, slotNames := [], subclasses := [], abstract := false, collection := none, hasDel := false }, #[some (.ref 48), none, some (.str "BadCode" 250), some (.str "BadCode" 258), some (.builtin "Exception.__new__"), some (.bool true)]⟩),
  (65, ⟨.type "code", none, .fields #[.str "is_code" 266, .str "is_code" 267, .str "/claim/cut.py" 268, .int 18 0, .int 1 0, .int 0 0, .int 0 0, .int 3 0, .ref 60, .bool true, .int 181 0, .ref 61, .none, .ref 62, .ref 63, .ref 64, .int 270 0, .int 18 0, .str "/claim/cut.py" 271], #[]⟩),
  (66, ⟨.type "function", none, .func (mkF (stAt 12) "is_code" "is_code" (.none) (.str "unicore.base" 187) (.ref 65)), #[]⟩),
  (72, ⟨.type "code", none, .fields #[.str "is_high" 273, .str "is_high" 274, .str "/claim/cut.py" 275, .int 20 0, .int 1 0, .int 0 0, .int 0 0, .int 3 0, .ref 67, .bool true, .int 181 0, .ref 68, .none, .ref 69, .ref 70, .ref 71, .int 277 0, .int 20 0, .str "/claim/cut.py" 278], #[]⟩),
  (73, ⟨.type "function", none, .func (mkF (stAt 13) "is_high" "is_high" (.none) (.str "unicore.base" 187) (.ref 72)), #[]⟩),
  (79, ⟨.type "code", none, .fields #[.str "is_low" 280, .str "is_low" 281, .str "/claim/cut.py" 282, .int 22 0, .int 1 0, .int 0 0, .int 0 0, .int 3 0, .ref 74, .bool true, .int 181 0, .ref 75, .none, .ref 76, .ref 77, .ref 78, .int 284 0, .int 22 0, .str "/claim/cut.py" 285], #[]⟩),
  (80, ⟨.type "function", none, .func (mkF (stAt 14) "is_low" "is_low" (.none) (.str "unicore.base" 187) (.ref 79)), #[]⟩),
  (86, ⟨.type "code", none, .fields #[.str "is_surrogate" 287, .str "is_surrogate" 288, .str "/claim/cut.py" 289, .int 24 0, .int 1 0, .int 0 0, .int 0 0, .int 3 0, .ref 81, .bool true, .int 181 0, .ref 82, .none, .ref 83, .ref 84, .ref 85, .int 291 0, .int 24 0, .str "/claim/cut.py" 292], #[]⟩),
  (87, ⟨.type "function", none, .func (mkF (stAt 15) "is_surrogate" "is_surrogate" (.none) (.str "unicore.base" 187) (.ref 86)), #[]⟩),
  (93, ⟨.type "code", none, .fields #[.str "is_scalar" 294, .str "is_scalar" 295, .str "/claim/cut.py" 296, .int 26 0, .int 1 0, .int 0 0, .int 0 0, .int 3 0, .ref 88, .bool true, .int 181 0, .ref 89, .none, .ref 90, .ref 91, .ref 92, .int 298 0, .int 26 0, .str "/claim/cut.py" 299], #[]⟩),
  (94, ⟨.type "function", none, .func (mkF (stAt 16) "is_scalar" "is_scalar" (.none) (.str "unicore.base" 187) (.ref 93)), #[]⟩),
  (100, ⟨.type "code", none, .fields #[.str "check_scalars" 301, .str "check_scalars" 302, .str "/claim/cut.py" 303, .int 28 0, .int 1 0, .int 0 0, .int 0 0, .int 3 0, .ref 95, .bool true, .int 181 0, .ref 96, .none, .ref 97, .ref 98, .ref 99, .int 306 0, .int 28 0, .str "/claim/cut.py" 307], #[]⟩),
  (101, ⟨.type "function", none, .func (mkF (stAt 17) "check_scalars" "check_scalars" (.none) (.str "unicore.base" 187) (.ref 100)), #[]⟩),
  (107, ⟨.type "code", none, .fields #[.str "utf16_units" 317, .str "utf16_units" 318, .str "/claim/cut.py" 319, .int 36 0, .int 1 0, .int 0 0, .int 0 0, .int 3 0, .ref 102, .bool true, .int 181 0, .ref 103, .none, .ref 104, .ref 105, .ref 106, .int 324 0, .int 36 0, .str "/claim/cut.py" 325], #[]⟩),
  (108, ⟨.type "function", none, .func (mkF (stAt 22) "utf16_units" "utf16_units" (.none) (.str "unicore.utf16" 309) (.ref 107)), #[]⟩),
  (114, ⟨.type "code", none, .fields #[.str "utf16_joined" 327, .str "utf16_joined" 328, .str "/claim/cut.py" 329, .int 47 0, .int 2 0, .int 0 0, .int 0 0, .int 3 0, .ref 109, .bool true, .int 181 0, .ref 110, .none, .ref 111, .ref 112, .ref 113, .int 332 0, .int 47 0, .str "/claim/cut.py" 333], #[]⟩),
  (115, ⟨.type "function", none, .func (mkF (stAt 23) "utf16_joined" "utf16_joined" (.none) (.str "unicore.utf16" 309) (.ref 114)), #[]⟩),
  (121, ⟨.type "code", none, .fields #[.str "units_ahead" 335, .str "units_ahead" 336, .str "/claim/cut.py" 337, .int 49 0, .int 2 0, .int 0 0, .int 0 0, .int 3 0, .ref 116, .bool true, .int 181 0, .ref 117, .none, .ref 118, .ref 119, .ref 120, .int 342 0, .int 49 0, .str "/claim/cut.py" 343], #[]⟩),
  (122, ⟨.type "function", none, .func (mkF (stAt 24) "units_ahead" "units_ahead" (.none) (.str "unicore.utf16" 309) (.ref 121)), #[]⟩),
  (128, ⟨.type "code", none, .fields #[.str "place_of_unit" 345, .str "place_of_unit" 346, .str "/claim/cut.py" 347, .int 54 0, .int 2 0, .int 0 0, .int 0 0, .int 3 0, .ref 123, .bool true, .int 181 0, .ref 124, .none, .ref 125, .ref 126, .ref 127, .int 354 0, .int 54 0, .str "/claim/cut.py" 355], #[]⟩),
  (129, ⟨.type "function", none, .func (mkF (stAt 25) "place_of_unit" "place_of_unit" (.none) (.str "unicore.utf16" 309) (.ref 128)), #[]⟩),
  (135, ⟨.type "code", none, .fields #[.str "utf16_octets" 357, .str "utf16_octets" 358, .str "/claim/cut.py" 359, .int 62 0, .int 2 0, .int 0 0, .int 0 0, .int 3 0, .ref 130, .bool true, .int 181 0, .ref 131, .none, .ref 132, .ref 133, .ref 134, .int 362 0, .int 62 0, .str "/claim/cut.py" 363], #[]⟩),
  (136, ⟨.type "function", none, .func (mkF (stAt 26) "utf16_octets" "utf16_octets" (.none) (.str "unicore.utf16" 309) (.ref 135)), #[]⟩),
  (142, ⟨.type "code", none, .fields #[.str "utf16_unit" 365, .str "utf16_unit" 366, .str "/claim/cut.py" 367, .int 64 0, .int 3 0, .int 0 0, .int 0 0, .int 3 0, .ref 137, .bool true, .int 181 0, .ref 138, .none, .ref 139, .ref 140, .ref 141, .int 371 0, .int 64 0, .str "/claim/cut.py" 372], #[]⟩),
  (143, ⟨.type "function", none, .func (mkF (stAt 27) "utf16_unit" "utf16_unit" (.none) (.str "unicore.utf16" 309) (.ref 142)), #[]⟩),
  (144, ⟨.type "tuple", none, .seq #[.str "be" 311, .bool false] 0, #[]⟩),
  (150, ⟨.type "code", none, .fields #[.str "encode_utf16" 374, .str "encode_utf16" 375, .str "/claim/cut.py" 376, .int 66 0, .int 3 0, .int 0 0, .int 0 0, .int 3 0, .ref 145, .bool true, .int 181 0, .ref 146, .none, .ref 147, .ref 148, .ref 149, .int 382 0, .int 66 0, .str "/claim/cut.py" 383], #[]⟩),
  (151, ⟨.type "function", none, .func (mkF (stAt 28) "encode_utf16" "encode_utf16" (.ref 144) (.str "unicore.utf16" 309) (.ref 150)), #[]⟩),
  (157, ⟨.type "code", none, .fields #[.str "utf16_step" 385, .str "utf16_step" 386, .str "/claim/cut.py" 387, .int 71 0, .int 3 0, .int 0 0, .int 0 0, .int 3 0, .ref 152, .bool true, .int 181 0, .ref 153, .none, .ref 154, .ref 155, .ref 156, .int 393 0, .int 71 0, .str "/claim/cut.py" 394], #[]⟩),
  (158, ⟨.type "function", none, .func (mkF (stAt 29) "utf16_step" "utf16_step" (.none) (.str "unicore.utf16" 309) (.ref 157)), #[]⟩),
  (164, ⟨.type "code", none, .fields #[.str "utf16_start" 396, .str "utf16_start" 397, .str "/claim/cut.py" 398, .int 84 0, .int 2 0, .int 0 0, .int 0 0, .int 3 0, .ref 159, .bool true, .int 181 0, .ref 160, .none, .ref 161, .ref 162, .ref 163, .int 401 0, .int 84 0, .str "/claim/cut.py" 402], #[]⟩),
  (165, ⟨.type "function", none, .func (mkF (stAt 30) "utf16_start" "utf16_start" (.none) (.str "unicore.utf16" 309) (.ref 164)), #[]⟩),
  (166, ⟨.type "tuple", none, .seq #[.none] 0, #[]⟩),
  (172, ⟨.type "code", none, .fields #[.str "decode_utf16" 404, .str "decode_utf16" 405, .str "/claim/cut.py" 406, .int 90 0, .int 2 0, .int 0 0, .int 0 0, .int 3 0, .ref 167, .bool true, .int 181 0, .ref 168, .none, .ref 169, .ref 170, .ref 171, .int 414 0, .int 90 0, .str "/claim/cut.py" 415], #[]⟩),
  (173, ⟨.type "function", none, .func (mkF (stAt 31) "decode_utf16" "decode_utf16" (.ref 166) (.str "unicore.utf16" 309) (.ref 172)), #[]⟩),
  (174, ⟨.type "tuple", none, .seq #[.none] 0, #[]⟩),
  (180, ⟨.type "code", none, .fields #[.str "decode_utf16_replaced" 417, .str "decode_utf16_replaced" 418, .str "/claim/cut.py" 419, .int 100 0, .int 2 0, .int 0 0, .int 0 0, .int 3 0, .ref 175, .bool true, .int 181 0, .ref 176, .none, .ref 177, .ref 178, .ref 179, .int 426 0, .int 100 0, .str "/claim/cut.py" 427], #[]⟩),
  (181, ⟨.type "function", none, .func (mkF (stAt 32) "decode_utf16_replaced" "decode_utf16_replaced" (.ref 174) (.str "unicore.utf16" 309) (.ref 180)), #[]⟩),
  (182, ⟨.type "tuple", none, .seq #[.str "be" 311, .bool false] 0, #[]⟩),
  (188, ⟨.type "code", none, .fields #[.str "encode_utf32" 429, .str "encode_utf32" 430, .str "/claim/cut.py" 431, .int 107 0, .int 3 0, .int 0 0, .int 0 0, .int 3 0, .ref 183, .bool true, .int 181 0, .ref 184, .none, .ref 185, .ref 186, .ref 187, .int 438 0, .int 107 0, .str "/claim/cut.py" 439], #[]⟩),
  (189, ⟨.type "function", none, .func (mkF (stAt 33) "encode_utf32" "encode_utf32" (.ref 182) (.str "unicore.utf16" 309) (.ref 188)), #[]⟩),
  (195, ⟨.type "code", none, .fields #[.str "utf32_step" 441, .str "utf32_step" 442, .str "/claim/cut.py" 443, .int 114 0, .int 3 0, .int 0 0, .int 0 0, .int 3 0, .ref 190, .bool true, .int 181 0, .ref 191, .none, .ref 192, .ref 193, .ref 194, .int 449 0, .int 114 0, .str "/claim/cut.py" 450], #[]⟩),
  (196, ⟨.type "function", none, .func (mkF (stAt 34) "utf32_step" "utf32_step" (.none) (.str "unicore.utf16" 309) (.ref 195)), #[]⟩),
  (202, ⟨.type "code", none, .fields #[.str "utf32_start" 452, .str "utf32_start" 453, .str "/claim/cut.py" 454, .int 124 0, .int 2 0, .int 0 0, .int 0 0, .int 3 0, .ref 197, .bool true, .int 181 0, .ref 198, .none, .ref 199, .ref 200, .ref 201, .int 457 0, .int 124 0, .str "/claim/cut.py" 458], #[]⟩),
  (203, ⟨.type "function", none, .func (mkF (stAt 35) "utf32_start" "utf32_start" (.none) (.str "unicore.utf16" 309) (.ref 202)), #[]⟩),
  (204, ⟨.type "tuple", none, .seq #[.none] 0, #[]⟩),
  (210, ⟨.type "code", none, .fields #[.str "decode_utf32" 460, .str "decode_utf32" 461, .str "/claim/cut.py" 462, .int 130 0, .int 2 0, .int 0 0, .int 0 0, .int 3 0, .ref 205, .bool true, .int 181 0, .ref 206, .none, .ref 207, .ref 208, .ref 209, .int 470 0, .int 130 0, .str "/claim/cut.py" 471], #[]⟩),
  (211, ⟨.type "function", none, .func (mkF (stAt 36) "decode_utf32" "decode_utf32" (.ref 204) (.str "unicore.utf16" 309) (.ref 210)), #[]⟩),
  (212, ⟨.type "tuple", none, .seq #[.none] 0, #[]⟩),
  (218, ⟨.type "code", none, .fields #[.str "decode_utf32_replaced" 473, .str "decode_utf32_replaced" 474, .str "/claim/cut.py" 475, .int 140 0, .int 2 0, .int 0 0, .int 0 0, .int 3 0, .ref 213, .bool true, .int 181 0, .ref 214, .none, .ref 215, .ref 216, .ref 217, .int 482 0, .int 140 0, .str "/claim/cut.py" 483], #[]⟩),
  (219, ⟨.type "function", none, .func (mkF (stAt 37) "decode_utf32_replaced" "decode_utf32_replaced" (.ref 212) (.str "unicore.utf16" 309) (.ref 218)), #[]⟩),
  (220, ⟨.type "tuple", none, .seq #[.int 65 487, .int 55296 488, .int 56320 489, .int 56319 490, .int 57343 491, .int 65279 492, .int 65534 493, .int 0 494, .int 57344 495, .int 65535 496, .int 55357 497, .int 56832 498] 0, #[]⟩),
  (221, ⟨.type "tuple", none, .seq #[.int 65 500, .int 55296 501, .int 57343 502, .int 1114111 503, .int 1114112 504, .int 65279 505, .int 4294836224 506, .int 0 507, .int 57344 508, .int 55295 509, .int 65536 510, .int 4294967295 511] 0, #[]⟩),
  (227, ⟨.type "code", none, .fields #[.str "_law_put" 513, .str "_law_put" 514, .str "/claim/cut.py" 515, .int 150 0, .int 3 0, .int 0 0, .int 0 0, .int 3 0, .ref 222, .bool true, .int 181 0, .ref 223, .none, .ref 224, .ref 225, .ref 226, .int 521 0, .int 150 0, .str "/claim/cut.py" 522], #[]⟩),
  (228, ⟨.type "function", none, .func (mkF (stAt 41) "_law_put" "_law_put" (.none) (.str "law_nt0008_01" 485) (.ref 227)), #[]⟩),
  (234, ⟨.type "code", none, .fields #[.str "_law_units" 524, .str "_law_units" 525, .str "/claim/cut.py" 526, .int 156 0, .int 3 0, .int 0 0, .int 0 0, .int 3 0, .ref 229, .bool true, .int 181 0, .ref 230, .none, .ref 231, .ref 232, .ref 233, .int 534 0, .int 156 0, .str "/claim/cut.py" 535], #[]⟩),
  (235, ⟨.type "function", none, .func (mkF (stAt 42) "_law_units" "_law_units" (.none) (.str "law_nt0008_01" 485) (.ref 234)), #[]⟩),
  (241, ⟨.type "code", none, .fields #[.str "_law_read" 537, .str "_law_read" 538, .str "/claim/cut.py" 539, .int 164 0, .int 3 0, .int 0 0, .int 0 0, .int 3 0, .ref 236, .bool true, .int 181 0, .ref 237, .none, .ref 238, .ref 239, .ref 240, .int 551 0, .int 164 0, .str "/claim/cut.py" 552], #[]⟩),
  (242, ⟨.type "function", none, .func (mkF (stAt 43) "_law_read" "_law_read" (.none) (.str "law_nt0008_01" 485) (.ref 241)), #[]⟩),
  (248, ⟨.type "code", none, .fields #[.str "_law_written" 554, .str "_law_written" 555, .str "/claim/cut.py" 556, .int 183 0, .int 3 0, .int 0 0, .int 0 0, .int 3 0, .ref 243, .bool true, .int 181 0, .ref 244, .none, .ref 245, .ref 246, .ref 247, .int 562 0, .int 183 0, .str "/claim/cut.py" 563], #[]⟩),
  (249, ⟨.type "function", none, .func (mkF (stAt 44) "_law_written" "_law_written" (.none) (.str "law_nt0008_01" 485) (.ref 248)), #[]⟩),
  (255, ⟨.type "code", none, .fields #[.str "_law_told" 565, .str "_law_told" 566, .str "/claim/cut.py" 567, .int 191 0, .int 3 0, .int 0 0, .int 0 0, .int 3 0, .ref 250, .bool true, .int 181 0, .ref 251, .none, .ref 252, .ref 253, .ref 254, .int 573 0, .int 191 0, .str "/claim/cut.py" 574], #[]⟩),
  (256, ⟨.type "function", none, .func (mkF (stAt 45) "_law_told" "_law_told" (.none) (.str "law_nt0008_01" 485) (.ref 255)), #[]⟩),
  (262, ⟨.type "code", none, .fields #[.str "_law_decoded_right" 576, .str "_law_decoded_right" 577, .str "/claim/cut.py" 578, .int 198 0, .int 3 0, .int 0 0, .int 0 0, .int 3 0, .ref 257, .bool true, .int 181 0, .ref 258, .none, .ref 259, .ref 260, .ref 261, .int 590 0, .int 198 0, .str "/claim/cut.py" 591], #[]⟩),
  (263, ⟨.type "function", none, .func (mkF (stAt 46) "_law_decoded_right" "_law_decoded_right" (.none) (.str "law_nt0008_01" 485) (.ref 262)), #[]⟩),
  (269, ⟨.type "code", none, .fields #[.str "_law_refused" 593, .str "_law_refused" 594, .str "/claim/cut.py" 595, .int 209 0, .int 2 0, .int 0 0, .int 0 0, .int 3 0, .ref 264, .bool true, .int 181 0, .ref 265, .none, .ref 266, .ref 267, .ref 268, .int 600 0, .int 209 0, .str "/claim/cut.py" 601], #[]⟩),
  (270, ⟨.type "function", none, .func (mkF (stAt 47) "_law_refused" "_law_refused" (.none) (.str "law_nt0008_01" 485) (.ref 269)), #[]⟩),
  (276, ⟨.type "code", none, .fields #[.str "_law_encoded_right" 603, .str "_law_encoded_right" 604, .str "/claim/cut.py" 605, .int 216 0, .int 4 0, .int 0 0, .int 0 0, .int 3 0, .ref 271, .bool true, .int 181 0, .ref 272, .none, .ref 273, .ref 274, .ref 275, .int 614 0, .int 216 0, .str "/claim/cut.py" 615], #[]⟩),
  (277, ⟨.type "function", none, .func (mkF (stAt 48) "_law_encoded_right" "_law_encoded_right" (.none) (.str "law_nt0008_01" 485) (.ref 276)), #[]⟩),
  (281, ⟨.type "code", none, .fields #[.str "_law_places_right" 617, .str "_law_places_right" 618, .str "/claim/cut.py" 619, .int 228 0, .int 1 0, .int 0 0, .int 0 0, .int 3 0, .ref 278, .bool true, .int 181 0, .ref 279, .none, .none, .none, .ref 280, .int 620 0, .int 228 0, .str "/claim/cut.py" 621], #[]⟩),
  (282, ⟨.type "function", none, .func (mkF (stAt 49) "_law_places_right" "_law_places_right" (.none) (.str "law_nt0008_01" 485) (.ref 281)), #[]⟩),
  (286, ⟨.type "code", none, .fields #[.str "law" 623, .str "law" 624, .str "/claim/cut.py" 625, .int 238 0, .int 1 0, .int 0 0, .int 0 0, .int 3 0, .ref 283, .bool true, .int 181 0, .ref 284, .none, .none, .none, .ref 285, .int 626 0, .int 238 0, .str "/claim/cut.py" 627], #[]⟩),
  (287, ⟨.type "function", none, .func (mkF (stAt 50) "law" "law" (.none) (.str "law_nt0008_01" 485) (.ref 286)), #[]⟩)
]
noncomputable abbrev kAs : List Addr := [3, 22, 28, 29, 31, 32, 44, 45, 56, 57, 65, 66, 72, 73, 79, 80, 86, 87, 93, 94, 100, 101, 107, 108, 114, 115, 121, 122, 128, 129, 135, 136, 142, 143, 144, 150, 151, 157, 158, 164, 165, 166, 172, 173, 174, 180, 181, 182, 188, 189, 195, 196, 202, 203, 204, 210, 211, 212, 218, 219, 220, 221, 227, 228, 234, 235, 241, 242, 248, 249, 255, 256, 262, 263, 269, 270, 276, 277, 281, 282, 286, 287]
noncomputable def kq : Program := { pw with main := { pw.main with body := [1, 2, 3, 4, 5, 6, 7, 8, 9, 10, 11, 12, 13, 14, 15, 16, 17, 19, 20, 21, 22, 23, 24, 25, 26, 27, 29, 30, 34, 35, 39, 40, 41, 42, 43, 44, 45, 46, 47, 48, 49, 50].map stAt } }
noncomputable abbrev kLoose : List Str := ["UniError", "encode_utf16", "decode_utf16", "decode_utf16_replaced", "encode_utf32", "decode_utf32", "decode_utf32_replaced"]
noncomputable abbrev kH : Hook := kHook myK kAs (fun _ => by kernel_rfl)
noncomputable def lawD : DefRec := ⟨"law", stPar (stAt 50), stBody (stAt 50), stScope (stAt 50), match stAt 50 with | .FunctionDef _ _ _ _ _ _ _ _ _ p => p | _ => default⟩
end Mine
end
section
-- Hp
set_option Elab.async false
set_option linter.unusedVariables false
set_option maxRecDepth 100000
set_option maxHeartbeats 8000000
namespace Mine
open PySem PySem.W PyProof.Rows
noncomputable def oT (vs : List Value) : Obj := ⟨.type "tuple", none, .seq ⟨vs⟩ 0, #[]⟩
noncomputable def oN (vs : List Value) : Obj := ⟨.none, none, .fields ⟨vs⟩, #[]⟩
noncomputable def oF (T : String) (vs : List Value) : Obj := ⟨.type T, none, .fields ⟨vs⟩, #[]⟩
noncomputable def oP (T : String) (sl : List (Option Value)) : Obj := ⟨.type T, none, .plain, ⟨sl⟩⟩
noncomputable def oD (es : List DictEntry) (n : Nat) : Obj := ⟨.type "dict", none, .dict ⟨es⟩ n, #[]⟩
noncomputable def oM (es : List DictEntry) (n : Nat) : Obj := ⟨.none, none, .dict ⟨es⟩ n, #[]⟩
noncomputable def oG (f : FuncData) : Obj := ⟨.none, none, .func f, #[]⟩
noncomputable def oH (f : FuncData) : Obj := ⟨.type "function", none, .func f, #[]⟩
noncomputable def dE (P : Params) (x : Str) (t : Tok) (v : Value) : DictEntry := ⟨PyData.keyHash P x, .str x t, v⟩
noncomputable def oC (n q : Str) (t : Nat) (ln ac : Int) (a b : Addr) (c d e : Value) (u : Nat) : Obj := ⟨.type "code", none, .fields #[.str n t, .str q (t + 1), .str "/claim/cut.py" (t + 2), .int ln 0, .int ac 0, .int 0 0, .int 0 0, .int 3 0, .ref a, .bool true, .int 181 0, .ref b, .none, c, d, e, .int (u - 1 : Nat) 0, .int ln 0, .str "/claim/cut.py" u], #[]⟩
noncomputable def mkG (st : Stmt) (n q : Str) : FuncData := { name := n, qualname := q, params := stPar st, body := .stmts (stBody st), scope := stScope st, globals := 0, closure := [], defaults := .none, kwdefaults := .none }
noncomputable def ob_a0 (P : Params) (t : List Obj) : List Obj :=
  oT [] :: t
noncomputable def ob_a1 (P : Params) (t : List Obj) : List Obj :=
  oF "code" [.str "<module>" 182, .str "<module>" 183, .str "/claim/cut.py" 184, .int 1 0, .int 0 0, .int 0 0, .int 0 0, .int 0 0, .ref 11, .bool false, .int 181 0, .ref 12, .none, .none, .none, .none, .int 185 0, .int 1 0, .str "/claim/cut.py" 186] ::
  oP "frame" [some (.ref 13), some (.ref 3), some (.ref 3), none, some (.str "__main__" 164), none, some (.ref 0)] :: t
noncomputable def ob_b0 (P : Params) (t : List Obj) : List Obj :=
  oT [.type "Exception"] ::
  oF "builtin_function_or_method" [.builtin "type.__prepare__", .type "type"] ::
  oD [dE P "__module__" 212 (.str "unicore.base" 187), dE P "__qualname__" 214 (.str "UniError" 213), dE P "__firstlineno__" 216 (.int 10 215), dE P "__init__" 224 (.ref 29), dE P "__static_attributes__" 226 (.ref 30)] 5 ::
  oT [] ::
  oN [.int 12 0, .int 4 0, .ref 28] ::
  oF "code" [.str "UniError" 207, .str "UniError" 208, .str "/claim/cut.py" 209, .int 10 0, .int 0 0, .int 0 0, .int 0 0, .int 0 0, .ref 18, .bool false, .int 181 0, .ref 19, .none, .none, .none, .none, .int 210 0, .int 10 0, .str "/claim/cut.py" 211] ::
  oP "frame" [some (.ref 20), some (.ref 3), some (.ref 17), none, some (.str "unicore.base" 187), none, some (.ref 0)] ::
  oT [.none] ::
  oT [] ::
  oN [] ::
  oT [.str "self" 220, .str "told" 221] ::
  oT [] ::
  oG (mkG (clAt 9 0) "__init__" "UniError.__init__") ::
  oC "__init__" "UniError.__init__" 217 12 2 23 24 (.ref 25) (.ref 26) (.ref 27) 223 ::
  oH (mkF (clAt 9 0) "__init__" "UniError.__init__" (.ref 22) (.str "unicore.base" 187) (.ref 28)) ::
  oT [.str "told" 225] ::
  oD [dE P "__module__" 212 (.str "unicore.base" 187), dE P "__firstlineno__" 216 (.int 10 215), dE P "__init__" 224 (.ref 29), dE P "__static_attributes__" 226 (.ref 30), dE P "__weakref__" 228 (.ref 33), dE P "__doc__" 229 (.none)] 3 :: t
noncomputable def ob_b1 (P : Params) (t : List Obj) : List Obj :=
  oF "getset_descriptor" [.str "__weakref__" 227, .ref 32, .builtin "ExceptionGroup.__weakref__", .none] ::
  oF "super" [.ref 32, .ref 32, .ref 32] ::
  oF "builtin_function_or_method" [.builtin "object.__init_subclass__", .ref 32] :: t
noncomputable def ob_c0 (P : Params) (t : List Obj) : List Obj :=
  oT [.ref 32] ::
  oF "builtin_function_or_method" [.builtin "type.__prepare__", .type "type"] ::
  oD [dE P "__module__" 241 (.str "unicore.base" 187), dE P "__qualname__" 243 (.str "BadEncoding" 242), dE P "__firstlineno__" 245 (.int 14 244), dE P "__static_attributes__" 246 (.ref 43)] 4 ::
  oT [] ::
  oN [] ::
  oF "code" [.str "BadEncoding" 236, .str "BadEncoding" 237, .str "/claim/cut.py" 238, .int 14 0, .int 0 0, .int 0 0, .int 0 0, .int 0 0, .ref 39, .bool false, .int 181 0, .ref 40, .none, .none, .none, .none, .int 239 0, .int 14 0, .str "/claim/cut.py" 240] ::
  oP "frame" [some (.ref 41), some (.ref 3), some (.ref 38), none, some (.str "unicore.base" 187), none, some (.ref 0)] ::
  oT [] ::
  oD [dE P "__module__" 241 (.str "unicore.base" 187), dE P "__firstlineno__" 245 (.int 14 244), dE P "__static_attributes__" 246 (.ref 43), dE P "__doc__" 247 (.none)] 2 ::
  ⟨.type "type", none, .cls { name := "BadEncoding", bases := [.ref 32], mro := [.ref 45, .ref 32, .type "Exception", .type "BaseException", .type "object"], ns := 44, qualname := "BadEncoding", hasDict := true, slotNames := [], subclasses := [], abstract := false, collection := none, hasDel := false }, ⟨[some (.ref 36), none, some (.str "BadEncoding" 234), some (.str "BadEncoding" 242), some (.builtin "Exception.__new__"), some (.bool true)]⟩⟩ ::
  oF "super" [.ref 45, .ref 45, .ref 45] ::
  oF "builtin_function_or_method" [.builtin "object.__init_subclass__", .ref 45] ::
  oT [.ref 32] ::
  oF "builtin_function_or_method" [.builtin "type.__prepare__", .type "type"] ::
  oD [dE P "__module__" 257 (.str "unicore.base" 187), dE P "__qualname__" 259 (.str "BadCode" 258), dE P "__firstlineno__" 261 (.int 16 260), dE P "__static_attributes__" 262 (.ref 55)] 4 ::
  oT [] ::
  oN [] ::
  oF "code" [.str "BadCode" 252, .str "BadCode" 253, .str "/claim/cut.py" 254, .int 16 0, .int 0 0, .int 0 0, .int 0 0, .int 0 0, .ref 51, .bool false, .int 181 0, .ref 52, .none, .none, .none, .none, .int 255 0, .int 16 0, .str "/claim/cut.py" 256] ::
  oP "frame" [some (.ref 53), some (.ref 3), some (.ref 50), none, some (.str "unicore.base" 187), none, some (.ref 0)] ::
  oT [] ::
  oD [dE P "__module__" 257 (.str "unicore.base" 187), dE P "__firstlineno__" 261 (.int 16 260), dE P "__static_attributes__" 262 (.ref 55), dE P "__doc__" 263 (.none)] 2 ::
  ⟨.type "type", none, .cls { name := "BadCode", bases := [.ref 32], mro := [.ref 57, .ref 32, .type "Exception", .type "BaseException", .type "object"], ns := 56, qualname := "BadCode", hasDict := true, slotNames := [], subclasses := [], abstract := false, collection := none, hasDel := false }, ⟨[some (.ref 48), none, some (.str "BadCode" 250), some (.str "BadCode" 258), some (.builtin "Exception.__new__"), some (.bool true)]⟩⟩ ::
  oF "super" [.ref 57, .ref 57, .ref 57] ::
  oF "builtin_function_or_method" [.builtin "object.__init_subclass__", .ref 57] :: t
noncomputable def ob_d0 (P : Params) (t : List Obj) : List Obj :=
  oT [] ::
  oN [] ::
  oT [.str "number" 269] ::
  oT [] ::
  oG (mkG (stAt 12) "is_code" "is_code") ::
  oC "is_code" "is_code" 266 18 1 60 61 (.ref 62) (.ref 63) (.ref 64) 271 ::
  oH (mkF (stAt 12) "is_code" "is_code" (.none) (.str "unicore.base" 187) (.ref 65)) ::
  oT [] ::
  oN [] ::
  oT [.str "code" 276] ::
  oT [] ::
  oG (mkG (stAt 13) "is_high" "is_high") ::
  oC "is_high" "is_high" 273 20 1 67 68 (.ref 69) (.ref 70) (.ref 71) 278 ::
  oH (mkF (stAt 13) "is_high" "is_high" (.none) (.str "unicore.base" 187) (.ref 72)) ::
  oT [] ::
  oN [] ::
  oT [.str "code" 283] ::
  oT [] ::
  oG (mkG (stAt 14) "is_low" "is_low") ::
  oC "is_low" "is_low" 280 22 1 74 75 (.ref 76) (.ref 77) (.ref 78) 285 ::
  oH (mkF (stAt 14) "is_low" "is_low" (.none) (.str "unicore.base" 187) (.ref 79)) ::
  oT [] ::
  oN [] ::
  oT [.str "code" 290] ::
  oT [] ::
  oG (mkG (stAt 15) "is_surrogate" "is_surrogate") ::
  oC "is_surrogate" "is_surrogate" 287 24 1 81 82 (.ref 83) (.ref 84) (.ref 85) 292 ::
  oH (mkF (stAt 15) "is_surrogate" "is_surrogate" (.none) (.str "unicore.base" 187) (.ref 86)) ::
  oT [] ::
  oN [] ::
  oT [.str "number" 297] ::
  oT [] ::
  oG (mkG (stAt 16) "is_scalar" "is_scalar") ::
  oC "is_scalar" "is_scalar" 294 26 1 88 89 (.ref 90) (.ref 91) (.ref 92) 299 ::
  oH (mkF (stAt 16) "is_scalar" "is_scalar" (.none) (.str "unicore.base" 187) (.ref 93)) ::
  oT [] ::
  oN [] ::
  oT [.str "text" 304, .str "code" 305] ::
  oT [] ::
  oG (mkG (stAt 17) "check_scalars" "check_scalars") ::
  oC "check_scalars" "check_scalars" 301 28 1 95 96 (.ref 97) (.ref 98) (.ref 99) 307 ::
  oH (mkF (stAt 17) "check_scalars" "check_scalars" (.none) (.str "unicore.base" 187) (.ref 100)) ::
  oT [] ::
  oN [] ::
  oT [.str "text" 320, .str "found" 321, .str "code" 322, .str "above" 323] ::
  oT [] ::
  oG (mkG (stAt 22) "utf16_units" "utf16_units") ::
  oC "utf16_units" "utf16_units" 317 36 1 102 103 (.ref 104) (.ref 105) (.ref 106) 325 ::
  oH (mkF (stAt 22) "utf16_units" "utf16_units" (.none) (.str "unicore.utf16" 309) (.ref 107)) ::
  oT [] ::
  oN [] ::
  oT [.str "high" 330, .str "low" 331] ::
  oT [] ::
  oG (mkG (stAt 23) "utf16_joined" "utf16_joined") ::
  oC "utf16_joined" "utf16_joined" 327 47 2 109 110 (.ref 111) (.ref 112) (.ref 113) 333 ::
  oH (mkF (stAt 23) "utf16_joined" "utf16_joined" (.none) (.str "unicore.utf16" 309) (.ref 114)) ::
  oT [] ::
  oN [] ::
  oT [.str "text" 338, .str "place" 339, .str "found" 340, .str "code" 341] ::
  oT [] ::
  oG (mkG (stAt 24) "units_ahead" "units_ahead") ::
  oC "units_ahead" "units_ahead" 335 49 2 116 117 (.ref 118) (.ref 119) (.ref 120) 343 ::
  oH (mkF (stAt 24) "units_ahead" "units_ahead" (.none) (.str "unicore.utf16" 309) (.ref 121)) ::
  oT [] ::
  oN [] ::
  oT [.str "text" 348, .str "number" 349, .str "left" 350, .str "place" 351, .str "code" 352, .str "many" 353] ::
  oT [] ::
  oG (mkG (stAt 25) "place_of_unit" "place_of_unit") ::
  oC "place_of_unit" "place_of_unit" 345 54 2 123 124 (.ref 125) (.ref 126) (.ref 127) 355 ::
  oH (mkF (stAt 25) "place_of_unit" "place_of_unit" (.none) (.str "unicore.utf16" 309) (.ref 128)) :: t
noncomputable def ob_e0 (P : Params) (t : List Obj) : List Obj :=
  oT [] ::
  oN [] ::
  oT [.str "unit" 360, .str "order" 361] ::
  oT [] ::
  oG (mkG (stAt 26) "utf16_octets" "utf16_octets") ::
  oC "utf16_octets" "utf16_octets" 357 62 2 130 131 (.ref 132) (.ref 133) (.ref 134) 363 ::
  oH (mkF (stAt 26) "utf16_octets" "utf16_octets" (.none) (.str "unicore.utf16" 309) (.ref 135)) ::
  oT [] ::
  oN [] ::
  oT [.str "octets" 368, .str "at" 369, .str "order" 370] ::
  oT [] ::
  oG (mkG (stAt 27) "utf16_unit" "utf16_unit") ::
  oC "utf16_unit" "utf16_unit" 365 64 3 137 138 (.ref 139) (.ref 140) (.ref 141) 372 ::
  oH (mkF (stAt 27) "utf16_unit" "utf16_unit" (.none) (.str "unicore.utf16" 309) (.ref 142)) ::
  oT [.str "be" 311, .bool false] ::
  oT [] ::
  oN [] ::
  oT [.str "text" 377, .str "order" 378, .str "with_mark" 379, .str "found" 380, .str "unit" 381] ::
  oT [] ::
  oG (mkG (stAt 28) "encode_utf16" "encode_utf16") ::
  oC "encode_utf16" "encode_utf16" 374 66 3 145 146 (.ref 147) (.ref 148) (.ref 149) 383 ::
  oH (mkF (stAt 28) "encode_utf16" "encode_utf16" (.ref 144) (.str "unicore.utf16" 309) (.ref 150)) ::
  oT [] ::
  oN [] ::
  oT [.str "octets" 388, .str "at" 389, .str "order" 390, .str "unit" 391, .str "behind" 392] ::
  oT [] ::
  oG (mkG (stAt 29) "utf16_step" "utf16_step") ::
  oC "utf16_step" "utf16_step" 385 71 3 152 153 (.ref 154) (.ref 155) (.ref 156) 394 ::
  oH (mkF (stAt 29) "utf16_step" "utf16_step" (.none) (.str "unicore.utf16" 309) (.ref 157)) ::
  oT [] ::
  oN [] ::
  oT [.str "octets" 399, .str "order" 400] ::
  oT [] ::
  oG (mkG (stAt 30) "utf16_start" "utf16_start") ::
  oC "utf16_start" "utf16_start" 396 84 2 159 160 (.ref 161) (.ref 162) (.ref 163) 402 ::
  oH (mkF (stAt 30) "utf16_start" "utf16_start" (.none) (.str "unicore.utf16" 309) (.ref 164)) ::
  oT [.none] ::
  oT [] ::
  oN [] ::
  oT [.str "octets" 407, .str "order" 408, .str "at" 409, .str "found" 410, .str "code" 411, .str "behind" 412, .str "what" 413] ::
  oT [] ::
  oG (mkG (stAt 31) "decode_utf16" "decode_utf16") ::
  oC "decode_utf16" "decode_utf16" 404 90 2 167 168 (.ref 169) (.ref 170) (.ref 171) 415 ::
  oH (mkF (stAt 31) "decode_utf16" "decode_utf16" (.ref 166) (.str "unicore.utf16" 309) (.ref 172)) ::
  oT [.none] ::
  oT [] ::
  oN [] ::
  oT [.str "octets" 420, .str "order" 421, .str "at" 422, .str "found" 423, .str "code" 424, .str "what" 425] ::
  oT [] ::
  oG (mkG (stAt 32) "decode_utf16_replaced" "decode_utf16_replaced") ::
  oC "decode_utf16_replaced" "decode_utf16_replaced" 417 100 2 175 176 (.ref 177) (.ref 178) (.ref 179) 427 ::
  oH (mkF (stAt 32) "decode_utf16_replaced" "decode_utf16_replaced" (.ref 174) (.str "unicore.utf16" 309) (.ref 180)) ::
  oT [.str "be" 311, .bool false] ::
  oT [] ::
  oN [] ::
  oT [.str "text" 432, .str "order" 433, .str "with_mark" 434, .str "found" 435, .str "code" 436, .str "row" 437] ::
  oT [] ::
  oG (mkG (stAt 33) "encode_utf32" "encode_utf32") ::
  oC "encode_utf32" "encode_utf32" 429 107 3 183 184 (.ref 185) (.ref 186) (.ref 187) 439 ::
  oH (mkF (stAt 33) "encode_utf32" "encode_utf32" (.ref 182) (.str "unicore.utf16" 309) (.ref 188)) ::
  oT [] ::
  oN [] ::
  oT [.str "octets" 444, .str "at" 445, .str "order" 446, .str "row" 447, .str "code" 448] ::
  oT [] ::
  oG (mkG (stAt 34) "utf32_step" "utf32_step") ::
  oC "utf32_step" "utf32_step" 441 114 3 190 191 (.ref 192) (.ref 193) (.ref 194) 450 ::
  oH (mkF (stAt 34) "utf32_step" "utf32_step" (.none) (.str "unicore.utf16" 309) (.ref 195)) ::
  oT [] ::
  oN [] ::
  oT [.str "octets" 455, .str "order" 456] ::
  oT [] ::
  oG (mkG (stAt 35) "utf32_start" "utf32_start") ::
  oC "utf32_start" "utf32_start" 452 124 2 197 198 (.ref 199) (.ref 200) (.ref 201) 458 ::
  oH (mkF (stAt 35) "utf32_start" "utf32_start" (.none) (.str "unicore.utf16" 309) (.ref 202)) ::
  oT [.none] ::
  oT [] ::
  oN [] ::
  oT [.str "octets" 463, .str "order" 464, .str "at" 465, .str "found" 466, .str "code" 467, .str "behind" 468, .str "what" 469] ::
  oT [] ::
  oG (mkG (stAt 36) "decode_utf32" "decode_utf32") ::
  oC "decode_utf32" "decode_utf32" 460 130 2 205 206 (.ref 207) (.ref 208) (.ref 209) 471 ::
  oH (mkF (stAt 36) "decode_utf32" "decode_utf32" (.ref 204) (.str "unicore.utf16" 309) (.ref 210)) ::
  oT [.none] ::
  oT [] ::
  oN [] ::
  oT [.str "octets" 476, .str "order" 477, .str "at" 478, .str "found" 479, .str "code" 480, .str "what" 481] ::
  oT [] ::
  oG (mkG (stAt 37) "decode_utf32_replaced" "decode_utf32_replaced") ::
  oC "decode_utf32_replaced" "decode_utf32_replaced" 473 140 2 213 214 (.ref 215) (.ref 216) (.ref 217) 483 ::
  oH (mkF (stAt 37) "decode_utf32_replaced" "decode_utf32_replaced" (.ref 212) (.str "unicore.utf16" 309) (.ref 218)) :: t
noncomputable def ob_f0 (P : Params) (t : List Obj) : List Obj :=
  oT [.int 65 487, .int 55296 488, .int 56320 489, .int 56319 490, .int 57343 491, .int 65279 492, .int 65534 493, .int 0 494, .int 57344 495, .int 65535 496, .int 55357 497, .int 56832 498] ::
  oT [.int 65 500, .int 55296 501, .int 57343 502, .int 1114111 503, .int 1114112 504, .int 65279 505, .int 4294836224 506, .int 0 507, .int 57344 508, .int 55295 509, .int 65536 510, .int 4294967295 511] ::
  oT [] ::
  oN [] ::
  oT [.str "number" 516, .str "size" 517, .str "order" 518, .str "found" 519, .str "k" 520] ::
  oT [] ::
  oG (mkG (stAt 41) "_law_put" "_law_put") ::
  oC "_law_put" "_law_put" 513 150 3 222 223 (.ref 224) (.ref 225) (.ref 226) 522 ::
  oH (mkF (stAt 41) "_law_put" "_law_put" (.none) (.str "law_nt0008_01" 485) (.ref 227)) ::
  oT [] ::
  oN [] ::
  oT [.str "octets" 527, .str "size" 528, .str "order" 529, .str "found" 530, .str "at" 531, .str "number" 532, .str "octet" 533] ::
  oT [] ::
  oG (mkG (stAt 42) "_law_units" "_law_units") ::
  oC "_law_units" "_law_units" 524 156 3 229 230 (.ref 231) (.ref 232) (.ref 233) 535 ::
  oH (mkF (stAt 42) "_law_units" "_law_units" (.none) (.str "law_nt0008_01" 485) (.ref 234)) ::
  oT [] ::
  oN [] ::
  oT [.str "octets" 540, .str "size" 541, .str "order" 542, .str "units" 543, .str "codes" 544, .str "ill" 545, .str "k" 546, .str "number" 547, .str "is_half" 548, .str "is_pair" 549, .str "word" 550] ::
  oT [] ::
  oG (mkG (stAt 43) "_law_read" "_law_read") ::
  oC "_law_read" "_law_read" 537 164 3 236 237 (.ref 238) (.ref 239) (.ref 240) 552 ::
  oH (mkF (stAt 43) "_law_read" "_law_read" (.none) (.str "law_nt0008_01" 485) (.ref 241)) ::
  oT [] ::
  oN [] ::
  oT [.str "text" 557, .str "size" 558, .str "order" 559, .str "found" 560, .str "code" 561] ::
  oT [] ::
  oG (mkG (stAt 44) "_law_written" "_law_written") ::
  oC "_law_written" "_law_written" 554 183 3 243 244 (.ref 245) (.ref 246) (.ref 247) 563 ::
  oH (mkF (stAt 44) "_law_written" "_law_written" (.none) (.str "law_nt0008_01" 485) (.ref 248)) ::
  oT [] ::
  oN [] ::
  oT [.str "octets" 568, .str "size" 569, .str "order" 570, .str "found" 571, .str "e" 572] ::
  oT [] ::
  oG (mkG (stAt 45) "_law_told" "_law_told") ::
  oC "_law_told" "_law_told" 565 191 3 250 251 (.ref 252) (.ref 253) (.ref 254) 574 ::
  oH (mkF (stAt 45) "_law_told" "_law_told" (.none) (.str "law_nt0008_01" 485) (.ref 255)) ::
  oT [] ::
  oN [] ::
  oT [.str "octets" 579, .str "size" 580, .str "order" 581, .str "rest" 582, .str "mine" 583, .str "ahead" 584, .str "word" 585, .str "codes" 586, .str "ill" 587, .str "told" 588, .str "due" 589] ::
  oT [] ::
  oG (mkG (stAt 46) "_law_decoded_right" "_law_decoded_right") ::
  oC "_law_decoded_right" "_law_decoded_right" 576 198 3 257 258 (.ref 259) (.ref 260) (.ref 261) 591 ::
  oH (mkF (stAt 46) "_law_decoded_right" "_law_decoded_right" (.none) (.str "law_nt0008_01" 485) (.ref 262)) ::
  oT [] ::
  oN [] ::
  oT [.str "text" 596, .str "size" 597, .str "found" 598, .str "e" 599] ::
  oT [] ::
  oG (mkG (stAt 47) "_law_refused" "_law_refused") ::
  oC "_law_refused" "_law_refused" 593 209 2 264 265 (.ref 266) (.ref 267) (.ref 268) 601 ::
  oH (mkF (stAt 47) "_law_refused" "_law_refused" (.none) (.str "law_nt0008_01" 485) (.ref 269)) ::
  oT [] ::
  oN [] ::
  oT [.str "text" 606, .str "size" 607, .str "order" 608, .str "at" 609, .str "octets" 610, .str "mark" 611, .str "told" 612, .str "odd" 613] ::
  oT [] ::
  oG (mkG (stAt 48) "_law_encoded_right" "_law_encoded_right") ::
  oC "_law_encoded_right" "_law_encoded_right" 603 216 4 271 272 (.ref 273) (.ref 274) (.ref 275) 615 ::
  oH (mkF (stAt 48) "_law_encoded_right" "_law_encoded_right" (.none) (.str "law_nt0008_01" 485) (.ref 276)) ::
  oT [] ::
  oN [] ::
  oG (mkG (stAt 49) "_law_places_right" "_law_places_right") ::
  oC "_law_places_right" "_law_places_right" 617 228 1 278 279 (.none) (.none) (.ref 280) 621 ::
  oH (mkF (stAt 49) "_law_places_right" "_law_places_right" (.none) (.str "law_nt0008_01" 485) (.ref 281)) ::
  oT [] ::
  oN [] ::
  oG (mkG (stAt 50) "law" "law") ::
  oC "law" "law" 623 238 1 283 284 (.none) (.none) (.ref 285) 627 ::
  oH (mkF (stAt 50) "law" "law" (.none) (.str "law_nt0008_01" 485) (.ref 286)) :: t
noncomputable def hp_a (P : Params) : Heap := ⟨⟨boot_o_0 P :: boot_o_1 P :: oM [] 0 :: oD [dE P "__name__" 165 (.str "__main__" 164), dE P "__doc__" 166 (.none), dE P "__package__" 167 (.none), dE P "__loader__" 168 (.builtin "__main__.__loader__#opaque"), dE P "__spec__" 169 (.none), dE P "__annotations__" 170 (.ref 6), dE P "__builtins__" 171 (.ref 4), dE P "__file__" 173 (.str "/claim/cut.py" 172), dE P "__cached__" 174 (.none)] 9 :: boot_o_4 P :: boot_o_5 P :: boot_o_6 P :: boot_o_7 P :: boot_o_8 P :: boot_o_9 P :: boot_o_10 P :: ob_a0 P (oN [] :: ob_a1 P ([]))⟩, (boot_heap P).life⟩
noncomputable def hp_b (P : Params) : Heap := ⟨⟨boot_o_0 P :: boot_o_1 P :: oM [dE P "type.__subclasses__.Exception.0" 230 (.int 32 0), dE P "type.__subclasses__.Exception.n" 231 (.int 1 0)] 2 :: oD [dE P "__name__" 165 (.str "unicore.base" 187), dE P "__doc__" 166 (.none), dE P "__package__" 167 (.none), dE P "__loader__" 168 (.builtin "__main__.__loader__#opaque"), dE P "__spec__" 169 (.none), dE P "__annotations__" 170 (.ref 6), dE P "__builtins__" 171 (.ref 4), dE P "__file__" 173 (.str "/claim/cut.py" 172), dE P "__cached__" 174 (.none), dE P "MAX_CODE" 190 (.int 1114111 189), dE P "HIGH_FIRST" 192 (.int 55296 191), dE P "HIGH_LAST" 194 (.int 56319 193), dE P "LOW_FIRST" 196 (.int 56320 195), dE P "LOW_LAST" 198 (.int 57343 197), dE P "REPLACEMENT" 200 (.int 65533 199), dE P "ORDER_MARK" 202 (.int 65279 201), dE P "SUPPLEMENTARY" 204 (.int 65536 203), dE P "UniError" 233 (.ref 32)] 18 :: boot_o_4 P :: boot_o_5 P :: boot_o_6 P :: boot_o_7 P :: boot_o_8 P :: boot_o_9 P :: boot_o_10 P :: ob_a0 P (oN [.int 10 0, .int 0 0, .ref 20] :: ob_a1 P (ob_b0 P (⟨.type "type", none, .cls { name := "UniError", bases := [.type "Exception"], mro := [.ref 32, .type "Exception", .type "BaseException", .type "object"], ns := 31, qualname := "UniError", hasDict := true, slotNames := [], subclasses := [], abstract := false, collection := none, hasDel := false }, ⟨[some (.ref 15), none, some (.str "UniError" 205), some (.str "UniError" 213), some (.builtin "Exception.__new__"), some (.bool true)]⟩⟩ :: ob_b1 P ([]))))⟩, (boot_heap P).life⟩
noncomputable def hp_c (P : Params) : Heap := ⟨⟨boot_o_0 P :: boot_o_1 P :: oM [dE P "type.__subclasses__.Exception.0" 230 (.int 32 0), dE P "type.__subclasses__.Exception.n" 231 (.int 1 0)] 2 :: oD [dE P "__name__" 165 (.str "unicore.base" 187), dE P "__doc__" 166 (.none), dE P "__package__" 167 (.none), dE P "__loader__" 168 (.builtin "__main__.__loader__#opaque"), dE P "__spec__" 169 (.none), dE P "__annotations__" 170 (.ref 6), dE P "__builtins__" 171 (.ref 4), dE P "__file__" 173 (.str "/claim/cut.py" 172), dE P "__cached__" 174 (.none), dE P "MAX_CODE" 190 (.int 1114111 189), dE P "HIGH_FIRST" 192 (.int 55296 191), dE P "HIGH_LAST" 194 (.int 56319 193), dE P "LOW_FIRST" 196 (.int 56320 195), dE P "LOW_LAST" 198 (.int 57343 197), dE P "REPLACEMENT" 200 (.int 65533 199), dE P "ORDER_MARK" 202 (.int 65279 201), dE P "SUPPLEMENTARY" 204 (.int 65536 203), dE P "UniError" 233 (.ref 32), dE P "BadEncoding" 249 (.ref 45), dE P "BadCode" 265 (.ref 57)] 20 :: boot_o_4 P :: boot_o_5 P :: boot_o_6 P :: boot_o_7 P :: boot_o_8 P :: boot_o_9 P :: boot_o_10 P :: ob_a0 P (oN [.int 10 0, .int 0 0, .ref 20, .int 14 0, .int 0 0, .ref 41, .int 16 0, .int 0 0, .ref 53] :: ob_a1 P (ob_b0 P (⟨.type "type", none, .cls { name := "UniError", bases := [.type "Exception"], mro := [.ref 32, .type "Exception", .type "BaseException", .type "object"], ns := 31, qualname := "UniError", hasDict := true, slotNames := [], subclasses := [.ref 45, .ref 57], abstract := false, collection := none, hasDel := false }, ⟨[some (.ref 15), none, some (.str "UniError" 205), some (.str "UniError" 213), some (.builtin "Exception.__new__"), some (.bool true)]⟩⟩ :: ob_b1 P (ob_c0 P ([])))))⟩, (boot_heap P).life⟩
noncomputable def hp_d (P : Params) : Heap := ⟨⟨boot_o_0 P :: boot_o_1 P :: oM [dE P "type.__subclasses__.Exception.0" 230 (.int 32 0), dE P "type.__subclasses__.Exception.n" 231 (.int 1 0)] 2 :: oD [dE P "__name__" 165 (.str "unicore.utf16" 309), dE P "__doc__" 166 (.none), dE P "__package__" 167 (.none), dE P "__loader__" 168 (.builtin "__main__.__loader__#opaque"), dE P "__spec__" 169 (.none), dE P "__annotations__" 170 (.ref 6), dE P "__builtins__" 171 (.ref 4), dE P "__file__" 173 (.str "/claim/cut.py" 172), dE P "__cached__" 174 (.none), dE P "MAX_CODE" 190 (.int 1114111 189), dE P "HIGH_FIRST" 192 (.int 55296 191), dE P "HIGH_LAST" 194 (.int 56319 193), dE P "LOW_FIRST" 196 (.int 56320 195), dE P "LOW_LAST" 198 (.int 57343 197), dE P "REPLACEMENT" 200 (.int 65533 199), dE P "ORDER_MARK" 202 (.int 65279 201), dE P "SUPPLEMENTARY" 204 (.int 65536 203), dE P "UniError" 233 (.ref 32), dE P "BadEncoding" 249 (.ref 45), dE P "BadCode" 265 (.ref 57), dE P "is_code" 272 (.ref 66), dE P "is_high" 279 (.ref 73), dE P "is_low" 286 (.ref 80), dE P "is_surrogate" 293 (.ref 87), dE P "is_scalar" 300 (.ref 94), dE P "check_scalars" 308 (.ref 101), dE P "BIG" 312 (.str "be" 311), dE P "HALF_BITS" 314 (.int 10 313), dE P "HALF_MASK" 316 (.int 1023 315), dE P "utf16_units" 326 (.ref 108), dE P "utf16_joined" 334 (.ref 115), dE P "units_ahead" 344 (.ref 122), dE P "place_of_unit" 356 (.ref 129)] 33 :: boot_o_4 P :: boot_o_5 P :: boot_o_6 P :: boot_o_7 P :: boot_o_8 P :: boot_o_9 P :: boot_o_10 P :: ob_a0 P (oN [.int 10 0, .int 0 0, .ref 20, .int 14 0, .int 0 0, .ref 41, .int 16 0, .int 0 0, .ref 53, .int 18 0, .int 0 0, .ref 65, .int 20 0, .int 0 0, .ref 72, .int 22 0, .int 0 0, .ref 79, .int 24 0, .int 0 0, .ref 86, .int 26 0, .int 0 0, .ref 93, .int 28 0, .int 0 0, .ref 100, .int 36 0, .int 0 0, .ref 107, .int 47 0, .int 0 0, .ref 114, .int 49 0, .int 0 0, .ref 121, .int 54 0, .int 0 0, .ref 128] :: ob_a1 P (ob_b0 P (⟨.type "type", none, .cls { name := "UniError", bases := [.type "Exception"], mro := [.ref 32, .type "Exception", .type "BaseException", .type "object"], ns := 31, qualname := "UniError", hasDict := true, slotNames := [], subclasses := [.ref 45, .ref 57], abstract := false, collection := none, hasDel := false }, ⟨[some (.ref 15), none, some (.str "UniError" 205), some (.str "UniError" 213), some (.builtin "Exception.__new__"), some (.bool true)]⟩⟩ :: ob_b1 P (ob_c0 P (ob_d0 P ([]))))))⟩, (boot_heap P).life⟩
noncomputable def hp_e (P : Params) : Heap := ⟨⟨boot_o_0 P :: boot_o_1 P :: oM [dE P "type.__subclasses__.Exception.0" 230 (.int 32 0), dE P "type.__subclasses__.Exception.n" 231 (.int 1 0)] 2 :: oD [dE P "__name__" 165 (.str "law_nt0008_01" 485), dE P "__doc__" 166 (.none), dE P "__package__" 167 (.none), dE P "__loader__" 168 (.builtin "__main__.__loader__#opaque"), dE P "__spec__" 169 (.none), dE P "__annotations__" 170 (.ref 6), dE P "__builtins__" 171 (.ref 4), dE P "__file__" 173 (.str "/claim/cut.py" 172), dE P "__cached__" 174 (.none), dE P "MAX_CODE" 190 (.int 1114111 189), dE P "HIGH_FIRST" 192 (.int 55296 191), dE P "HIGH_LAST" 194 (.int 56319 193), dE P "LOW_FIRST" 196 (.int 56320 195), dE P "LOW_LAST" 198 (.int 57343 197), dE P "REPLACEMENT" 200 (.int 65533 199), dE P "ORDER_MARK" 202 (.int 65279 201), dE P "SUPPLEMENTARY" 204 (.int 65536 203), dE P "UniError" 233 (.ref 32), dE P "BadEncoding" 249 (.ref 45), dE P "BadCode" 265 (.ref 57), dE P "is_code" 272 (.ref 66), dE P "is_high" 279 (.ref 73), dE P "is_low" 286 (.ref 80), dE P "is_surrogate" 293 (.ref 87), dE P "is_scalar" 300 (.ref 94), dE P "check_scalars" 308 (.ref 101), dE P "BIG" 312 (.str "be" 311), dE P "HALF_BITS" 314 (.int 10 313), dE P "HALF_MASK" 316 (.int 1023 315), dE P "utf16_units" 326 (.ref 108), dE P "utf16_joined" 334 (.ref 115), dE P "units_ahead" 344 (.ref 122), dE P "place_of_unit" 356 (.ref 129), dE P "utf16_octets" 364 (.ref 136), dE P "utf16_unit" 373 (.ref 143), dE P "encode_utf16" 384 (.ref 151), dE P "utf16_step" 395 (.ref 158), dE P "utf16_start" 403 (.ref 165), dE P "decode_utf16" 416 (.ref 173), dE P "decode_utf16_replaced" 428 (.ref 181), dE P "encode_utf32" 440 (.ref 189), dE P "utf32_step" 451 (.ref 196), dE P "utf32_start" 459 (.ref 203), dE P "decode_utf32" 472 (.ref 211), dE P "decode_utf32_replaced" 484 (.ref 219)] 45 :: boot_o_4 P :: boot_o_5 P :: boot_o_6 P :: boot_o_7 P :: boot_o_8 P :: boot_o_9 P :: boot_o_10 P :: ob_a0 P (oN [.int 10 0, .int 0 0, .ref 20, .int 14 0, .int 0 0, .ref 41, .int 16 0, .int 0 0, .ref 53, .int 18 0, .int 0 0, .ref 65, .int 20 0, .int 0 0, .ref 72, .int 22 0, .int 0 0, .ref 79, .int 24 0, .int 0 0, .ref 86, .int 26 0, .int 0 0, .ref 93, .int 28 0, .int 0 0, .ref 100, .int 36 0, .int 0 0, .ref 107, .int 47 0, .int 0 0, .ref 114, .int 49 0, .int 0 0, .ref 121, .int 54 0, .int 0 0, .ref 128, .int 62 0, .int 0 0, .ref 135, .int 64 0, .int 0 0, .ref 142, .int 66 0, .int 0 0, .ref 150, .int 71 0, .int 0 0, .ref 157, .int 84 0, .int 0 0, .ref 164, .int 90 0, .int 0 0, .ref 172, .int 100 0, .int 0 0, .ref 180, .int 107 0, .int 0 0, .ref 188, .int 114 0, .int 0 0, .ref 195, .int 124 0, .int 0 0, .ref 202, .int 130 0, .int 0 0, .ref 210, .int 140 0, .int 0 0, .ref 218] :: ob_a1 P (ob_b0 P (⟨.type "type", none, .cls { name := "UniError", bases := [.type "Exception"], mro := [.ref 32, .type "Exception", .type "BaseException", .type "object"], ns := 31, qualname := "UniError", hasDict := true, slotNames := [], subclasses := [.ref 45, .ref 57], abstract := false, collection := none, hasDel := false }, ⟨[some (.ref 15), none, some (.str "UniError" 205), some (.str "UniError" 213), some (.builtin "Exception.__new__"), some (.bool true)]⟩⟩ :: ob_b1 P (ob_c0 P (ob_d0 P (ob_e0 P ([])))))))⟩, (boot_heap P).life⟩
noncomputable def hp_f (P : Params) : Heap := ⟨⟨boot_o_0 P :: boot_o_1 P :: oM [dE P "type.__subclasses__.Exception.0" 230 (.int 32 0), dE P "type.__subclasses__.Exception.n" 231 (.int 1 0)] 2 :: oD [dE P "__name__" 165 (.str "law_nt0008_01" 485), dE P "__doc__" 166 (.none), dE P "__package__" 167 (.none), dE P "__loader__" 168 (.builtin "__main__.__loader__#opaque"), dE P "__spec__" 169 (.none), dE P "__annotations__" 170 (.ref 6), dE P "__builtins__" 171 (.ref 4), dE P "__file__" 173 (.str "/claim/cut.py" 172), dE P "__cached__" 174 (.none), dE P "MAX_CODE" 190 (.int 1114111 189), dE P "HIGH_FIRST" 192 (.int 55296 191), dE P "HIGH_LAST" 194 (.int 56319 193), dE P "LOW_FIRST" 196 (.int 56320 195), dE P "LOW_LAST" 198 (.int 57343 197), dE P "REPLACEMENT" 200 (.int 65533 199), dE P "ORDER_MARK" 202 (.int 65279 201), dE P "SUPPLEMENTARY" 204 (.int 65536 203), dE P "UniError" 233 (.ref 32), dE P "BadEncoding" 249 (.ref 45), dE P "BadCode" 265 (.ref 57), dE P "is_code" 272 (.ref 66), dE P "is_high" 279 (.ref 73), dE P "is_low" 286 (.ref 80), dE P "is_surrogate" 293 (.ref 87), dE P "is_scalar" 300 (.ref 94), dE P "check_scalars" 308 (.ref 101), dE P "BIG" 312 (.str "be" 311), dE P "HALF_BITS" 314 (.int 10 313), dE P "HALF_MASK" 316 (.int 1023 315), dE P "utf16_units" 326 (.ref 108), dE P "utf16_joined" 334 (.ref 115), dE P "units_ahead" 344 (.ref 122), dE P "place_of_unit" 356 (.ref 129), dE P "utf16_octets" 364 (.ref 136), dE P "utf16_unit" 373 (.ref 143), dE P "encode_utf16" 384 (.ref 151), dE P "utf16_step" 395 (.ref 158), dE P "utf16_start" 403 (.ref 165), dE P "decode_utf16" 416 (.ref 173), dE P "decode_utf16_replaced" 428 (.ref 181), dE P "encode_utf32" 440 (.ref 189), dE P "utf32_step" 451 (.ref 196), dE P "utf32_start" 459 (.ref 203), dE P "decode_utf32" 472 (.ref 211), dE P "decode_utf32_replaced" 484 (.ref 219), dE P "_law_halves" 499 (.ref 220), dE P "_law_numbers" 512 (.ref 221), dE P "_law_put" 523 (.ref 228), dE P "_law_units" 536 (.ref 235), dE P "_law_read" 553 (.ref 242), dE P "_law_written" 564 (.ref 249), dE P "_law_told" 575 (.ref 256), dE P "_law_decoded_right" 592 (.ref 263), dE P "_law_refused" 602 (.ref 270), dE P "_law_encoded_right" 616 (.ref 277), dE P "_law_places_right" 622 (.ref 282), dE P "law" 628 (.ref 287)] 57 :: boot_o_4 P :: boot_o_5 P :: boot_o_6 P :: boot_o_7 P :: boot_o_8 P :: boot_o_9 P :: boot_o_10 P :: ob_a0 P (oN [.int 10 0, .int 0 0, .ref 20, .int 14 0, .int 0 0, .ref 41, .int 16 0, .int 0 0, .ref 53, .int 18 0, .int 0 0, .ref 65, .int 20 0, .int 0 0, .ref 72, .int 22 0, .int 0 0, .ref 79, .int 24 0, .int 0 0, .ref 86, .int 26 0, .int 0 0, .ref 93, .int 28 0, .int 0 0, .ref 100, .int 36 0, .int 0 0, .ref 107, .int 47 0, .int 0 0, .ref 114, .int 49 0, .int 0 0, .ref 121, .int 54 0, .int 0 0, .ref 128, .int 62 0, .int 0 0, .ref 135, .int 64 0, .int 0 0, .ref 142, .int 66 0, .int 0 0, .ref 150, .int 71 0, .int 0 0, .ref 157, .int 84 0, .int 0 0, .ref 164, .int 90 0, .int 0 0, .ref 172, .int 100 0, .int 0 0, .ref 180, .int 107 0, .int 0 0, .ref 188, .int 114 0, .int 0 0, .ref 195, .int 124 0, .int 0 0, .ref 202, .int 130 0, .int 0 0, .ref 210, .int 140 0, .int 0 0, .ref 218, .int 150 0, .int 0 0, .ref 227, .int 156 0, .int 0 0, .ref 234, .int 164 0, .int 0 0, .ref 241, .int 183 0, .int 0 0, .ref 248, .int 191 0, .int 0 0, .ref 255, .int 198 0, .int 0 0, .ref 262, .int 209 0, .int 0 0, .ref 269, .int 216 0, .int 0 0, .ref 276, .int 228 0, .int 0 0, .ref 281, .int 238 0, .int 0 0, .ref 286] :: ob_a1 P (ob_b0 P (⟨.type "type", none, .cls { name := "UniError", bases := [.type "Exception"], mro := [.ref 32, .type "Exception", .type "BaseException", .type "object"], ns := 31, qualname := "UniError", hasDict := true, slotNames := [], subclasses := [.ref 45, .ref 57], abstract := false, collection := none, hasDel := false }, ⟨[some (.ref 15), none, some (.str "UniError" 205), some (.str "UniError" 213), some (.builtin "Exception.__new__"), some (.bool true)]⟩⟩ :: ob_b1 P (ob_c0 P (ob_d0 P (ob_e0 P (ob_f0 P ([]))))))))⟩, (boot_heap P).life⟩
noncomputable abbrev tP : Program := PySem.Challenge.rw_nt0008_01.row.prog
noncomputable def tB : List Stmt := behindTheImports tP
noncomputable def tE : Env := { scope := tP.main.scope, locals := mainNs, globals := mainNs, cells := [], code := .ref 13, frame := some 14 }
theorem cutAt {p : Program} {w : World} {n₀ : Nat} {ann : Option Value} {env : Env} {q : Pos} {n N k : Nat} {s s' r : Shared} {b : List Stmt} {c : Code} {pos p' : Pos} (h : segRun treeTable p w n₀ ann 1 n s (piecesOf (b.take k) env c pos [topFrame q]) = some (.next, s', c, p'))
    (z : topRun treeTable p w n₀ ann N s' (restOf (b.drop k) env c p' [topFrame q]) = some r) : topRun treeTable p w n₀ ann (n + N) s (restOf b env c pos [topFrame q]) = some r := by
  have := piece_app h z
  rw [List.take_append_drop] at this
  exact this
theorem pc_size : ∀ w : World, ((boot_heap w.params).isNs mainGlobals && (Array.mk ([] : List GenState)).size == 0, (boot_heap w.params).objs.size, (boot_heap w.params).nsMap mainGlobals "__annotations__") = (true, 11, some (.ref 6)) := by intro w; kernel_rfl
noncomputable def ps_a : Pos := { line := 0, col := 0, endLine := 0, endCol := 0 }
noncomputable def st_a (w : World) (os : OsState) : Shared := ⟨hp_a w.params, #[], boot_drawn, 187, os⟩
noncomputable def ps_b : Pos := { line := 10, col := 0, endLine := 13, endCol := 24 }
noncomputable def st_b (w : World) (os : OsState) : Shared := ⟨hp_b w.params, #[], boot_drawn, 234, os⟩
noncomputable def ps_c : Pos := { line := 16, col := 0, endLine := 17, endCol := 8 }
noncomputable def st_c (w : World) (os : OsState) : Shared := ⟨hp_c w.params, #[], boot_drawn, 266, os⟩
noncomputable def ps_d : Pos := { line := 54, col := 0, endLine := 61, endCol := 29 }
noncomputable def st_d (w : World) (os : OsState) : Shared := ⟨hp_d w.params, #[], boot_drawn, 357, os⟩
noncomputable def ps_e : Pos := { line := 147, col := 0, endLine := 147, endCol := 8 }
noncomputable def st_e (w : World) (os : OsState) : Shared := ⟨hp_e w.params, #[], boot_drawn, 487, os⟩
noncomputable def ps_f : Pos := { line := 238, col := 0, endLine := 248, endCol := 103 }
noncomputable def st_f (w : World) (os : OsState) : Shared := ⟨hp_f w.params, #[], boot_drawn, 629, os⟩
noncomputable def bl_0 : List Stmt := (tB).take 10
noncomputable def br_0 : List Stmt := (tB).drop 10
noncomputable def bl_1 : List Stmt := (br_0).take 2
noncomputable def br_1 : List Stmt := (br_0).drop 2
noncomputable def bl_2 : List Stmt := (br_1).take 14
noncomputable def br_2 : List Stmt := (br_1).drop 14
noncomputable def bl_3 : List Stmt := (br_2).take 13
noncomputable def br_3 : List Stmt := (br_2).drop 13
noncomputable def bl_4 : List Stmt := (br_3).take 12
noncomputable def br_4 : List Stmt := (br_3).drop 12
theorem pc_pre (w : World) (os : OsState) : topGo treeTable tP w 11 (some (.ref 6)) 12 ⟨boot_heap w.params, Array.mk [], boot_drawn, boot_toks, os⟩ (topStub tP) = some (st_a w os, ⟨denote treeTable (.body tB tE), .body tB tE, default, [topFrame default]⟩) := by kernel_rfl
theorem pc_blk (w : World) (os : OsState) : segRun treeTable tP w 11 (some (.ref 6)) 1 1 (st_a w os) (blockOf tB tE (.body tB tE) default [topFrame default]) = some (.next, st_a w os, .body tB tE, ps_a) := by kernel_rfl
theorem pc_0 (w : World) (os : OsState) : segRun treeTable tP w 11 (some (.ref 6)) 1 311 (st_a w os) (piecesOf bl_0 tE (.body tB tE) ps_a [topFrame default]) = some (.next, st_b w os, .body tB tE, ps_b) := by kernel_rfl
theorem pc_1 (w : World) (os : OsState) : segRun treeTable tP w 11 (some (.ref 6)) 1 427 (st_b w os) (piecesOf bl_1 tE (.body tB tE) ps_b [topFrame default]) = some (.next, st_c w os, .body tB tE, ps_c) := by kernel_rfl
theorem pc_2 (w : World) (os : OsState) : segRun treeTable tP w 11 (some (.ref 6)) 1 340 (st_c w os) (piecesOf bl_2 tE (.body tB tE) ps_c [topFrame default]) = some (.next, st_d w os, .body tB tE, ps_d) := by kernel_rfl
theorem pc_3 (w : World) (os : OsState) : segRun treeTable tP w 11 (some (.ref 6)) 1 412 (st_d w os) (piecesOf bl_3 tE (.body tB tE) ps_d [topFrame default]) = some (.next, st_e w os, .body tB tE, ps_e) := by kernel_rfl
theorem pc_4 (w : World) (os : OsState) : segRun treeTable tP w 11 (some (.ref 6)) 1 377 (st_e w os) (piecesOf bl_4 tE (.body tB tE) ps_e [topFrame default]) = some (.next, st_f w os, .body tB tE, ps_f) := by kernel_rfl
theorem pc_fin (w : World) (os : OsState) : topRun treeTable tP w 11 (some (.ref 6)) 2 (st_f w os) (restOf br_4 tE (.body tB tE) ps_f [topFrame default]) = some (st_f w os) := by kernel_rfl
theorem pc_looks (w : World) : (fun os => ((staticsOk (importedModules tP.main.body) (boot_heap w.params) (hp_f w.params) && namesBound tP (hp_f w.params) && gensDone (st_f w os) && laidKept (boot_heap w.params) (hp_f w.params)), openSeen kq kLoose (importedModules tP.main.body) (fun s => xlAt kq [] s && recOk (RowW.records (PySem.Challenge.rw_nt0008_01.row.toRowW)) s) true (st_f w os), Hook.obs kH (st_f w os))) = fun _ => (true, openGood kq kLoose, Hook.val kH w) := funext fun os => by kernel_rfl
theorem pc_run (w : World) (os : OsState) : topRun treeTable tP w 11 (some (.ref 6)) (12 + (1 + (311 + (427 + (340 + (412 + (377 + 2))))))) ⟨boot_heap w.params, Array.mk [], boot_drawn, boot_toks, os⟩ (topStub tP) = some (st_f w os) :=
  go_top (pc_pre w os) (piece_block (pc_blk w os) (cutAt (pc_0 w os) (cutAt (pc_1 w os) (cutAt (pc_2 w os) (cutAt (pc_3 w os) (cutAt (pc_4 w os) (pc_fin w os)))))))
theorem pc_left : LeftO tP kq kLoose (fun s => xlAt kq [] s && recOk (RowW.records (PySem.Challenge.rw_nt0008_01.row.toRowW)) s) (Hook.obs kH) (Hook.val kH) 3850 :=
  LeftO.of_pieces (boot_open (by rfl) (by decide) (fun _ => by rfl)) pc_size pc_run (by decide) pc_looks
theorem head (hc : WalkO kq kLoose (XL kq []) kH.says PySem.Challenge.rw_nt0008_01.row.toRowW lawD [] (fun f vs => call f vs)) : PySem.Challenge.rw_nt0008_01.Holds := by
  w_on
  o_law
  refine holds_open (q := kq) (loose := kLoose) (Xt := fun s => xlAt kq [] s && recOk (RowW.records (PySem.Challenge.rw_nt0008_01.row.toRowW)) s) (XP := XL kq []) (Yf := Hook.obs kH) (Ya := Hook.val kH) (YP := Hook.says kH) (N := 3850) ?hl (Hook.of kH) (Hook.keeps kH) (fun s e => xl_of s (Bool.and_eq_true_iff.mp e).1) XL.keeps (by rfl) (by rfl) (by rfl) (fun s e => recFacts_of (Bool.and_eq_true_iff.mp e).2) (by rfl) (by first | assumption | decide +kernel) (by decide +kernel) ⟨rfl, rfl, rfl, rfl, rfl, by decide +kernel⟩ ?hw ?hc
  case hw => w_witness2
  case hl => exact pc_left
  case hc => exact hc
end Mine
end
section
-- U1
set_option linter.unusedVariables false
namespace Mine
open PySem PySem.Calls PyProof.Rows PySem.W
noncomputable abbrev D := WData
noncomputable abbrev AP := Addr → Prop
/-- a list, a tuple, as they are made -/
noncomputable abbrev LsA (h : Heap) (a : Addr) (vs : List Value) : Prop := ∃ n, IsL h a vs.toArray n
noncomputable abbrev TpA (h : Heap) (a : Addr) (vs : List Value) : Prop := ∃ n, IsT h a vs.toArray n
inductive Den (h : Heap) (V : AP) : Value → D → Prop
  | none : Den h V .none .none
  | bool (b : Bool) : Den h V (.bool b) (.bool b)
  | int (i : Int) (t : Tok) : Den h V (.int i t) (.int i)
  | str (x : Str) (t : Tok) : Den h V (.str x t) (.str x)
  | bytes (l : List UInt8) (t : Tok) : Den h V (.bytes l.toArray t) (.bytes l)
  | tup {a : Addr} {vs : List Value} {ds : List D} : TpA h a vs → ¬ V a → Paired (Den h V) vs ds → Den h V (.ref a) (.tuple ds)
  | list {a : Addr} {vs : List Value} {ds : List D} : LsA h a vs → ¬ V a → Paired (Den h V) vs ds → Den h V (.ref a) (.list ds)
noncomputable abbrev DenL (h : Heap) (V : AP) := Paired (Den h V)
/-- everything outside X is kept, but for the slots of what F holds -/
noncomputable def Keep (X F : AP) (h h' : Heap) : Prop := ∀ a o, ¬ X a → h.get? a = some o → ∃ sl, h'.get? a = some { o with slots := sl } ∧ (¬ F a → sl = o.slots)
noncomputable abbrev noA : AP := fun _ => False
noncomputable abbrev Stays (h h' : Heap) : Prop := ∀ b o, h.get? b = some o → h'.get? b = some o
theorem Keep.of_stays {h h' : Heap} (k : Stays h h') (X F : AP) : Keep X F h h' := fun _ o _ e => ⟨o.slots, k _ _ e, fun _ => rfl⟩
theorem Keep.refl (X F : AP) (h : Heap) : Keep X F h h := .of_stays (fun _ _ e => e) X F
theorem Keep.mono {X X' F F' : AP} {h h' : Heap} (k : Keep X F h h') (hx : ∀ a, X a → X' a) (hf : ∀ a, F a → F' a) : Keep X' F' h h' :=
  fun a o n e => let ⟨sl, e', q⟩ := k a o (fun x => n (hx a x)) e; ⟨sl, e', fun nf => q fun x => nf (hf a x)⟩
/-- the second step may touch what is new -/
theorem Keep.trans {X X' F : AP} {h h' h'' : Heap} (k : Keep X F h h') (k' : Keep X' F h' h'') (hx : ∀ a, X' a → X a ∨ h.get? a = none) : Keep X F h h'' :=
  fun a o n e =>
    let ⟨_, e', q⟩ := k a o n e
    let ⟨sl', e'', q'⟩ := k' a _ (fun x => (hx a x).elim n fun y => nomatch y.symm.trans e) e'
    ⟨sl', e'', fun nf => (q' nf).trans (q nf)⟩
theorem Keep.trans0 {X F : AP} {h h' h'' : Heap} (k : Keep X F h h') (k' : Keep X F h' h'') : Keep X F h h'' := k.trans k' fun _ x => .inl x
theorem Keep.get {X F : AP} {h h' : Heap} (k : Keep X F h h') {a : Addr} {o : Obj} (n : ¬ X a) (nf : ¬ F a) (e : h.get? a = some o) : h'.get? a = some o := by
  obtain ⟨sl, e', q⟩ := k a o n e
  rw [q nf] at e'; exact e'
theorem Keep.some {X F : AP} {h h' : Heap} (k : Keep X F h h') {a : Addr} (n : ¬ X a) : (∃ o, h.get? a = some o) → ∃ o, h'.get? a = some o
  | ⟨o, e⟩ => let ⟨_, e', _⟩ := k a o n e; ⟨_, e'⟩
theorem Keep.ex {ι : Type} {X F : AP} {h h' : Heap} (k : Keep X F h h') {a : Addr} {o : ι → Obj} (n : ¬ X a) (nf : ¬ F a) : (∃ i, h.get? a = Option.some (o i)) → ∃ i, h'.get? a = Option.some (o i)
  | ⟨i, e⟩ => ⟨i, k.get n nf e⟩
theorem Keep.ns {X F : AP} {h h' : Heap} (k : Keep X F h h') {a : Addr} {m : Str → Option Value} (n : ¬ X a) : h.Ns a m → h'.Ns a m
  | ⟨o, es, ep, e, r⟩ => let ⟨_, e', _⟩ := k a o n e; ⟨_, es, ep, e', r⟩
/-- what is kept and no more shut out is still read -/
theorem Den.keep' {X F V V' : AP} {h h' : Heap} (k : Keep X F h h') (hx : ∀ a, X a → V a) (hf : ∀ a, F a → V a) (hv : ∀ a, V' a → V a ∨ h.get? a = Option.none) {v : Value} {d : D} (x : Den h V v d) : Den h' V' v d :=
  Den.rec (motive_1 := fun v d _ => Den h' V' v d) (motive_2 := fun vs ds _ => DenL h' V' vs ds) .none .bool .int .str .bytes
    (fun l n _ r => .tup (k.ex (fun x => n (hx _ x)) (fun x => n (hf _ x)) l) (fun x => (hv _ x).elim n fun y => let ⟨_, e⟩ := l; nomatch y.symm.trans e) r)
    (fun l n _ r => .list (k.ex (fun x => n (hx _ x)) (fun x => n (hf _ x)) l) (fun x => (hv _ x).elim n fun y => let ⟨_, e⟩ := l; nomatch y.symm.trans e) r)
    .nil (fun _ _ a r => .cons a r) x
theorem Paired.imp {α β : Type} {F F' : α → β → Prop} (i : ∀ a b, F a b → F' a b) {l₁ : List α} {l₂ : List β} (x : Paired F l₁ l₂) : Paired F' l₁ l₂ :=
  Paired.rec (motive := fun l₁ l₂ _ => Paired F' l₁ l₂) .nil (fun a _ r => .cons (i _ _ a) r) x
theorem Den.keep {X F V : AP} {h h' : Heap} (k : Keep X F h h') (hx : ∀ a, X a → V a) (hf : ∀ a, F a → V a) {v : Value} {d : D} (x : Den h V v d) : Den h' V v d := x.keep' k hx hf fun _ y => .inl y
theorem Den.stays {V : AP} {h h' : Heap} (k : Stays h h') {v : Value} {d : D} (x : Den h V v d) : Den h' V v d := x.keep (Keep.of_stays k noA noA) (fun _ f => f.elim) fun _ f => f.elim
theorem Den.less {V V' : AP} {h : Heap} (hv : ∀ a, V' a → V a) {v : Value} {d : D} (x : Den h V v d) : Den h V' v d := x.keep' (Keep.refl noA noA h) (fun _ f => f.elim) (fun _ f => f.elim) fun a y => .inl (hv a y)
section
variable {α β : Type} {F : α → β → Prop}
theorem Paired.app {xs xs' : List α} {ys ys' : List β} (x : Paired F xs ys) (y : Paired F xs' ys') : Paired F (xs ++ xs') (ys ++ ys') :=
  Paired.rec (motive := fun xs ys _ => Paired F (xs ++ xs') (ys ++ ys')) y (fun a _ r => .cons a r) x
theorem Paired.rev {xs : List α} {ys : List β} (x : Paired F xs ys) : Paired F xs.reverse ys.reverse :=
  Paired.rec (motive := fun xs ys _ => Paired F xs.reverse ys.reverse) .nil (fun a _ r => by rw [List.reverse_cons, List.reverse_cons]; exact Paired.app r (.cons a .nil)) x
theorem Paired.tk (n : Nat) {xs : List α} {ys : List β} (x : Paired F xs ys) : Paired F (xs.take n) (ys.take n) :=
  Paired.rec (motive := fun xs ys _ => ∀ n, Paired F (xs.take n) (ys.take n)) (fun n => by rw [List.take_nil, List.take_nil]; exact .nil)
    (fun a _ r n => by cases n with | zero => exact .nil | succ n => exact .cons a (r n)) x n
theorem Paired.dr (n : Nat) {xs : List α} {ys : List β} (x : Paired F xs ys) : Paired F (xs.drop n) (ys.drop n) :=
  Paired.rec (motive := fun xs ys _ => ∀ n, Paired F (xs.drop n) (ys.drop n)) (fun n => by rw [List.drop_nil, List.drop_nil]; exact .nil)
    (fun a p r n => by cases n with | zero => exact .cons a p | succ n => exact r n) x n
theorem Paired.at {z : β} {xs : List α} {ys : List β} (x : Paired F xs ys) (i : Nat) (hi : i < ys.length) : ∃ v, xs[i]? = some v ∧ F v (ys.getD i z) :=
  Paired.rec (motive := fun xs ys _ => ∀ i, i < ys.length → ∃ v, xs[i]? = some v ∧ F v (ys.getD i z)) (fun i h => absurd h (Nat.not_lt_zero i))
    (fun a _ r i h => by cases i with | zero => exact ⟨_, rfl, a⟩ | succ i => exact r i (Nat.lt_of_succ_lt_succ h)) x i hi
end
/-! the small syntax: z no child, i v s payloads, n a node of three children
 expressions: 2 bytes | 3 None | 4 True | 5 False | 7 glob | 8 bin op a b | 9 neg | 10 not | 11 cmp op a b | 12 cmp2 (op op) a (b c) | 13 and | 14 or | 15 ife | 16 call f as | 17 callk f as (k kv)
  18 bi f as | 19 join | 20 tup | 21 lst | 22 idx | 23 slcT a hi | 24 slcF a lo | 25 slcB a lo hi | 26 slcR | 27 comp (x fv) elt it
 sources: 30 seq | 31 range1 | 32 range3 | 33 enum
 40 cons | 41 a pair
 statements: 49 asgC x comp | 50 asg x e | 51 asgL x es | 52 asgN x e | 53 asgT xs e | 54 asgTT xs es | 55 aug op x e | 56 app x e | 57 ext x e | 58 rvs x | 59 exp e | 60 ite t a b | 61 whl t b | 62 for xs it b | 63 ret e | 64 rais c e | 65 tryT b c (x wrap en) -/
inductive T where
  | z | i (n : Int) | v (x : Nat) | s (x : Str) | n (k : Nat) (a b c : T)
inductive L where | v (d : D) | o (l : List D)
noncomputable abbrev G := List (Nat × L)
noncomputable def G.get : G → Nat → Option L
  | [], _ => none
  | (j, l) :: r, i => match Nat.beq i j with | true => some l | false => G.get r i
noncomputable def G.set : G → Nat → L → G
  | [], i, l => [(i, l)]
  | (j, k) :: r, i, l => match Nat.beq i j with | true => (i, l) :: r | false => (j, k) :: G.set r i l
noncomputable def G.sets : G → List Nat → List D → G
  | g, x :: xs, d :: ds => G.sets (G.set g x (.v d)) xs ds
  | g, _, _ => g
/-- what g says, g' says too -/
noncomputable def Sub : G → G → Prop
  | [], _ => True
  | (i, l) :: r, g => g.get i = some l ∧ Sub r g
/-- no list is held alone any more -/
noncomputable def G.frz (g : G) : G := g.map fun p => (p.1, match p.2 with | .v d => .v d | .o l => .v (.list l))
noncomputable def G.pick (g : G) : List Nat → Option G
  | [] => some []
  | i :: r => match g.get i with
    | some (.v d) => (match g.pick r with | some h => some ((i, .v d) :: h) | none => none)
    | _ => none
/-- what an expression gives: data of its own, or the list that the local i alone holds -/
inductive R where | cl (d : D) | ow (i : Nat) (l : List D)
noncomputable def R.d : R → D | .cl d => d | .ow _ l => .list l
structure Exc where
  cls : Str
  told : D
inductive Fl where | nx | rt (d : D)
theorem G.get_set_self (i : Nat) (l : L) (g : G) : (G.set g i l).get i = some l := by
  induction g with
  | nil => simp [G.set, G.get]
  | cons p r ih =>
    obtain ⟨j, k⟩ := p
    unfold G.set
    cases h : Nat.beq i j with
    | true => simp [G.get]
    | false => simp only [G.get, h]; exact ih
theorem G.get_set_ne {i j : Nat} (l : L) (hij : Nat.beq i j = false) (g : G) : (G.set g j l).get i = g.get i := by
  induction g with
  | nil => simp [G.set, G.get, hij]
  | cons p r ih =>
    obtain ⟨k, m⟩ := p
    unfold G.set
    cases h : Nat.beq j k with
    | true =>
      have e := Nat.eq_of_beq_eq_true h
      subst e
      simp only [G.get, hij]
    | false =>
      simp only [G.get]
      rw [ih]
theorem Sub.get {i : Nat} {l : L} {g : G} : ∀ {g₀ : G}, Sub g₀ g → g₀.get i = some l → g.get i = some l := by
  intro g₀
  induction g₀ with
  | nil => intro _ e; cases e
  | cons p r ih =>
    obtain ⟨j, k⟩ := p
    intro h e
    unfold G.get at e
    cases hb : Nat.beq i j with
    | true => rw [hb] at e; cases e; rw [Nat.eq_of_beq_eq_true hb]; exact h.1
    | false => rw [hb] at e; exact ih h.2 e
end Mine
end
section
-- U2
set_option linter.unusedVariables false
namespace Mine
open PySem PySem.Calls PyProof.Rows PySem.W
noncomputable def isI (d : D) (K : Int → Prop) : Prop := match d with | .int i => K i | _ => False
noncomputable def isO (d : D) (K : Bool → Prop) : Prop := match d with | .bool i => K i | _ => False
noncomputable def isL (d : D) (K : List D → Prop) : Prop := match d with | .list i => K i | _ => False
noncomputable def isB (d : D) (K : List UInt8 → Prop) : Prop := match d with | .bytes i => K i | _ => False
noncomputable def isC (r : R) (K : D → Prop) : Prop := match r with | .cl d => K d | _ => False
noncomputable def isN : D → Bool | .none => true | _ => false
noncomputable def pInt : Operator → Int → Int → (D → Prop) → Prop
  | .Add, a, b, Q => Q (.int (a + b))
  | .Sub, a, b, Q => Q (.int (a - b))
  | .Mult, a, b, Q => -(2 ^ 63) < a ∧ a < 2 ^ 63 ∧ Q (.int (a * b))
  | .FloorDiv, a, b, Q => b ≠ 0 ∧ b.natAbs < 1073741824 ∧ Q (.int (a.fdiv b))
  | .Mod, a, b, Q => b ≠ 0 ∧ Q (.int (a.fmod b))
  | .Pow, a, n, Q => 0 ≤ n ∧ n ≤ 64 ∧ a.natAbs < 2 ^ 16 ∧ Q (.int (a ^ n.toNat))
  | .LShift, a, n, Q => 0 ≤ n ∧ n ≤ 64 ∧ a.natAbs < 2 ^ 64 ∧ Q (.int (a * 2 ^ n.toNat))
  | .RShift, a, n, Q => 0 ≤ n ∧ Q (.int (a.fdiv (2 ^ n.toNat)))
  | .BitAnd, a, b, Q => Q (.int (Builtin.bitAnd a b))
  | .BitOr, a, b, Q => Q (.int (Builtin.bitOr a b))
  | _, _, _, _ => False
noncomputable def pBin (op : Operator) (a b : D) (Q : D → Prop) : Prop := match a with
  | .int x => isI b fun y => pInt op x y Q
  | .bytes x => isB b fun y => op = .Add ∧ x.length + y.length ≤ 4096 ∧ Q (.bytes (x ++ y))
  | .list x => (match b with
      | .list y => op = .Add ∧ x.length + y.length ≤ 4096 ∧ Q (.list (x ++ y))
      | .int n => ∃ d, x = [d] ∧ op = .Mult ∧ 0 ≤ n ∧ n ≤ 64 ∧ Q (.list (List.replicate n.toNat d))
      | _ => False)
  | _ => False
noncomputable def pEq (a b : D) (Q : Bool → Prop) : Prop := match a with
  | .int x => isI b fun y => Q (x == y)
  | .str x => (match b with | .str y => Q (x == y) | _ => False)
  | .bytes x => isB b fun y => Q (x == y)
  | a => ∃ p q, a = ofPy p ∧ b = ofPy q ∧ SeqAt.shaped p = true ∧ SeqAt.shaped q = true ∧ Q (PyData.eqv p q)
noncomputable def pCmp : CmpOp → D → D → (Bool → Prop) → Prop
  | .Lt, a, b, Q => isI a fun a => isI b fun b => Q (decide (a < b))
  | .LtE, a, b, Q => isI a fun a => isI b fun b => Q (decide (a ≤ b))
  | .Gt, a, b, Q => isI a fun a => isI b fun b => Q (decide (b < a))
  | .GtE, a, b, Q => isI a fun a => isI b fun b => Q (decide (b ≤ a))
  | .Eq, a, b, Q => pEq a b Q
  | .NotEq, a, b, Q => pEq a b (fun r => Q (!r)) ∨ ∃ x y u v, a = .list [.bytes x, .bytes y] ∧ b = .list [.bytes u, .bytes v] ∧ Q (!(x == u && y == v))
  | .Is, a, b, Q => b = .none ∧ Q (isN a)
  | .IsNot, a, b, Q => b = .none ∧ Q (!isN a)
  | _, _, _, _ => False
noncomputable def pIdx (a i : D) (Q : D → Prop) : Prop := isI i fun i => 0 ≤ i ∧ (match a with
  | .list l => i < l.length ∧ l.length ≤ 4096 ∧ Q (l.getD i.toNat .none)
  | .tuple l => i < l.length ∧ l.length ≤ 4096 ∧ Q (l.getD i.toNat .none)
  | .bytes l => i < l.length ∧ l.length ≤ 4096 ∧ Q (.int (l.getD i.toNat 0).toNat)
  | _ => False)
/-- l[lo:hi], neither below nought -/
noncomputable def cut {α : Type} (l : List α) (lo hi : Option Int) : List α :=
  (match hi with | some k => l.take k.toNat | none => l).drop (match lo with | some k => k.toNat | none => 0)
noncomputable def nn : Option Int → Bool | some k => decide (0 ≤ k) | none => true
noncomputable def pSlc (a : D) (lo hi : Option Int) (Q : D → Prop) : Prop := nn lo = true ∧ nn hi = true ∧ (match a with
  | .list l => l.length ≤ 4096 ∧ Q (.list (cut l lo hi))
  | .bytes l => l.length ≤ 4096 ∧ Q (.bytes (cut l lo hi))
  | _ => False)
noncomputable def pRev (a : D) (Q : D → Prop) : Prop := match a with
  | .list l => l.length ≤ 4096 ∧ Q (.list l.reverse)
  | .bytes l => l.length ≤ 4096 ∧ Q (.bytes l.reverse)
  | _ => False
/-- the built-in functions by number: 0 len, 1 bytes, 2 list, 3 tuple, 4 sum, 5 int, 6 abs -/
noncomputable def pBi (f : Nat) (a : D) (Q : D → Prop) : Prop := match f with
  | 0 => (match a with
      | .list l => l.length ≤ 4096 ∧ Q (.int l.length)
      | .tuple l => l.length ≤ 4096 ∧ Q (.int l.length)
      | .bytes l => l.length ≤ 4096 ∧ Q (.int l.length)
      | _ => False)
  | 1 => ∃ ns : List Int, a = .list (ns.map .int) ∧ ns.length ≤ 4096 ∧ (∀ n ∈ ns, 0 ≤ n ∧ n < 256) ∧ Q (.bytes (ns.map fun n => n.toNat.toUInt8))
  | 2 => (match a with | .list l => l.length ≤ 4096 ∧ Q (.list l) | .bytes l => l.length ≤ 4096 ∧ Q (.list (l.map fun c => .int c.toNat)) | _ => False)
  | 3 => (match a with | .tuple l => Q (.tuple l) | _ => False)
  | 4 => ∃ ns : List Int, a = .list (ns.map .int) ∧ Q (.int ns.sum)
  | 5 => (match a with | .int i => Q (.int i) | .bool b => Q (.int (if b then 1 else 0)) | _ => False)
  | 6 => isI a fun i => Q (.int i.natAbs)
  | _ => False
noncomputable def pJoin (d : D) (Q : D → Prop) : Prop := ∃ bs : List (List UInt8), d = .list (bs.map .bytes) ∧ bs.length ≤ 64 ∧ bs.flatten.length ≤ 4096 ∧ Q (.bytes bs.flatten)
noncomputable def rngL (a c : Int) : Nat → List D
  | 0 => []
  | n + 1 => .int a :: rngL (a + c) c n
noncomputable def rngN (a b c : Int) : Nat := (Builtin.Range.rangeSize a b c).toNat
noncomputable def enumL : Int → List D → List D
  | _, [] => []
  | n, d :: r => .tuple [.int n, d] :: enumL (n + 1) r
noncomputable def unp : List Nat → D → Option (List D)
  | [_], d => some [d]
  | _, .tuple ds => some ds
  | _, _ => none
noncomputable def opOf : Nat → Operator
  | 0 => .Add | 1 => .Sub | 2 => .Mult | 3 => .FloorDiv | 4 => .Mod | 5 => .Pow | 6 => .LShift | 7 => .RShift | 8 => .BitAnd | _ => .BitOr
noncomputable def cmpOf : Nat → CmpOp
  | 0 => .Lt | 1 => .LtE | 2 => .Gt | 3 => .GtE | 4 => .Eq | 5 => .NotEq | 6 => .Is | _ => .IsNot
noncomputable def T.bs : T → List UInt8
  | .n _ (.i k) r _ => k.toNat.toUInt8 :: r.bs
  | _ => []
noncomputable def T.vs : T → List Nat
  | .n _ (.v x) r _ => x :: r.vs
  | _ => []
noncomputable abbrev Spec := List D → List (Str × D) → (D → Prop) → (Exc → Prop) → Prop
structure Cv where
  glob : Str → D → Prop
  fn : Str → Spec → Prop
section
variable (C : Cv)
mutual
noncomputable def vE : T → G → (R → Prop) → (Exc → Prop) → Prop
  | .i k, _, Q, _ => Q (.cl (.int k))
  | .s x, _, Q, _ => Q (.cl (.str x))
  | .v x, g, Q, _ => (match g.get x with | some (.v d) => Q (.cl d) | some (.o l) => Q (.ow x l) | none => False)
  | .n 2 l _ _, _, Q, _ => Q (.cl (.bytes l.bs))
  | .n 3 _ _ _, _, Q, _ => Q (.cl .none)
  | .n 4 _ _ _, _, Q, _ => Q (.cl (.bool true))
  | .n 5 _ _ _, _, Q, _ => Q (.cl (.bool false))
  | .n 7 (.s x) _ _, _, Q, _ => ∃ d, C.glob x d ∧ Q (.cl d)
  | .n 8 (.v op) a b, g, Q, X => vE a g (fun x => vE b g (fun y => pBin (opOf op) x.d y.d fun d => Q (.cl d)) X) X
  | .n 9 a _ _, g, Q, X => vE a g (fun x => isI x.d fun i => Q (.cl (.int (-i)))) X
  | .n 10 a _ _, g, Q, X => vE a g (fun x => isO x.d fun b => Q (.cl (.bool (!b)))) X
  | .n 11 (.v op) a b, g, Q, X => vE a g (fun x => vE b g (fun y => pCmp (cmpOf op) x.d y.d fun t => Q (.cl (.bool t))) X) X
  | .n 12 (.n _ (.v p) (.v q) _) a (.n _ b c _), g, Q, X => vE a g (fun x => vE b g (fun y => pCmp (cmpOf p) x.d y.d fun t =>
      (t = true → vE c g (fun z => pCmp (cmpOf q) y.d z.d fun t => Q (.cl (.bool t))) X) ∧ (t = false → Q (.cl (.bool false)))) X) X
  | .n 13 es _ _, g, Q, X => vBO true es g Q X
  | .n 14 es _ _, g, Q, X => vBO false es g Q X
  | .n 15 t a b, g, Q, X => vT t g (fun c => (c = true → vE a g Q X) ∧ (c = false → vE b g Q X)) X
  | .n 16 (.s f) as _, g, Q, X => ∃ sp, C.fn f sp ∧ vEs as g (fun ds => sp ds [] (fun d => Q (.cl d)) X) X
  | .n 17 (.s f) as (.n _ (.s k) kv _), g, Q, X => ∃ sp, C.fn f sp ∧ vEs as g (fun ds => vE kv g (fun r => isC r fun e => sp ds [(k, e)] (fun d => Q (.cl d)) X) X) X
  | .n 18 (.v f) a _, g, Q, X => vE a g (fun x => pBi f x.d fun d => Q (.cl d)) X
  | .n 19 e _ _, g, Q, X => vE e g (fun x => pJoin x.d fun d => Q (.cl d)) X
  | .n 20 es _ _, g, Q, X => vEs es g (fun ds => Q (.cl (.tuple ds))) X
  | .n 21 es _ _, g, Q, X => vEs es g (fun ds => Q (.cl (.list ds))) X
  | .n 22 a i _, g, Q, X => vE a g (fun x => vE i g (fun y => pIdx x.d y.d fun d => Q (.cl d)) X) X
  | .n 23 a hi _, g, Q, X => vE a g (fun x => vE hi g (fun y => isI y.d fun k => pSlc x.d none (some k) fun d => Q (.cl d)) X) X
  | .n 24 a lo _, g, Q, X => vE a g (fun x => vE lo g (fun y => isI y.d fun k => pSlc x.d (some k) none fun d => Q (.cl d)) X) X
  | .n 25 a lo hi, g, Q, X => vE a g (fun x => vE lo g (fun y => vE hi g (fun z => isI y.d fun j => isI z.d fun k => pSlc x.d (some j) (some k) fun d => Q (.cl d)) X) X) X
  | .n 26 a _ _, g, Q, X => vE a g (fun x => pRev x.d fun d => Q (.cl d)) X
  | .n 27 (.n _ (.v x) fv _) elt it, g, Q, X => vI it g (fun ds => ds.length ≤ 4096 ∧ ∃ g', g.pick fv.vs = some g' ∧ ∃ f : D → D,
      (∀ d ∈ ds, vE elt (G.set g' x (.v d)) (fun r => isC r fun e => e = f d) (fun _ => False)) ∧ Q (.cl (.list (ds.map f)))) X
  | _, _, _, _ => False
noncomputable def vEs : T → G → (List D → Prop) → (Exc → Prop) → Prop
  | .n _ e r _, g, Q, X => vE e g (fun x => isC x fun d => vEs r g (fun ds => Q (d :: ds)) X) X
  | _, _, Q, _ => Q []
noncomputable def vBO (u : Bool) : T → G → (R → Prop) → (Exc → Prop) → Prop
  | .n _ e .z _, g, Q, X => vE e g Q X
  | .n _ e r _, g, Q, X => vE e g (fun x => isO x.d fun b => (b = u → vBO u r g Q X) ∧ (b = (!u) → Q (.cl (.bool (!u))))) X
  | _, _, _, _ => False
noncomputable def vT : T → G → (Bool → Prop) → (Exc → Prop) → Prop
  | .n 10 a _ _, g, Q, X => vT a g (fun b => Q (!b)) X
  | .n 13 es _ _, g, Q, X => vTB true es g Q X
  | .n 14 es _ _, g, Q, X => vTB false es g Q X
  | .n 11 (.v op) a b, g, Q, X => vE a g (fun x => vE b g (fun y => pCmp (cmpOf op) x.d y.d Q) X) X
  | .n 12 (.n _ (.v p) (.v q) _) a (.n _ b c _), g, Q, X => vE a g (fun x => vE b g (fun y => pCmp (cmpOf p) x.d y.d fun t => (t = true → vE c g (fun z => pCmp (cmpOf q) y.d z.d Q) X) ∧ (t = false → Q false)) X) X
  | .n 16 (.s f) as _, g, Q, X => ∃ sp, C.fn f sp ∧ vEs as g (fun ds => sp ds [] (fun d => isO d Q) X) X
  | .v x, g, Q, _ => (match g.get x with | some (.v (.bool b)) => Q b | _ => False)
  | _, _, _, _ => False
noncomputable def vTB (u : Bool) : T → G → (Bool → Prop) → (Exc → Prop) → Prop
  | .n _ e r _, g, Q, X => vT e g (fun b => (b = u → vTB u r g Q X) ∧ (b = (!u) → Q (!u))) X
  | _, _, Q, _ => Q u
noncomputable def vI : T → G → (List D → Prop) → (Exc → Prop) → Prop
  | .n 30 e _ _, g, Q, X => vE e g (fun r => isC r fun d => match d with | .list l => Q l | .tuple l => Q l | .bytes l => Q (l.map fun c => .int c.toNat) | _ => False) X
  | .n 31 e _ _, g, Q, X => vE e g (fun r => isI r.d fun n => 0 ≤ n ∧ n ≤ 4096 ∧ Q (rngL 0 1 (rngN 0 n 1))) X
  | .n 32 a b c, g, Q, X => vE a g (fun x => vE b g (fun y => vE c g (fun z => isI x.d fun a => isI y.d fun b => isI z.d fun c => 0 < c ∧ c ≤ 4096 ∧ 0 ≤ a ∧ a ≤ 4096 ∧ -4096 ≤ b ∧ b ≤ 4096 ∧ Q (rngL a c (rngN a b c))) X) X) X
  | .n 33 e _ _, g, Q, X => vE e g (fun r => isC r fun d => isL d fun l => l.length ≤ 4096 ∧ Q (enumL 0 l)) X
  | _, _, _, _ => False
end
/-- the elements of a tuple of targets; a child that is 41 is an empty list to be held alone -/
noncomputable def vTT : T → G → (List L → Prop) → (Exc → Prop) → Prop
  | .n _ (.n 41 _ _ _) r _, g, Q, X => vTT r g (fun ls => Q (.o [] :: ls)) X
  | .n _ e r _, g, Q, X => vE C e g (fun x => isC x fun d => vTT r g (fun ls => Q (.v d :: ls)) X) X
  | _, _, Q, _ => Q []
noncomputable def G.setLs : G → List Nat → List L → G
  | g, x :: xs, l :: ls => G.setLs (G.set g x l) xs ls
  | g, _, _ => g
noncomputable def isOw (l : Option L) (K : List D → Prop) : Prop := match l with | some (.o l) => K l | _ => False
/-- behind a turn: on with what I says, or out -/
noncomputable def turn (Q : Fl → G → Prop) (I : G → Prop) (fl : Fl) (g : G) : Prop := match fl with | .nx => ∃ g₁, Sub g₁ g ∧ I g₁ | .rt d => Q (.rt d) g
mutual
noncomputable def vS : T → G → (Fl → G → Prop) → (Exc → G → Prop) → Prop
  | .n 49 (.v x) e _, g, Q, X => vE C e g (fun r => isC r fun d => Q .nx (G.set g x (.v d))) (fun e => X e g)
  | .n 50 (.v x) e _, g, Q, X => vE C e g (fun r => isC r fun d => Q .nx (G.set g x (.v d))) (fun e => X e g)
  | .n 51 (.v x) es _, g, Q, X => vEs C es g (fun ds => Q .nx (G.set g x (.o ds))) (fun e => X e g)
  | .n 52 (.v x) e _, g, Q, X => vE C e g (fun r => pBi 2 r.d fun d => isL d fun l => Q .nx (G.set g x (.o l))) (fun e => X e g)
  | .n 53 xs e _, g, Q, X => vE C e g (fun r => isC r fun d => match d with | .tuple ds => ds.length = xs.vs.length ∧ Q .nx (G.sets g xs.vs ds) | _ => False) (fun e => X e g)
  | .n 54 xs es _, g, Q, X => vTT C es g (fun ls => Q .nx (G.setLs g xs.vs ls)) (fun e => X e g)
  | .n 55 (.v op) (.v x) e, g, Q, X => (match g.get x with
      | some (.v a) => isI a fun a => vE C e g (fun r => isI r.d fun b => pInt (opOf op) a b fun d => Q .nx (G.set g x (.v d))) (fun e => X e g)
      | _ => False)
  | .n 56 (.v x) e _, g, Q, X => isOw (g.get x) fun l => vE C e g (fun r => isC r fun d => l.length ≤ 4096 ∧ Q .nx (G.set g x (.o (l ++ [d])))) (fun e => X e g)
  | .n 57 (.v x) e _, g, Q, X => isOw (g.get x) fun l => vE C e g (fun r => isL r.d fun m => l.length + m.length ≤ 4096 ∧ Q .nx (G.set g x (.o (l ++ m)))) (fun e => X e g)
  | .n 58 (.v x) _ _, g, Q, _ => isOw (g.get x) fun l => l.length ≤ 4096 ∧ Q .nx (G.set g x (.o l.reverse))
  | .n 59 e _ _, g, Q, X => vE C e g (fun _ => Q .nx g) (fun e => X e g)
  | .n 60 t a b, g, Q, X => vT C t g (fun c => (c = true → vSs a g Q X) ∧ (c = false → vSs b g Q X)) (fun e => X e g)
  | .n 61 t b _, g, Q, X => ∃ I : Nat → G → Prop, (∃ n g₀, Sub g₀ g ∧ I n g₀) ∧ ∀ n g₀, I n g₀ → vT C t g₀ (fun c =>
      (c = true → vSs b g₀ (turn Q fun g₁ => ∃ m, m < n ∧ I m g₁) X) ∧ (c = false → Q .nx g₀)) (fun e => X e g₀)
  | .n 62 xs it b, g, Q, X => vI C it g (fun ds => ∃ I : List D → G → Prop, (∃ g₀, Sub g₀ g ∧ I ds g₀) ∧
      (∀ d r g₀, I (d :: r) g₀ → ∃ es, unp xs.vs d = some es ∧ es.length = xs.vs.length ∧ vSs b (G.sets g₀ xs.vs es) (turn Q (I r)) X) ∧
      ∀ g₀, I [] g₀ → Q .nx g₀) (fun e => X e g)
  | .n 63 e _ _, g, Q, X => vE C e g.frz (fun r => isC r fun d => Q (.rt d) g) (fun e => X e g.frz)
  | .n 64 (.s c) e _, g, _, X => vE C e g (fun r => isC r fun d => X ⟨c, d⟩ g) (fun e => X e g)
  | .n 65 b (.s c) (.n _ (.v x) w _), g, Q, X => vSs b g Q (fun ex g' => ex.cls = c ∧ (w = .z ∨ ∃ l, ex.told = .tuple l) ∧ Q .nx (G.set g' x (.v ex.told)))
  | _, _, _, _ => False
noncomputable def vSs : T → G → (Fl → G → Prop) → (Exc → G → Prop) → Prop
  | .n _ s r _, g, Q, X => vS s g (fun fl g' => match fl with | .nx => vSs r g' Q X | .rt d => Q (.rt d) g') X
  | _, g, Q, _ => Q .nx g
end
end
end Mine
end
section
-- U3
set_option linter.unusedVariables false
namespace Mine
open PySem PySem.Calls PyProof.Rows PySem.W
structure Wd where
  prog : Program
  w : World
  hb : Heap
  mg : Str → Option Value
  mb : Str → Option Value
/-- the names of locals, by number -/
noncomputable def nmL : List Str := List.map Str.ofString ["number", "code", "text", "found", "above", "high", "low", "place", "left", "many", "unit", "order", "octets", "at", "with_mark", "behind", "what", "row", "size", "k", "octet", "units", "codes", "ill", "is_half", "is_pair", "word", "e", "rest", "mine", "ahead", "told", "due", "mark", "odd", "script", "cells", "first", "some", "v"]
noncomputable def nmOf (i : Nat) : Str := match nmL[i]? with | some x => x | none => ⟨#[200 + i]⟩
noncomputable abbrev Wd.nm (W : Wd) (i : Nat) : Str := nmOf i
noncomputable abbrev Wd.M (W : Wd) : Model := model W.prog W.w
/-- the built-ins by number -/
noncomputable def biNm : Nat → Str | 0 => "len" | 1 => "bytes" | 2 => "list" | 3 => "tuple" | 4 => "sum" | 5 => "int" | 6 => "abs" | 7 => "range" | _ => "enumerate"
noncomputable def biVal : Nat → Value | 0 => .builtin "len" | 1 => .type "bytes" | 2 => .type "list" | 3 => .type "tuple" | 4 => .builtin "sum" | 5 => .type "int" | 6 => .builtin "abs" | 7 => .type "range" | _ => .type "enumerate"
structure Wd.Ok (W : Wd) : Prop where
  nsg : W.hb.Ns mainGlobals W.mg
  nsb : W.hb.Ns builtinsNs W.mb
  lim : W.hb.NoLimit
  inj : ∀ i j, i < 128 → j < 128 → W.nm i = W.nm j → i = j
  dbg : ∀ i, i < 128 → (W.nm i == ("__debug__" : Str)) = false ∧ (W.nm i == ("__classdict__" : Str)) = false
  bi : ∀ k, W.mg (biNm k) = none ∧ W.mb (biNm k) = some (biVal k)
structure Fx where
  env : Env
  Z : AP
  Y : AP
  frs : List Env
  cel : List (Nat × Addr)
noncomputable def Fx.Fs (F : Fx) : AP := fun a => a ∈ F.frs.filterMap (·.frame)
structure Fx.Ok (W : Wd) (F : Fx) : Prop where
  kind : F.env.scope.kind = .function
  gl : F.env.globals = mainGlobals
  bl : F.env.builtins = builtinsNs
  loc : F.Z F.env.locals
  new : ∀ a, F.Y a ∨ F.Z a → W.hb.get? a = none
  fs : ∀ a, F.Fs a → F.Y a ∨ a = F.env.locals
  apart : ∀ a, F.Z a → ¬ F.Y a
  celk : ∀ i c, (i, c) ∈ F.cel → F.env.kindOf (W.nm i) = some .cell ∧ F.env.cells.lookup (W.nm i) = some c ∧ F.Z c ∧ ∀ j, j < 128 → F.env.cells.lookup (W.nm j) = some c → j = i
noncomputable def AOk (F : Fx) (r : Nat) (A : Around) : Prop := A.handled = none ∧ A.frames = some F.frs ∧ A.depth + r < recursionLimit ∧ A.units + 16 * r + 100 < cLine
noncomputable abbrev Own := Nat → Option Addr
noncomputable def Vf (F : Fx) (own : Own) : AP := fun a => F.Y a ∨ F.Z a ∨ ∃ i, own i = some a
/-- what a statement may touch -/
noncomputable def Xf (F : Fx) (own : Own) : AP := fun a => F.Z a ∨ ∃ i, own i = some a
noncomputable def LDen (F : Fx) (own : Own) (h : Heap) (i : Nat) (v : Value) (l : L) : Prop := match l with
  | .v d => Den h (Vf F own) v d
  | .o l => ∃ a vs, own i = some a ∧ v = .ref a ∧ LsA h a vs ∧ DenL h (Vf F own) vs l
noncomputable def RDen (F : Fx) (own : Own) (h : Heap) (v : Value) (r : R) : Prop := match r with
  | .cl d => Den h (Vf F own) v d
  | .ow i l => LDen F own h i v (.o l)
noncomputable def RdAt (W : Wd) (env : Env) (m : Str → Option Value) (h : Heap) (i : Nat) (v : Value) : Prop :=
  (env.kindOf (W.nm i) = some .local ∧ m (W.nm i) = some v) ∨
  ((env.kindOf (W.nm i) = some .cell ∨ env.kindOf (W.nm i) = some .free) ∧ ∃ c, env.cells.lookup (W.nm i) = some c ∧ h.IsCell c (some v))
noncomputable def FrAt (frs : List Env) (h : Heap) : Prop := ∀ e ∈ frs, e.scope.kind ≠ .module ∧ ∃ L o, e.frame = some L ∧ h.get? L = some o ∧ ∀ vs, o.data ≠ .fields vs
structure St (W : Wd) (F : Fx) (own : Own) (g : G) (h : Heap) : Prop where
  base : Stays W.hb h
  rd : ∃ m, h.Ns F.env.locals m ∧ ∀ i l, g.get i = some l → i < 128 ∧ ∃ v, RdAt W F.env m h i v ∧ LDen F own h i v l
  live : ∀ a, Vf F own a → ∃ o, h.get? a = some o
  own1 : ∀ i j a, own i = some a → own j = some a → i = j
  own2 : ∀ i a, own i = some a → ¬ F.Y a ∧ ¬ F.Z a ∧ W.hb.get? a = none
  fr : FrAt F.frs h
  cel : ∀ i c, (i, c) ∈ F.cel → ∃ v, h.IsCell c v
noncomputable def Step (F : Fx) (X : AP) (s s' : Shared) : Prop := ∃ h' tk, s' = { s with heap := h', toks := tk } ∧ Keep X F.Fs s.heap h'
variable {W : Wd} {F : Fx} {own : Own} {g : G} {s s' s'' : Shared}
theorem Step.refl (X : AP) (s : Shared) : Step F X s s := ⟨_, _, rfl, .refl _ _ _⟩
theorem Step.tok (X : AP) (s : Shared) (t : Nat) : Step F X s { s with toks := t } := ⟨_, _, rfl, .refl _ _ _⟩
theorem Step.of {X : AP} {h' : Heap} {tk : Nat} (k : Stays s.heap h') : Step F X s { s with heap := h', toks := tk } := ⟨_, _, rfl, .of_stays k _ _⟩
theorem Step.trans {X : AP} (a : Step F X s s') (b : Step F X s' s'') : Step F X s s'' := by
  obtain ⟨h, t, rfl, k⟩ := a
  obtain ⟨h', t', rfl, k'⟩ := b
  exact ⟨_, _, rfl, k.trans0 k'⟩
theorem Step.up {X : AP} (a : Step F noA s s') : Step F X s s' := by
  obtain ⟨h, t, rfl, k⟩ := a
  exact ⟨_, _, rfl, k.mono (fun _ f => f.elim) fun _ f => f⟩
theorem Step.keep {X : AP} (a : Step F X s s') : Keep X F.Fs s.heap s'.heap := by
  obtain ⟨h, t, rfl, k⟩ := a; exact k
theorem RdAt.keep {env : Env} {m : Str → Option Value} {X Y : AP} {h h' : Heap} {i : Nat} {v : Value} (k : Keep X Y h h') (hx : ∀ c, env.cells.lookup (W.nm i) = some c → ¬ X c) (x : RdAt W env m h i v) : RdAt W env m h' i v := by
  rcases x with x | ⟨a, c, b, o, e, d⟩
  · exact .inl x
  · obtain ⟨sl, e', _⟩ := k c o (hx c b) e
    exact .inr ⟨a, c, b, _, e', d⟩
theorem Fx.Ok.fv (O : F.Ok W) : ∀ a, F.Fs a → Vf F own a := fun a f => (O.fs a f).elim .inl fun e => .inr (.inl (by subst e; exact O.loc))
theorem LDen.keep (O : F.Ok W) {h h' : Heap} {X : AP} {i : Nat} {v : Value} {l : L} (k : Keep X F.Fs h h') (hx : ∀ a, X a → Vf F own a) (hi : ∀ a, own i = some a → ¬ X a ∧ ¬ F.Fs a) (x : LDen F own h i v l) : LDen F own h' i v l := by
  cases l with
  | v d => exact Den.keep k hx O.fv x
  | o l =>
    obtain ⟨a, vs, e, e', p, q⟩ := x
    exact ⟨a, vs, e, e', k.ex (hi a e).1 (hi a e).2 p, Mine.Paired.imp (fun _ _ z => Den.keep k hx O.fv z) q⟩
theorem Fx.Ok.nf (O : F.Ok W) {a : Addr} (y : ¬ F.Y a) (z : ¬ F.Z a) : ¬ F.Fs a := fun f => (O.fs a f).elim y fun e => z (by subst e; exact O.loc)
theorem St.of (S : St W F own g s.heap) (O : F.Ok W) {i : Nat} {a : Addr} (e : own i = some a) : ¬ F.Fs a := O.nf (S.own2 i a e).1 (S.own2 i a e).2.1
theorem LDen.step (O : F.Ok W) (S : St W F own g s.heap) {i : Nat} {v : Value} {l : L} (a : Step F noA s s') (x : LDen F own s.heap i v l) : LDen F own s'.heap i v l := x.keep O a.keep (fun _ f => f.elim) fun _ e => ⟨id, S.of O e⟩
theorem RDen.step (O : F.Ok W) (S : St W F own g s.heap) {v : Value} {x : R} (a : Step F noA s s') (r : RDen F own s.heap v x) : RDen F own s'.heap v x := by
  cases x with
  | cl d => exact Den.keep a.keep (fun _ f => f.elim) O.fv r
  | ow i l => exact LDen.step (l := .o l) O S a r
theorem cell_keep {X Y : AP} {h h' : Heap} {c : Addr} {v : Option Value} (k : Keep X Y h h') (n : ¬ X c) : h.IsCell c v → h'.IsCell c v
  | ⟨o, e, d⟩ => let ⟨_, e', _⟩ := k c o n e; ⟨_, e', d⟩
theorem FrAt.keep {frs : List Env} {X Y : AP} {h h' : Heap} (k : Keep X Y h h') (hx : ∀ a, a ∈ frs.filterMap (·.frame) → ¬ X a) (x : FrAt frs h) : FrAt frs h' := fun e he => by
  obtain ⟨a, L, o, b, c, d⟩ := x e he
  obtain ⟨sl, e', _⟩ := k L o (hx L (List.mem_filterMap.mpr ⟨e, he, b⟩)) c
  exact ⟨a, L, _, b, e', d⟩
theorem base_keep {X : AP} {h h' : Heap} (O : F.Ok W) (b : Stays W.hb h) (k : Keep X F.Fs h h') (hx : ∀ a, X a → W.hb.get? a = none) (hz : W.hb.get? F.env.locals = none) : Stays W.hb h' := fun a o e =>
  k.get (fun x => nomatch (hx a x).symm.trans e) (fun f => (O.fs a f).elim (fun y => nomatch (O.new a (.inl y)).symm.trans e) fun y => by subst y; exact nomatch hz.symm.trans e) (b a o e)
theorem St.step (O : F.Ok W) (S : St W F own g s.heap) (a : Step F noA s s') : St W F own g s'.heap := by
  have k := a.keep
  obtain ⟨m, n, r⟩ := S.rd
  exact ⟨base_keep O S.base k (fun _ f => f.elim) (O.new _ (.inr O.loc)), ⟨m, k.ns (fun f => f) n, fun i l e => let ⟨p, v, q, t⟩ := r i l e; ⟨p, v, q.keep k fun _ _ f => f, t.step O S a⟩⟩,
    fun b v => k.some (fun f => f) (S.live b v), S.own1, S.own2, S.fr.keep k fun _ _ f => f, fun i c e => let ⟨v, x⟩ := S.cel i c e; ⟨v, cell_keep k (fun f => f) x⟩⟩
theorem St.fresh {h : Heap} (S : St W F own g h) {a : Addr} (e : h.get? a = none) : ¬ Vf F own a := fun v => let ⟨_, e'⟩ := S.live a v; nomatch e.symm.trans e'
theorem get_top (h : Heap) : h.get? h.objs.size = none := by
  cases e : h.get? h.objs.size with
  | none => rfl
  | some o => exact absurd (Heap.lt_size e) (Nat.lt_irrefl _)
/-- data whose own address may be held alone -/
noncomputable def DenT (h : Heap) (V : AP) (v : Value) (d : D) : Prop := match d with
  | .none => v = .none
  | .bool b => v = .bool b
  | .int i => ∃ t, v = .int i t
  | .str x => ∃ t, v = .str x t
  | .bytes l => ∃ t, v = .bytes l.toArray t
  | .tuple l => ∃ a vs, v = .ref a ∧ TpA h a vs ∧ DenL h V vs l ∧ ¬ V a
  | .list l => ∃ a vs, v = .ref a ∧ LsA h a vs ∧ DenL h V vs l
  | _ => False
theorem Den.t {h : Heap} {V : AP} {v : Value} {d : D} (x : Den h V v d) : DenT h V v d :=
  Den.rec (motive_1 := fun v d _ => DenT h V v d) (motive_2 := fun _ _ _ => True) rfl (fun _ => rfl) (fun _ t => ⟨t, rfl⟩) (fun _ t => ⟨t, rfl⟩) (fun _ t => ⟨t, rfl⟩)
    (fun l n r _ => ⟨_, _, rfl, l, r, n⟩) (fun l _ r _ => ⟨_, _, rfl, l, r⟩) trivial (fun _ _ _ _ => trivial) x
theorem RDen.t {h : Heap} {v : Value} {x : R} (r : RDen F own h v x) : DenT h (Vf F own) v x.d := by
  cases x with
  | cl d => exact Den.t r
  | ow i l => exact r.elim fun a q => q.elim fun vs p => ⟨a, vs, p.2⟩
theorem isI_elim {d : D} {K : Int → Prop} (x : isI d K) : ∃ i, d = .int i ∧ K i := by cases d <;> first | exact ⟨_, rfl, x⟩ | exact x.elim
theorem isO_elim {d : D} {K : Bool → Prop} (x : isO d K) : ∃ i, d = .bool i ∧ K i := by cases d <;> first | exact ⟨_, rfl, x⟩ | exact x.elim
theorem isL_elim {d : D} {K : List D → Prop} (x : isL d K) : ∃ i, d = .list i ∧ K i := by cases d <;> first | exact ⟨_, rfl, x⟩ | exact x.elim
theorem isB_elim {d : D} {K : List UInt8 → Prop} (x : isB d K) : ∃ i, d = .bytes i ∧ K i := by cases d <;> first | exact ⟨_, rfl, x⟩ | exact x.elim
theorem isC_elim {d : R} {K : D → Prop} (x : isC d K) : ∃ i, d = .cl i ∧ K i := by
  cases d with
  | cl d => exact ⟨d, rfl, x⟩
  | ow _ _ => exact x.elim
/-- an exception object and the head of its trace -/
noncomputable def ExcP (W : Wd) (V : AP) (h : Heap) (a : Addr) (x : Exc) (tb : Option Addr) : Prop := ∃ oe vs d md tv C, h.get? a = some oe ∧ W.mg x.cls = some (.ref C) ∧ oe.cls = .ref C ∧ oe.data = .fields vs ∧ 1 < vs.size ∧
  vs[1]? = some (tb.elim .none .ref) ∧ (∀ t, tb = some t → t ≠ a ∧ ∃ oT ts, h.get? t = some oT ∧ oT.data = .fields ts ∧ 3 < ts.size) ∧
  oe.dict = some d ∧ ¬ V d ∧ h.Ns d md ∧ md "told" = some tv ∧ Den h V tv x.told
noncomputable abbrev exA (a : Addr) (tb : Option Addr) : AP := fun b => b = a ∨ tb = some b
/-- an exception in flight, made behind h₀ -/
noncomputable def ExcAt (W : Wd) (V : AP) (h₀ h : Heap) (e : Value) (x : Exc) : Prop := ∃ a tb, e = .ref a ∧ (∀ b, exA a tb b → h₀.get? b = none ∧ ¬ V b) ∧ ExcP W V h a x tb
/-- the sense of a tree: from any state that g says, to a value that P reads -/
noncomputable def WX (W : Wd) (F : Fx) (r : Nat) (g : G) {α ρ : Type} (P : Own → Heap → α → ρ → Prop) (t : Sem α) (Q : ρ → Prop) (X : Exc → Prop) : Prop :=
  ∀ (A : Around) (s : Shared) (own : Own) (Qs : α → Shared → Prop) (Es : Value → Shared → Prop), AOk F r A → St W F own g s.heap →
    (∀ v s' x, Step F noA s s' → P own s'.heap v x → Q x → Qs v s') →
    (∀ e s' x, Step F noA s s' → ExcAt W (Vf F own) s.heap s'.heap e x → X x → Es e s') → wpAny W.M A t Qs Es s
noncomputable def WE (W : Wd) (F : Fx) (r : Nat) (g : G) (e : Expr) (Q : R → Prop) (X : Exc → Prop) : Prop := WX W F r g (RDen F) (eval e F.env) Q X
/-- the truth of a test -/
noncomputable def WT (W : Wd) (F : Fx) (r : Nat) (g : G) (e : Expr) (Q : Bool → Prop) (X : Exc → Prop) : Prop := WX W F r g (fun _ _ (a b : Bool) => a = b) (isTrue e F.env (eval e F.env)) Q X
theorem Step.none (a : Step F noA s s') {b : Addr} (n : s'.heap.get? b = none) : s.heap.get? b = none := by
  cases q : s.heap.get? b with
  | none => rfl
  | some o => obtain ⟨o', e'⟩ := a.keep.some (fun f => f) ⟨o, q⟩; exact nomatch n.symm.trans e'
theorem ExcAt.from {V : AP} {h : Heap} {e : Value} {x : Exc} (a : Step F noA s s') (y : ExcAt W V s'.heap h e x) : ExcAt W V s.heap h e x :=
  let ⟨b, tb, e1, e2, r⟩ := y
  ⟨b, tb, e1, fun c q => ⟨a.none (e2 c q).1, (e2 c q).2⟩, r⟩
/-- one step, then the rest -/
theorem WX.seq {r : Nat} {α ρ : Type} {P : Own → Heap → α → ρ → Prop} {t : Sem α} {Q : ρ → Prop} {X : Exc → Prop} (O : F.Ok W)
    (h : WX W F r g P t Q X) {A : Around} {s : Shared} {own : Own} {Z : α → Shared → Prop} {Es : Value → Shared → Prop} (hA : AOk F r A) (S : St W F own g s.heap)
    (hE : ∀ e s' x, Step F noA s s' → ExcAt W (Vf F own) s.heap s'.heap e x → X x → Es e s')
    (k : ∀ v s₁ x, Step F noA s s₁ → St W F own g s₁.heap → P own s₁.heap v x → Q x → (∀ e s' x, Step F noA s₁ s' → ExcAt W (Vf F own) s₁.heap s'.heap e x → X x → Es e s') → Z v s₁) :
    wpAny W.M A t Z Es s :=
  h A s own _ _ hA S (fun v s' x st p q => k v s' x st (S.step O st) p q fun e s'' y st' ea xa => hE e s'' y (st.trans st') (ea.from st) xa) hE
end Mine
end
section
-- U4
set_option linter.unusedVariables false
set_option maxRecDepth 100000
namespace Mine
open PySem PySem.Calls PyProof.Rows PySem.W
/-- a step that only adds -/
noncomputable def GStep (s s' : Shared) : Prop := ∃ h' tk, s' = { s with heap := h', toks := tk } ∧ Stays s.heap h'
theorem GStep.tok (s : Shared) (t : Nat) : GStep s { s with toks := t } := ⟨_, _, rfl, fun _ _ e => e⟩
theorem GStep.push (s : Shared) (o : Obj) (t : Nat) : GStep s { s with heap := s.heap.push o, toks := t } := ⟨_, _, rfl, fun _ _ e => Heap.get?_push_of_some _ e⟩
theorem GStep.up {F : Fx} {X : AP} {s s' : Shared} : GStep s s' → Step F X s s' | ⟨h, t, e, k⟩ => ⟨h, t, e, .of_stays k _ _⟩
noncomputable abbrev Live (V : AP) (h : Heap) : Prop := ∀ a, V a → ∃ o, h.get? a = some o
section
variable {prog : Program} {w : World} {A : Around} {E : Value → Shared → Prop} {s : Shared} {V : AP} {Q : Value → Shared → Prop} {K : D → Prop} {v u : Value}
theorem Live.top {h : Heap} (x : Live V h) : ¬ V h.objs.size := fun y => let ⟨_, e⟩ := x _ y; nomatch (get_top h).symm.trans e
/-- a list newly made -/
theorem den_list (lv : Live V s.heap) {vs : List Value} {ds : List D} (d : DenL s.heap V vs ds) :
    Den (s.heap.push { cls := .type "list", data := .seq vs.toArray }) V (.ref s.heap.objs.size) (.list ds) :=
  .list ⟨0, Heap.get?_push_size _ rfl⟩ lv.top (Mine.Paired.imp (fun _ _ x => Den.stays (fun _ _ e => Heap.get?_push_of_some _ e) x) d)
theorem den_tup (lv : Live V s.heap) {vs : List Value} {ds : List D} (d : DenL s.heap V vs ds) :
    Den (s.heap.push { cls := .type "tuple", data := .seq vs.toArray }) V (.ref s.heap.objs.size) (.tuple ds) :=
  .tup ⟨0, Heap.get?_push_size _ rfl⟩ lv.top (Mine.Paired.imp (fun _ _ x => Den.stays (fun _ _ e => Heap.get?_push_of_some _ e) x) d)
theorem p_int {op : Operator} {a b : Int} {t r : Tok} (p : pInt op a b K) (h : ∀ c, K (.int c) → Q (.int c s.toks) { s with toks := s.toks + 1 }) : wpAny (model prog w) A (binaryOp op (.int a t) (.int b r)) Q E s := by
  cases op
  case Add => exact PyProof.Rows.add_int (h _ p)
  case Sub => exact PyProof.Rows.sub_int (h _ p)
  case Mult => exact PyProof.Rows.mul_int (h _ p.2.2) (.of_left (PySem.intBits_le_64 (by have := p.1; omega) (by have := p.2.1; omega)))
  case FloorDiv => exact PyProof.Rows.floordiv_int p.1 (h _ p.2.2) (.inl (PyProof.noPylong_small p.2.1))
  case Mod => exact PyProof.Rows.mod_int p.1 (h _ p.2)
  case Pow => exact PyProof.Rows.pow_int_small p.1 (Int.le_trans p.2.1 (by decide)) (Nat.lt_of_lt_of_le p.2.2.1 (by decide)) (h _ p.2.2.2)
  case LShift => exact PyProof.Rows.lshift_int_small p.1 (Int.le_trans p.2.1 (by decide)) p.2.2.1 (h _ p.2.2.2)
  case RShift => exact PyProof.Rows.rshift_int p.1 (h _ p.2)
  case BitAnd => exact PyProof.Rows.and_int (h _ p)
  case BitOr => exact PyProof.Rows.or_int (h _ p)
  all_goals exact p.elim
theorem rep_one (v : Value) : ∀ n : Nat, List.foldl (fun x1 x2 => x1 ++ x2) #[] (List.replicate n #[v]) = (List.replicate n v).toArray := by
  have key : ∀ (n : Nat) (acc : Array Value), List.foldl (fun x1 x2 => x1 ++ x2) acc (List.replicate n #[v]) = acc ++ (List.replicate n v).toArray := by
    intro n
    induction n with
    | zero => intro acc; simp
    | succ n ih => intro acc; rw [List.replicate_succ, List.foldl_cons, ih, List.replicate_succ]; apply Array.ext'; simp
  intro n; rw [key]; simp
theorem den_rep {h : Heap} {v : Value} {d : D} (x : Den h V v d) (n : Nat) : DenL h V (List.replicate n v) (List.replicate n d) := by
  induction n with
  | zero => exact .nil
  | succ n ih => exact .cons x ih
theorem mul_one {l : Addr} {n : Nat} {x : Int} {t : Tok} (hl : IsL s.heap l #[v] n) (h0 : 0 ≤ x) (h1 : x ≤ 64)
    (h : Q (.ref s.heap.objs.size) { s with heap := s.heap.push { cls := .type "list", data := .seq (List.replicate x.toNat v).toArray } }) : wpAny (model prog w) A (binaryOp .Mult (.ref l) (.int x t)) Q E s := by
  rw [← rep_one] at h
  refine wpAny_binaryOp_repeat_ref (T := "list") (U := "int") (by decide) ⟨_, hl, rfl⟩ (fun s' => typeIs_int s' x t) noFill_list_mul F.fills_int_mul F.slot_int_rmul repeat_list F.slot_int_index.lookup ?_
  refine call_meets F.slot_int_rmul (typeIs_int s x t) F.entry_int_rmul (F.args_int_rmul_2 _ _) (int___rmul___int_list x t l _ n) ⟨hl, rfl, ⟨_, hl, rfl⟩, ?_⟩
  refine call_meets F.slot_list_mul ⟨_, hl, rfl⟩ F.entry_list_mul (F.args_list_mul_2 _ _) (AutoListH.list___mul___list_int_3 l _ n x t ?_ ?_ ?_) ⟨hl, h⟩
  · simp [Builtin.List.listFitsIndex]; omega
  · simp; omega
  · simp [Builtin.List.listTooLong, sizeLine]; omega
theorem p_bin {op : Operator} {x y : D} (lv : Live V s.heap) (hx : DenT s.heap V v x) (hy : DenT s.heap V u y) (p : pBin op x y K)
    (h : ∀ v s' d, GStep s s' → Den s'.heap V v d → K d → Q v s') : wpAny (model prog w) A (binaryOp op v u) Q E s := by
  cases x with
  | int a =>
    obtain ⟨t, rfl⟩ := hx
    obtain ⟨b, rfl, p⟩ := isI_elim p
    obtain ⟨t', rfl⟩ := hy
    exact p_int p fun c k => h _ _ _ (.tok _ _) (.int _ _) k
  | bytes a =>
    obtain ⟨t, rfl⟩ := hx
    obtain ⟨b, rfl, rfl, z, p⟩ := isB_elim p
    obtain ⟨t', rfl⟩ := hy
    refine KBy.add_bytes (Nat.le_trans (by simpa using z) (by decide)) fun t k => ?_
    rw [List.append_toArray]
    exact h _ _ _ (.tok _ _) (.bytes _ _) p
  | list a =>
    obtain ⟨a, vs, rfl, ⟨n, l⟩, r⟩ := hx
    cases y with
    | list y =>
      obtain ⟨rfl, z, p⟩ := p
      obtain ⟨b, ws, rfl, ⟨m, l'⟩, r'⟩ := hy
      refine P.add_list l l' ?_ ?_
      · rw [List.append_toArray]
        exact h _ _ _ (.push _ _ _) (den_list lv (Mine.Paired.app r r')) p
      · rw [sizeLine_eq]; have := Paired.length r; have := Paired.length r'; simp only [List.size_toArray]; omega
    | int k =>
      obtain ⟨d, rfl, rfl, h0, h1, p⟩ := p
      obtain ⟨t, rfl⟩ := hy
      cases r with
      | cons a r =>
        cases r
        exact mul_one l h0 h1 (h _ _ _ (.push _ _ _) (den_list lv (den_rep a _)) p)
    | _ => exact p.elim
  | _ => exact p.elim
noncomputable def RdP (h : Heap) (V : AP) (p : PyData) : Prop := ∀ v, p.canLay0 = true → DenT h V v (ofPy p) → ∃ as, Reads h v p as
theorem den_py {h : Heap} (p : PyData) : RdP h V p :=
  PyData.rec (motive_1 := fun p => RdP h V p) (motive_2 := fun ps => ∀ vs, PyData.canLayAll0 ps = true → DenL h V vs (ofPys ps) → ∃ as, ReadsAll h vs ps as) (motive_3 := fun _ => True) (motive_4 := fun _ => True)
    (fun v _ x => ⟨_, by cases x; exact .none⟩) (fun b v _ x => ⟨_, by cases x; exact .bool b⟩) (fun i v _ x => x.elim fun t e => ⟨_, by cases e; exact .int i t⟩) (fun i v _ x => x.elim fun t e => ⟨_, by cases e; exact .str i t⟩)
    (fun xs ih v c x => by
      obtain ⟨a, vs, rfl, ⟨n, i⟩, r⟩ := x
      exact (ih vs c r).elim fun as z => ⟨_, .list i rfl rfl z⟩)
    (fun xs ih v c x => by
      obtain ⟨a, vs, rfl, ⟨n, i⟩, r, _⟩ := x
      exact (ih vs c r).elim fun as z => ⟨as, .tuple i rfl rfl z⟩)
    (fun _ _ v c _ => nomatch c)
    (fun vs _ x => ⟨[], by cases x; exact .nil⟩)
    (fun d ds ih ih' vs c x => by
      have c' : d.canLay0 = true ∧ PyData.canLayAll0 ds = true := by simpa only [PyData.canLayAll0, Bool.and_eq_true] using c
      cases x with
      | cons a r => exact (ih _ c'.1 (Den.t a)).elim fun as y => (ih' _ c'.2 r).elim fun bs z => ⟨_, .cons y z⟩)
    trivial (fun _ _ _ _ => trivial) (fun _ _ _ _ => trivial) p
end
end Mine
end
section
-- U5
set_option linter.unusedVariables false
set_option maxRecDepth 100000
namespace Mine
open PySem PySem.Calls PyProof.Rows PySem.W
section
variable {prog : Program} {w : World} {A : Around} {E : Value → Shared → Prop} {s : Shared} {V : AP} {Q : Value → Shared → Prop} {K : D → Prop} {KB : Bool → Prop} {v u : Value}
theorem eqB_bytes {a b : List UInt8} {t r : Tok} {Q : Bool → Shared → Prop} (h : Q (a == b) s) : wpAny (model prog w) A (eqBool (.bytes a.toArray t) (.bytes b.toArray r)) Q E s := by
  unfold eqBool
  show wpAny _ _ (if (Value.bytes a.toArray t == Value.bytes b.toArray r) = true then _ else _) Q E s
  by_cases hab : (Value.bytes a.toArray t == Value.bytes b.toArray r) = true
  · rw [if_pos hab]
    have e := eq_of_beq hab
    injection e with e
    have e' := congrArg Array.toList e
    simp only at e'
    subst e'
    rw [beq_self_eq_true] at h
    exact wpAny_bind (wpAny_rule (wpAny_pure h))
  · rw [if_neg hab]
    exact wpAny_bind (PySem.W.eq_bytes (b := a.toArray) (c := b.toArray) (wpAny_truthy_bool h))
theorem ne_two {x y z q : List UInt8} {a b : Addr} {n m : Nat} {t1 t2 t3 t4 : Tok} (l : IsL s.heap a #[.bytes x.toArray t1, .bytes y.toArray t2] n) (l' : IsL s.heap b #[.bytes z.toArray t3, .bytes q.toArray t4] m)
    (hu : A.units < cLine) (h : Q (.bool (!(x == z && y == q))) s) : wpAny (model prog w) A (compareOp .NotEq (.ref a) (.ref b)) Q E s := by
  refine richCompare_meets_room (op := .NotEq) ⟨_, l, rfl⟩ ⟨_, l', rfl⟩ F.slot_list_ne F.entry_list_ne (F.args_list_ne_2 _ _)
    (SeqAt.list_neAt a b #[.bytes x.toArray t1, .bytes y.toArray t2] #[.bytes z.toArray t3, .bytes q.toArray t4] n m none none #[] #[] rfl fun j => match j with | 0 => x == z | _ => y == q) ⟨l, l', fun j h1 h2 => ?_, (fun x => nomatch x), ?_⟩ hu
  · match j, h1 with
    | 0, _ => exact fun prog w E Q hq => eqB_bytes (a := x) (b := z) hq
    | 1, _ => exact fun prog w E Q hq => eqB_bytes (a := y) (b := q) hq
  · rw [show (List.range #[Value.bytes x.toArray t1, Value.bytes y.toArray t2].size).all (fun j => match j with | 0 => x == z | _ => y == q) = (x == z && y == q) from by
      show ((x == z) && ((y == q) && true)) = _
      rw [Bool.and_true]]
    exact h
theorem p_eq {x y : D} (hu : A.units + 64 < cLine) (hx : DenT s.heap V v x) (hy : DenT s.heap V u y) (p : pEq x y KB) (h : ∀ b, KB b → Q (.bool b) s) : wpAny (model prog w) A (compareOp .Eq v u) Q E s := by
  have fin : (∃ p q, x = ofPy p ∧ y = ofPy q ∧ SeqAt.shaped p = true ∧ SeqAt.shaped q = true ∧ KB (PyData.eqv p q)) → wpAny (model prog w) A (compareOp .Eq v u) Q E s := by
    rintro ⟨p', q, rfl, rfl, s1, s2, k⟩
    obtain ⟨as, r⟩ := den_py p' v (Bool.and_eq_true_iff.mp s1).1 hx
    obtain ⟨bs, r'⟩ := den_py q u (Bool.and_eq_true_iff.mp s2).1 hy
    exact eq_dataH r r' s1 s2 hu (h _ k)
  cases x with
  | int a =>
    obtain ⟨t, rfl⟩ := hx
    obtain ⟨b, rfl, p⟩ := isI_elim p
    obtain ⟨t', rfl⟩ := hy
    exact PyProof.Rows.eq_int (h _ p)
  | str a =>
    obtain ⟨t, rfl⟩ := hx
    cases y with
    | str y => obtain ⟨t', rfl⟩ := hy; exact PyProof.Rows.eq_str (h _ p)
    | _ => exact p.elim
  | bytes a =>
    obtain ⟨t, rfl⟩ := hx
    obtain ⟨b, rfl, p⟩ := isB_elim p
    obtain ⟨t', rfl⟩ := hy
    exact PySem.W.eq_bytes (b := a.toArray) (c := b.toArray) (h _ p)
  | _ => exact fin p
theorem p_ne {x y : D} (hu : A.units + 64 < cLine) (hx : DenT s.heap V v x) (hy : DenT s.heap V u y) (p : pEq x y fun r => KB (!r)) (h : ∀ b, KB b → Q (.bool b) s) : wpAny (model prog w) A (compareOp .NotEq v u) Q E s := by
  have fin : (∃ p q, x = ofPy p ∧ y = ofPy q ∧ SeqAt.shaped p = true ∧ SeqAt.shaped q = true ∧ KB (!PyData.eqv p q)) → wpAny (model prog w) A (compareOp .NotEq v u) Q E s := by
    rintro ⟨p', q, rfl, rfl, s1, s2, k⟩
    obtain ⟨as, r⟩ := den_py p' v (Bool.and_eq_true_iff.mp s1).1 hx
    obtain ⟨bs, r'⟩ := den_py q u (Bool.and_eq_true_iff.mp s2).1 hy
    exact ne_dataH r r' s1 s2 hu (h _ k)
  cases x with
  | int a =>
    obtain ⟨t, rfl⟩ := hx
    obtain ⟨b, rfl, p⟩ := isI_elim p
    obtain ⟨t', rfl⟩ := hy
    exact PyProof.Rows.ne_int (h _ p)
  | str a =>
    obtain ⟨t, rfl⟩ := hx
    cases y with
    | str y => obtain ⟨t', rfl⟩ := hy; exact PyProof.Rows.ne_str (h _ p)
    | _ => exact p.elim
  | bytes a =>
    obtain ⟨t, rfl⟩ := hx
    obtain ⟨b, rfl, p⟩ := isB_elim p
    obtain ⟨t', rfl⟩ := hy
    exact PySem.W.ne_bytes (b := a.toArray) (c := b.toArray) (h _ p)
  | _ => exact fin p
theorem den_isN {h : Heap} {x : D} (hx : DenT h V v x) : (v == .none) = isN x := by
  cases x <;> first
    | (cases hx; rfl)
    | (obtain ⟨t, rfl⟩ := hx; rfl)
    | (obtain ⟨t, a, rfl, _⟩ := hx; rfl)
    | exact hx.elim
theorem p_cmp {op : CmpOp} {x y : D} (hu : A.units + 64 < cLine) (hx : DenT s.heap V v x) (hy : DenT s.heap V u y) (p : pCmp op x y KB) (h : ∀ b, KB b → Q (.bool b) s) :
    wpAny (model prog w) A (compareOp op v u) Q E s := by
  have hI : ∀ {P : Int → Int → Prop}, (isI x fun a => isI y fun b => P a b) → ∃ a b t r, v = .int a t ∧ u = .int b r ∧ P a b := fun z => by
    obtain ⟨a, rfl, z1⟩ := isI_elim z
    obtain ⟨b, rfl, z2⟩ := isI_elim z1
    obtain ⟨t, rfl⟩ := hx
    obtain ⟨r, rfl⟩ := hy
    exact ⟨_, _, _, _, rfl, rfl, z2⟩
  cases op
  case Eq => exact p_eq hu hx hy p h
  case NotEq =>
    rcases p with p | ⟨a, b, c, d, rfl, rfl, p⟩
    · exact p_ne hu hx hy p h
    · obtain ⟨l, vs, rfl, ⟨n, i⟩, r⟩ := hx
      obtain ⟨l', vs', rfl, ⟨n', i'⟩, r'⟩ := hy
      cases r with | cons a1 r => cases r with | cons a2 r =>
      cases r' with | cons b1 r' => cases r' with | cons b2 r' =>
      cases r; cases r'
      obtain ⟨_, rfl⟩ := Den.t a1
      obtain ⟨_, rfl⟩ := Den.t a2
      obtain ⟨_, rfl⟩ := Den.t b1
      obtain ⟨_, rfl⟩ := Den.t b2
      exact ne_two i i' (by omega) (h _ p)
  case Lt => obtain ⟨a, b, t, r, rfl, rfl, p⟩ := hI p; exact PyProof.Rows.lt_int (h _ p)
  case LtE => obtain ⟨a, b, t, r, rfl, rfl, p⟩ := hI p; exact PyProof.Rows.le_int (h _ p)
  case Gt => obtain ⟨a, b, t, r, rfl, rfl, p⟩ := hI p; exact PyProof.Rows.gt_int (h _ p)
  case GtE => obtain ⟨a, b, t, r, rfl, rfl, p⟩ := hI p; exact PyProof.Rows.ge_int (h _ p)
  case Is => obtain ⟨rfl, p⟩ := p; cases hy; exact is_none (by rw [den_isN hx]; exact h _ p)
  case IsNot => obtain ⟨rfl, p⟩ := p; cases hy; exact isNot_none (by rw [den_isN hx]; exact h _ p)
  all_goals exact p.elim
end
end Mine
end
section
-- U6
set_option linter.unusedVariables false
set_option maxRecDepth 100000
namespace Mine
open PySem PySem.Calls PyProof.Rows PySem.W
section
variable {prog : Program} {w : World} {A : Around} {E : Value → Shared → Prop} {s : Shared} {V : AP} {Q : Value → Shared → Prop} {K : D → Prop} {v u : Value}
theorem big : (4096 : Nat) ≤ sizeLine := by rw [sizeLine_eq]; decide
theorem seq_at {i : Int} {n : Nat} (h0 : 0 ≤ i) (h1 : i < n) : seqIndex? i n = some i.toNat := by
  have hn : ¬ i < 0 := by omega
  simp [seqIndex?, hn, h0, h1]
/-- an item -/
theorem p_idx {x y : D} (hx : DenT s.heap V v x) (hy : DenT s.heap V u y) (p : pIdx x y K) (h : ∀ v s' d, GStep s s' → Den s'.heap V v d → K d → Q v s') :
    wpAny (model prog w) A (getItem v u) Q E s := by
  obtain ⟨i, rfl, h0, p⟩ := isI_elim p
  obtain ⟨t, rfl⟩ := hy
  cases x with
  | list l =>
    obtain ⟨a, vs, rfl, ⟨n, q⟩, r⟩ := hx
    obtain ⟨h1, z, k⟩ := p
    obtain ⟨v, e, dv⟩ := Mine.Paired.at (z := WData.none) r i.toNat (by omega)
    exact wpAny_getItem_list ⟨_, q, rfl, n, rfl⟩ h0 (by omega) (by simpa using e) (h _ _ _ (.tok s s.toks) dv k)
  | tuple l =>
    obtain ⟨a, vs, rfl, ⟨n, q⟩, r, _⟩ := hx
    obtain ⟨h1, z, k⟩ := p
    obtain ⟨v, e, dv⟩ := Mine.Paired.at (z := WData.none) r i.toNat (by omega)
    have := Paired.length r
    exact P.getItem_tuple q (by omega) (by omega) (seq_at h0 (by simp only [List.size_toArray]; omega)) (by simpa using e) (h _ _ _ (.tok s s.toks) dv k)
  | bytes l =>
    obtain ⟨r, rfl⟩ := hx
    obtain ⟨h1, z, k⟩ := p
    exact getItem_bytes (by omega) h0 h1 (h _ _ _ (.tok _ _) (.int _ _) k)
  | _ => exact p.elim
theorem ty_idx {x y : D} (hx : DenT s.heap V v x) (p : pIdx x y K) : ∃ T id, s.TypeIs v T ∧ typeLookup (.type T) "__getitem__" = pure (some (.builtin id)) := by
  obtain ⟨i, rfl, h0, p⟩ := isI_elim p
  cases x with
  | list l => obtain ⟨a, vs, rfl, ⟨n, q⟩, r⟩ := hx; exact ⟨_, _, ⟨_, q, rfl⟩, slot_list_getitem.lookup⟩
  | tuple l => obtain ⟨a, vs, rfl, ⟨n, q⟩, r⟩ := hx; exact ⟨_, _, ⟨_, q, rfl⟩, F.slot_tuple_getitem.lookup⟩
  | bytes l => obtain ⟨r, rfl⟩ := hx; exact ⟨_, _, typeIs_bytes _ _ _, FB.slot_bytes_getitem.lookup⟩
  | _ => exact p.elim
theorem clip_nn {n : Nat} {i : Int} (h : 0 ≤ i) : clipAt n i = min i.toNat n := by
  have := clipAt_nat n i.toNat
  rwa [Int.toNat_of_nonneg h] at this
theorem cut_eq {α : Type} (l : List α) {lo hi : Option Int} (h1 : nn lo = true) (h2 : nn hi = true) :
    (l.drop (lo.elim 0 (clipAt l.length))).take (hi.elim l.length (clipAt l.length) - lo.elim 0 (clipAt l.length)) = cut l lo hi := by
  have key : ∀ (a b : Nat), (l.drop (min a l.length)).take (min b l.length - min a l.length) = (l.take b).drop a := fun a b => by
    rw [kmk_drop_min, List.drop_take]
    by_cases h : a ≤ l.length
    · rw [Nat.min_eq_left h, ← kmk_take_min _ (b - a), List.length_drop]
      rw [← kmk_take_min (l.drop a) (min b l.length - a), List.length_drop]
      congr 1; omega
    · rw [List.drop_of_length_le (by omega)]; simp
  have h1' : ∀ {k}, lo = some k → 0 ≤ k := fun e => by subst e; simpa [nn] using h1
  have h2' : ∀ {k}, hi = some k → 0 ≤ k := fun e => by subst e; simpa [nn] using h2
  have e0 : ∀ b : Nat, (l.drop 0).take (b - 0) = l.take b := fun b => by simp
  cases lo with
  | none =>
    cases hi with
    | none => simp [cut]
    | some k => simp only [Option.elim, clip_nn (h2' rfl), cut]; rw [e0, kmk_take_min]; rfl
  | some j =>
    cases hi with
    | none =>
      simp only [Option.elim, clip_nn (h1' rfl), cut]
      have := key j.toNat l.length
      rw [Nat.min_self, List.take_length] at this; exact this
    | some k => simp only [Option.elim, clip_nn (h1' rfl), clip_nn (h2' rfl), cut]; exact key _ _
theorem den_cut {h : Heap} {vs : List Value} {ds : List D} (r : DenL h V vs ds) (lo hi : Option Int) : DenL h V (cut vs lo hi) (cut ds lo hi) := by
  unfold cut
  cases hi <;> cases lo <;> first | exact Mine.Paired.dr _ (Mine.Paired.tk _ r) | exact Mine.Paired.dr _ r
noncomputable abbrev slObj (l u st : Value) : Obj := { cls := .type "slice", data := .fields #[l, u, st] }
/-- the slice stands made; then the cut -/
theorem p_slc {x : D} {lo hi : Option Int} {vl vu : Value} (lv : Live V s.heap) (hx : DenT s.heap V v x) (pl : IsPart vl lo) (pu : IsPart vu hi) (p : pSlc x lo hi K) (h : ∀ v s' d, GStep s s' → Den s'.heap V v d → K d → Q v s') :
    wpAny (model prog w) A (getItem v (.ref s.heap.objs.size)) Q E { s with heap := s.heap.push (slObj vl vu .none) } := by
  obtain ⟨n1, n2, p⟩ := p
  cases x with
  | list l =>
    obtain ⟨a, vs, rfl, ⟨n, q⟩, r⟩ := hx
    have len := Paired.length r
    have q' := Heap.get?_push_of_some (slObj vl vu .none) q
    refine wpAny_getItem_list_slice ⟨_, q', rfl, n, rfl⟩ (Heap.IsSliceOf.new _ _ _ _) pl pu .none (fun e => nomatch e) ?_ (Nat.le_trans (by have := p.1; simp only [List.size_toArray]; omega) big)
    have e : slicePick vs.toArray lo hi none = (cut vs lo hi).toArray := by rw [slicePick_plain, List.size_toArray, ← cut_eq vs n1 n2]
    rw [e]
    have st : Stays s.heap (s.heap.push (slObj vl vu .none)) := fun _ _ e => Heap.get?_push_of_some _ e
    have lv' : Live V (s.heap.push (slObj vl vu .none)) := fun a x => let ⟨o, e⟩ := lv a x; ⟨o, st _ _ e⟩
    exact h _ _ _ ⟨_, _, rfl, fun b o e => Heap.get?_push_of_some _ (st b o e)⟩ (den_list (s := { s with heap := s.heap.push (slObj vl vu .none) }) lv' (den_cut (Mine.Paired.imp (fun _ _ z => Den.stays st z) r) lo hi)) p.2
  | bytes l =>
    obtain ⟨r, rfl⟩ := hx
    refine getItem_meets (typeIs_bytes _ _ _) (by decide) FB.slot_bytes_getitem FB.entry_bytes_getitem (FB.args_bytes_getitem_2 _ _) (KBc.meets_slice2 l.toArray r _ pl pu) ⟨Heap.IsSliceOf.new _ _ _ _, ?_, fun t' k => ?_⟩
    · exact Nat.le_trans (KBc.size_picked_le _ _ _) (Nat.le_trans (by simpa using p.1) big)
    · have e : KBy.picked l.toArray lo hi = (cut l lo hi).toArray := by
        apply Array.ext'
        rw [KBc.picked_eq, ← cut_eq l n1 n2]
        simp
      rw [e]
      exact h _ _ _ ⟨_, _, rfl, fun _ _ e => Heap.get?_push_of_some _ e⟩ (.bytes _ _) p.2
  | _ => exact p.elim
theorem ty_slc {x : D} {lo hi : Option Int} (hx : DenT s.heap V v x) (p : pSlc x lo hi K) : ∃ T id, s.TypeIs v T ∧ typeLookup (.type T) "__getitem__" = pure (some (.builtin id)) := by
  cases x with
  | list l => obtain ⟨a, vs, rfl, ⟨n, q⟩, r⟩ := hx; exact ⟨_, _, ⟨_, q, rfl⟩, slot_list_getitem.lookup⟩
  | bytes l => obtain ⟨r, rfl⟩ := hx; exact ⟨_, _, typeIs_bytes _ _ _, FB.slot_bytes_getitem.lookup⟩
  | _ => exact p.2.2.elim
end
end Mine
end
section
-- U7
set_option linter.unusedVariables false
set_option maxRecDepth 100000
namespace Mine
open PySem PySem.Calls PyProof.Rows PySem.W
section
open Builtin
theorem rev_bytes (l : List UInt8) (t : Tok) (a : Addr) (u : Tok) :
    Meets («bytes.__getitem__» ⟨[.bytes l.toArray t, .ref a], []⟩) (fun _ R s => s.heap.IsSliceOf a .none .none (.int (-1) u) ∧ l.length ≤ sizeLine ∧ ∀ t' k, R (.ok (.ret (.bytes l.reverse.toArray t'))) { s with toks := k }) := by
  refine .of_wp fun prog w A R s hS => ?_
  obtain ⟨⟨o, ho, hc, hd⟩, hsz, h⟩ := hS
  have hT : s.TypeIs (.ref a) "slice" := ⟨o, ho, hc⟩
  show wpAny _ _ (Bytes.payload (.bytes l.toArray t) >>= fun r => _) _ _ s
  refine wpAny_bind (wpAny_of_eq (a := l.toArray) rfl ?_)
  show wpAny _ _ (Bytes.subscript? (.ref a) >>= fun r => _) _ _ s
  refine wpAny_bind ?_
  unfold Bytes.subscript?
  refine wpAny_bind (wpAny_specialOf hT slice_no_index (wpAny_pure ?_))
  refine wpAny_bind (wpAny_typeOf hT ?_)
  show wpAny _ _ (Bytes.sliceParts (.ref a) >>= fun r => _) _ _ s
  refine wpAny_bind ?_
  unfold Bytes.sliceParts
  refine wpAny_bind (wpAny_field (x := .int (-1) u) ho hd rfl ?_)
  refine wpAny_bind (wpAny_ite (KBy.ite_no (show ¬ ((Value.int (-1) u == Value.none) = true) from Bool.false_ne_true) ?_))
  refine wpAny_bind (wpAny_specialOf (T := "int") (typeIs_int _ _ _) F.slot_int_index.lookup ?_)
  refine wpAny_ite (KBy.ite_no (show ¬ (Option.isNone (some _) = true) from Bool.false_ne_true) ?_)
  refine wpAny_bind (wpAny_of_eq rfl (wpAny_pure ?_))
  refine wpAny_ite (KBy.ite_no (show ¬ ((rawInt (-1) == rawInt 0) = true) from by decide) ?_)
  refine wpAny_bind (wpAny_field (x := .none) ho hd rfl ?_)
  refine wpAny_bind (wpAny_of_eq (a := Value.none) rfl ?_)
  refine wpAny_bind (wpAny_field (x := .none) ho hd rfl ?_)
  refine wpAny_bind (wpAny_of_eq (a := Value.none) rfl (wpAny_pure ?_))
  refine wpAny_bind (wpAny_of_eq (sliceIndices_raw none none (some (-1)) l.toArray.size (fun e => nomatch e)) ?_)
  rw [krv_bounds]
  refine wpAny_ite (KBy.ite_no (show ¬ _ from by simp) ?_)
  have e : Bytes.sliced l.toArray ((l.toArray.size : Int) - 1) (-1) (-1) = l.reverse.toArray := by
    unfold Bytes.sliced
    rw [krv_sliceRange, krv_range, List.filterMap_reverse, krv_all]
  rw [e]
  exact wpAny_bind (wpAny_mkBytes (wpAny_pure ⟨_, rfl, h _ _⟩) (by simpa using hsz))
end
section
variable {prog : Program} {w : World} {A : Around} {E : Value → Shared → Prop} {s : Shared} {V : AP} {Q : Value → Shared → Prop} {K : D → Prop} {v u : Value}
theorem p_rev {x : D} {tk : Tok} (lv : Live V s.heap) (hx : DenT s.heap V v x) (p : pRev x K) (h : ∀ v s' d, GStep s s' → Den s'.heap V v d → K d → Q v s') :
    wpAny (model prog w) A (getItem v (.ref s.heap.objs.size)) Q E { s with heap := s.heap.push (slObj .none .none (.int (-1) tk)) } := by
  cases x with
  | list l =>
    obtain ⟨a, vs, rfl, ⟨n, q⟩, r⟩ := hx
    have len := Paired.length r
    have q' := Heap.get?_push_of_some (slObj .none .none (.int (-1) tk)) q
    refine wpAny_getItem_list_slice ⟨_, q', rfl, n, rfl⟩ (Heap.IsSliceOf.new _ _ _ _) .none .none (.int _ _) (fun e => nomatch e) ?_ (Nat.le_trans (by have := p.1; simp only [List.size_toArray]; omega) big)
    rw [krv_pick]
    have st : Stays s.heap (s.heap.push (slObj .none .none (.int (-1) tk))) := fun _ _ e => Heap.get?_push_of_some _ e
    have lv' : Live V (s.heap.push (slObj .none .none (.int (-1) tk))) := fun a x => let ⟨o, e⟩ := lv a x; ⟨o, st _ _ e⟩
    exact h _ _ _ ⟨_, _, rfl, fun b o e => Heap.get?_push_of_some _ (st b o e)⟩ (den_list (s := { s with heap := s.heap.push (slObj .none .none (.int (-1) tk)) }) lv' (Mine.Paired.rev (Mine.Paired.imp (fun _ _ z => Den.stays st z) r))) p.2
  | bytes l =>
    obtain ⟨r, rfl⟩ := hx
    refine getItem_meets (typeIs_bytes _ _ _) (by decide) FB.slot_bytes_getitem FB.entry_bytes_getitem (FB.args_bytes_getitem_2 _ _) (rev_bytes l _ _ tk) ⟨Heap.IsSliceOf.new _ _ _ _, Nat.le_trans p.1 big, fun t' k => ?_⟩
    exact h _ _ _ ⟨_, _, rfl, fun _ _ e => Heap.get?_push_of_some _ e⟩ (.bytes _ _) p.2
  | _ => exact p.elim
theorem ty_rev {x : D} (hx : DenT s.heap V v x) (p : pRev x K) : ∃ T id, s.TypeIs v T ∧ typeLookup (.type T) "__getitem__" = pure (some (.builtin id)) := by
  cases x with
  | list l => obtain ⟨a, vs, rfl, ⟨n, q⟩, r⟩ := hx; exact ⟨_, _, ⟨_, q, rfl⟩, slot_list_getitem.lookup⟩
  | bytes l => obtain ⟨r, rfl⟩ := hx; exact ⟨_, _, typeIs_bytes _ _ _, FB.slot_bytes_getitem.lookup⟩
  | _ => exact p.elim
theorem ints_are {h : Heap} {ns : List Int} {vs : List Value} (r : DenL h V vs (ns.map .int)) : IntsAre vs ns := by
  induction ns generalizing vs with
  | nil => cases r; exact .nil
  | cons n ns ih => cases r with | cons a r => obtain ⟨t, rfl⟩ := Den.t a; exact .cons _ _ (ih r)
theorem byteArr_eq (ns : List Int) : byteArr ns = (ns.map fun n => n.toNat.toUInt8).toArray := rfl
theorem den_ints {h : Heap} {ns : List Int} {vs : List Value} (r : IntsAre vs ns) : DenL h V vs (ns.map .int) := by
  induction ns generalizing vs with
  | nil => cases r; exact .nil
  | cons n ns ih => cases r with | cons _ _ r => exact .cons (.int _ _) (ih r)
theorem sum_of {h : Heap} {l : Addr} {ns : List Int} {vs : List Value} {n : Nat} (hh : A.handled = none) (q : IsL s.heap l vs.toArray n) (r : IntsAre vs ns)
    (h : ∀ h' t k, Stays s.heap h' → Q (.int ns.sum t) { s with heap := h', toks := k }) : wpAny (model prog w) A (call (.builtin "sum") [.ref l]) Q E s := by
  obtain ⟨xs, e⟩ := r.allInts.items
  rw [e] at q
  have key : preSum (numAt xs) xs.size = ns.sum := by
    rw [preSum_eq, List.take_of_length_le (by simp), ← nums_intItems, ← e]; exact congrArg List.sum r.numsOf
  exact sum_intListG hh ⟨_, q, rfl, n, rfl⟩ fun h' tk t' k => by rw [key]; exact h h' t' tk k
theorem ints_of : ∀ (l : List UInt8) (vs : List Value), vs.length = l.length → (∀ (i : Nat) (v : Value), vs[i]? = some v → ∃ (c : UInt8) (u : Tok), l[i]? = some c ∧ v = Value.int ((c : UInt8).toNat : Int) u) → IntsAre vs (l.map fun c => (c.toNat : Int))
  | [], [], _, _ => .nil
  | c :: l, v :: vs, e, h => by
    obtain ⟨c', u, e1, rfl⟩ := h 0 v rfl
    cases e1
    exact .cons _ _ (ints_of l vs (by simpa using e) fun i v q => h (i + 1) v q)
/-- list() of bytes -/
theorem list_bytes {l : List UInt8} {t : Tok} (hh : A.handled = none) (z : l.length ≤ 4096)
    (h : ∀ h' vs k n, Stays s.heap h' → IsL h' s.heap.objs.size vs.toArray n → IntsAre vs (l.map fun c => (c.toNat : Int)) → Q (.ref s.heap.objs.size) { s with heap := h', toks := k }) :
    wpAny (model prog w) A (call (.type "list") [.bytes l.toArray t]) Q E s := by
  refine callType_codes (Q₁ := fun obj s₁ => obj = .ref s.heap.objs.size ∧ s₁ = { s with heap := s.heap.push { cls := .type "list", data := .seq #[] } }) PySem.F.called_list (PySem.F.typeCall_list_1 _) PySem.F.entry_list_init
    (code_list_new _ ⟨rfl, rfl⟩) fun obj s₁ h₁ => ?_
  obtain ⟨rfl, rfl⟩ := h₁
  have hS : (s.heap.push { cls := .type "list", data := .seq #[] }).get? s.heap.objs.size = some { cls := .type "list", data := .seq #[] } := Heap.get?_push_size _ rfl
  refine ⟨⟨_, hS, rfl⟩, PySem.F.args_list_init_2 _ _, ?_⟩
  generalize hs0 : s.heap.objs.size = S at hS h ⊢
  have kp : ∀ b o, s.heap.get? b = some o → (s.heap.push { cls := .type "list", data := .seq #[] }).get? b = some o ∧ b ≠ S := fun b o e => ⟨Heap.get?_push_of_some _ e, by rw [← hs0]; exact Nat.ne_of_lt (Heap.lt_size e)⟩
  generalize s.heap.push { cls := .type "list", data := .seq #[] } = H at hS kp ⊢
  show wpAny _ _ (do let old ← Builtin.List.listItems (.ref S); Builtin.List.listUpdate (.ref S) (fun _ => #[]); letGo old.toList.reverse; Builtin.List.listExtendWith (.ref S) (.bytes l.toArray t) .none) _ _ _
  refine wpAny_bind ?_
  unfold Builtin.List.listItems
  refine wpAny_bind (wpAny_seqItems hS rfl (wpAny_pure ?_))
  show wpAny _ _ (updateSeq S (fun _ => #[]) >>= fun _ => letGo (#[] : Array Value).toList.reverse >>= fun _ => Builtin.List.listExtendWith (.ref S) (.bytes l.toArray t) .none) _ _ _
  refine wpAny_bind (wpAny_updateSeq hS rfl ?_)
  have hS₂ := Heap.get?_update_self (Obj.mapSeq (fun _ => (#[] : Array Value))) hS rfl
  have oth : ∀ b o, s.heap.get? b = some o → (H.update S (Obj.mapSeq (fun _ => (#[] : Array Value)))).get? b = some o ∧ b ≠ S :=
    fun b o e => ⟨(Heap.get?_update_other _ _ (Ne.symm (kp b o e).2)).trans (kp b o e).1, (kp b o e).2⟩
  refine wpAny_bind (wpAny_letGo ?_)
  generalize H.update S (Obj.mapSeq (fun _ => (#[] : Array Value))) = H₂ at hS₂ oth ⊢
  have hSI : S ≠ H₂.objs.size := Nat.ne_of_lt (Heap.lt_size hS₂)
  have hSf : S ∉ [H₂.objs.size] := fun hm => hSI (List.mem_singleton.mp hm)
  unfold Builtin.List.listExtendWith
  refine wpAny_bind (wpAny_typeOf (T := "bytes") (v := .bytes l.toArray t) rfl ?_)
  have h1 : Builtin.List.listSameRef (.ref S) (.bytes l.toArray t) = false := rfl
  have h2 : (Value.type "bytes" == Value.type "list") = false := by decide
  have h3 : (Value.type "bytes" == Value.type "tuple") = false := by decide
  simp only [h1, h2, h3, Bool.or_false, Bool.false_eq_true, if_false]
  refine wpAny_bind (KBw.pyIter_bytes ?_)
  refine wpAny_bind (wpAny_holding ?_)
  unfold Builtin.List.listLengthHint
  refine wpAny_bind (wpAny_specialOf (T := "bytes") (v := .bytes l.toArray t) rfl FB.slot_bytes_len.lookup ?_)
  wp_delta
  refine wpAny_bind (wpAny_isInstance (T := "bytes") (v := .bytes l.toArray t) (b := true) rfl (by rw [isSubtype_type]; kernel_rfl) ?_)
  show wpAny _ _ (typeOf (Value.bytes l.toArray t) >>= _) _ _ _
  refine wpAny_bind (wpAny_typeOf (T := "bytes") (v := .bytes l.toArray t) rfl ?_)
  refine wpAny_pure ?_
  rw [if_neg (by decide)]
  refine wpAny_pure ⟨plainId_quiet PySem.F.plain_extend_loop _, codeAny_extend_loopS (A := A.in1) (KBw.walks (A := A.in1.in1) hh H₂.objs.size l.toArray t).toS (Nat.le_trans (by simpa using z) big) _ hSf _ l.toArray.size 0 _ _ _ rfl (Nat.zero_le _) ⟨_, Heap.get?_push_size _ rfl, rfl, rfl⟩ (Heap.get?_push_of_some _ hS₂) (ItemsOf.nil _) fun s' acc' c' hm hS' hacc => ?_⟩
  rw [Moved.eq_with hm]
  refine ⟨rfl, ?_⟩
  have e' : acc' = acc'.toList.toArray := by simp
  refine h s'.heap acc'.toList s'.toks c' (fun b ob e => hm.heap b ob (fun hmem => ?_) (Heap.get?_push_of_some _ (oth b ob e).1)) (by rw [Array.toArray_toList]; exact hS') (ints_of l _ (by rw [Array.length_toList]; simpa using hacc.1) fun i v q => ?_)
  · rcases List.mem_cons.mp hmem with e' | hmem
    · exact (oth b ob e).2 e'
    · exact absurd (Heap.lt_size (oth b ob e).1) (by rw [List.mem_singleton.mp hmem]; exact Nat.lt_irrefl _)
  · obtain ⟨c, u, q1, q2⟩ := hacc.2 i v (by rw [← Array.getElem?_toList]; exact q)
    exact ⟨c, u, by simpa using q1, q2⟩
/-- a call of a built-in, by number -/
theorem p_bi {f : Nat} {x : D} (hh : A.handled = none) (lv : Live V s.heap) (hx : DenT s.heap V v x) (p : pBi f x K) (h : ∀ v s' d, GStep s s' → Den s'.heap V v d → K d → Q v s') :
    wpAny (model prog w) A (call (biVal f) [v]) Q E s := by
  match f with
  | 0 =>
    cases x with
    | list l =>
      obtain ⟨a, vs, rfl, ⟨n, q⟩, r⟩ := hx
      have len := Paired.length r
      have p1 := p.1
      refine call_len_list ⟨_, q, rfl, n, rfl⟩ (by simp only [List.size_toArray]; omega) ?_
      rw [List.size_toArray, len]
      exact h _ _ _ (.tok _ _) (.int _ _) p.2
    | tuple l =>
      obtain ⟨a, vs, rfl, ⟨n, q⟩, r, _⟩ := hx
      have len := Paired.length r
      have p1 := p.1
      refine P.len_tuple q (by simp only [List.size_toArray]; omega) ?_
      rw [List.size_toArray, len]
      exact h _ _ _ (.tok _ _) (.int _ _) p.2
    | bytes l =>
      obtain ⟨r, rfl⟩ := hx
      exact len_bytes (by have := p.1; simp only [List.size_toArray]; omega) (h _ _ _ (.tok _ _) (.int _ _) p.2)
    | _ => exact p.elim
  | 1 =>
    obtain ⟨ns, rfl, z, b, p⟩ := p
    obtain ⟨a, vs, rfl, ⟨n, q⟩, r⟩ := hx
    have len := Paired.length r
    refine call_bytes_ints ⟨_, q, rfl, n, rfl⟩ (ints_are r) b (Nat.le_trans (by simpa [len] using z) big) hh fun h' t k st => ?_
    exact h _ _ _ ⟨_, _, rfl, st⟩ (.bytes _ _) p
  | 2 =>
    cases x with
    | list l =>
      obtain ⟨a, vs, rfl, ⟨n, q⟩, r⟩ := hx
      have len := Paired.length r
      refine call_list_seq a (.inl rfl) q rfl rfl (fun h' c' st e => ?_) (Nat.le_trans (by have := p.1; simp only [List.size_toArray]; omega) big)
      exact h _ _ _ ⟨_, s.toks, rfl, st⟩ (.list ⟨_, e⟩ lv.top (Mine.Paired.imp (fun _ _ z => Den.stays st z) r)) p.2
    | bytes l =>
      obtain ⟨r, rfl⟩ := hx
      refine list_bytes hh p.1 fun h' vs k n st e i => ?_
      have i' := den_ints (V := V) (h := h') i
      rw [List.map_map] at i'
      exact h _ _ _ ⟨_, _, rfl, st⟩ (.list ⟨_, e⟩ lv.top i') p.2
    | _ => exact p.elim
  | 3 =>
    cases x with
    | tuple l =>
      obtain ⟨a, vs, rfl, ⟨n, q⟩, r, nv⟩ := hx
      exact call_tuple_tup ⟨_, q, rfl, n, rfl⟩ (h _ _ _ (.tok s s.toks) (.tup ⟨_, q⟩ nv r) p)
    | _ => exact p.elim
  | 4 =>
    obtain ⟨ns, rfl, p⟩ := p
    obtain ⟨a, vs, rfl, ⟨n, q⟩, r⟩ := hx
    exact sum_of (h := s.heap) hh q (ints_are r) fun h' t k st => h _ _ _ ⟨_, _, rfl, st⟩ (.int _ _) p
  | 5 =>
    cases x with
    | int i => obtain ⟨t, rfl⟩ := hx; exact call_int_int (h _ _ _ (.tok s s.toks) (.int _ _) p)
    | bool b => cases hx; exact call_int_bool (h _ _ _ (.tok _ _) (.int _ _) p)
    | _ => exact p.elim
  | 6 =>
    obtain ⟨i, rfl, p⟩ := isI_elim p
    obtain ⟨t, rfl⟩ := hx
    refine PyProof.Rows.call_abs_int fun u tk => ?_
    have e : (if i < 0 then -i else i) = (i.natAbs : Int) := by split <;> omega
    rw [e]
    exact h _ _ _ (.tok _ _) (.int _ _) p
  | _ + 7 => exact p.elim
end
end Mine
end
section
-- U8
set_option linter.unusedVariables false
set_option maxRecDepth 100000
namespace Mine
open PySem PySem.Calls PyProof.Rows PySem.W
section
variable {W : Wd} {F : Fx} {r : Nat} {g : G} {Q : R → Prop} {X : Exc → Prop} {QB : Bool → Prop}
theorem WE_i {i : Int} {k : Nat} {p : Pos} (q : Q (.cl (.int i))) : WE W F r g (.Constant (.int i) k p) Q X := fun A s own Qs Es hA S hQ hE => wpAny_Constant_int (hQ _ _ (.cl _) (.tok _ _ _) (.int _ _) q)
theorem WE_s {i : Str} {k : Nat} {p : Pos} (q : Q (.cl (.str i))) : WE W F r g (.Constant (.str i) k p) Q X := fun A s own Qs Es hA S hQ hE => wpAny_Constant_str (hQ _ _ (.cl _) (.tok _ _ _) (.str _ _) q)
theorem WE_by {i : List UInt8} {k : Nat} {p : Pos} (q : Q (.cl (.bytes i))) : WE W F r g (.Constant (.bytes i) k p) Q X := fun A s own Qs Es hA S hQ hE => Constant_bytes (hQ _ _ (.cl _) (.tok _ _ _) (.bytes _ _) q)
theorem WE_n {k : Nat} {p : Pos} (q : Q (.cl .none)) : WE W F r g (.Constant .none k p) Q X := fun A s own Qs Es hA S hQ hE => wpAny_Constant_none (hQ _ _ (.cl _) (.refl _ _) .none q)
theorem WE_t {b : Bool} {k : Nat} {p : Pos} (q : Q (.cl (.bool b))) : WE W F r g (.Constant (.bool b) k p) Q X := fun A s own Qs Es hA S hQ hE => wpAny_Constant_bool (hQ _ _ (.cl _) (.refl _ _) (.bool _) q)
theorem load_v (B : W.Ok) (O : F.Ok W) {A : Around} {s : Shared} {own : Own} {Qs : Value → Shared → Prop} {Es : Value → Shared → Prop} (S : St W F own g s.heap) {i : Nat} {l : L} (e : g.get i = some l)
    (h : i < 128 → ∀ v, LDen F own s.heap i v l → Qs v s) : wpAny W.M A (loadName F.env (W.nm i)) Qs Es s := by
  obtain ⟨m, ns, rd⟩ := S.rd
  obtain ⟨hi, v, a, ld⟩ := rd i l e
  rcases a with ⟨k, a⟩ | ⟨k | k, c, lc, ic⟩
  · exact wpAny_loadName_local O.kind k ns a (h hi v ld)
  · exact wpAny_loadName_cell O.kind k lc ic (h hi v ld)
  · exact wpAny_loadName_free O.kind k lc ic (h hi v ld) (B.dbg i hi).2
theorem WE_v (B : W.Ok) (O : F.Ok W) {i : Nat} {p : Pos} (q : match g.get i with | some (.v d) => Q (.cl d) | some (.o l) => Q (.ow i l) | none => False) : WE W F r g (.Name (W.nm i) p) Q X := fun A s own Qs Es hA S hQ hE => by
  cases e : g.get i with
  | none => rw [e] at q; exact q.elim
  | some l =>
    rw [e] at q
    have hi : i < 128 := (S.rd.elim fun m z => (z.2 i l e).1)
    refine wpAny_Name (load_v B O S e fun _ v ld => ?_) (B.dbg i hi).1
    cases l with
    | v d => exact hQ _ _ (.cl d) (.refl _ _) ld q
    | o l => exact hQ _ _ (.ow i l) (.refl _ _) ld q
/-- a name of the top that holds data -/
noncomputable def GlobOk (W : Wd) (x : Str) (d : D) : Prop := (x == ("__debug__" : Str)) = false ∧ ∃ v, W.mg x = some v ∧ Den W.hb (fun a => W.hb.get? a = none) v d
theorem glob_den {own : Own} {h : Heap} (O : F.Ok W) (S : St W F own g h) {v : Value} {d : D} (x : Den W.hb (fun a => W.hb.get? a = none) v d) : Den h (Vf F own) v d :=
  x.keep' (Keep.of_stays S.base noA noA) (fun _ f => f.elim) (fun _ f => f.elim) fun a y => .inl (by rcases y with y | y | ⟨i, y⟩ <;> first | exact O.new a (.inl y) | exact O.new a (.inr y) | exact (S.own2 i a y).2.2)
theorem WE_g (B : W.Ok) (O : F.Ok W) {x : Str} {p : Pos} (hk : F.env.kindOf x = some .globalImplicit) (q : ∃ d, GlobOk W x d ∧ Q (.cl d)) : WE W F r g (.Name x p) Q X := fun A s own Qs Es hA S hQ hE => by
  obtain ⟨d, ⟨nd, v, hv, dv⟩, q⟩ := q
  refine Name_function_global O.kind hk (loadGlobal_global (mg := W.mg) (by rw [O.gl]; exact B.nsg.keeps S.base) hv (hQ _ _ (.cl d) (.refl _ _) (glob_den O S dv) q)) nd
theorem AOk.u {A : Around} (hA : AOk F r A) : A.units + 64 < cLine := by have := hA.2.2.2; omega
theorem WE_bin (O : F.Ok W) {l m : Expr} {op : Operator} {p : Pos} (h : WE W F r g l (fun x => WE W F r g m (fun y => pBin op x.d y.d fun d => Q (.cl d)) X) X) : WE W F r g (.BinOp l op m p) Q X :=
  fun A s own Qs Es hA S hQ hE => wpAny_BinOp (WX.seq O h hA S hE fun v s₁ x st₁ S₁ rx q₁ hE₁ => WX.seq O q₁ hA S₁ hE₁ fun u s₂ y st₂ S₂ ry q₂ hE₂ =>
    p_bin S₂.live (RDen.t (RDen.step O S₁ st₂ rx)) (RDen.t ry) q₂ fun v' s' d gs dd k => hQ _ _ (.cl d) (st₁.trans (st₂.trans gs.up)) dd k)
theorem WE_neg (O : F.Ok W) {l : Expr} {p : Pos} (h : WE W F r g l (fun x => isI x.d fun i => Q (.cl (.int (-i)))) X) : WE W F r g (.UnaryOp .USub l p) Q X :=
  fun A s own Qs Es hA S hQ hE => wpAny_UnaryOp (WX.seq O h hA S hE fun v s₁ x st₁ S₁ rx q₁ hE₁ => by
    obtain ⟨i, e, k⟩ := isI_elim q₁
    have t := RDen.t rx
    rw [e] at t
    obtain ⟨t, rfl⟩ := t
    exact PyProof.Rows.neg_int (hQ _ _ (.cl (.int (-i))) (st₁.trans (.tok _ _ _)) (.int _ _) k))
theorem WE_not (O : F.Ok W) {l : Expr} {p : Pos} (h : WE W F r g l (fun x => isO x.d fun i => Q (.cl (.bool (!i)))) X) : WE W F r g (.UnaryOp .Not l p) Q X :=
  fun A s own Qs Es hA S hQ hE => wpAny_UnaryOp (WX.seq O h hA S hE fun v s₁ x st₁ S₁ rx q₁ hE₁ => by
    obtain ⟨i, e, k⟩ := isO_elim q₁
    have t := RDen.t rx
    rw [e] at t
    cases t
    exact not_value (wpAny_truthy_bool (hQ _ _ (.cl (.bool (!i))) st₁ (.bool _) k)))
theorem WE_cmp (O : F.Ok W) {l m : Expr} {op : CmpOp} {p : Pos} (hm : behindInMarks op m = false) (h : WE W F r g l (fun x => WE W F r g m (fun y => pCmp op x.d y.d fun d => Q (.cl (.bool d))) X) X) : WE W F r g (.Compare l [op] [m] p) Q X :=
  fun A s own Qs Es hA S hQ hE => wpAny_Compare1 (WX.seq O h hA S hE fun v s₁ x st₁ S₁ rx q₁ hE₁ => WX.seq O q₁ hA S₁ hE₁ fun u s₂ y st₂ S₂ ry q₂ hE₂ =>
    p_cmp hA.u (RDen.t (RDen.step O S₁ st₂ rx)) (RDen.t ry) q₂ fun b k => hQ _ _ (.cl (.bool b)) (st₁.trans st₂) (.bool _) k) hm
theorem WT_cmp (O : F.Ok W) {l m : Expr} {op : CmpOp} {p : Pos} (hm : behindInMarks op m = false) (h : WE W F r g l (fun x => WE W F r g m (fun y => pCmp op x.d y.d QB) X) X) : WT W F r g (.Compare l [op] [m] p) QB X :=
  fun A s own Qs Es hA S hQ hE => wpAny_isTrue_Compare1 (WX.seq O h hA S hE fun v s₁ x st₁ S₁ rx q₁ hE₁ => WX.seq O q₁ hA S₁ hE₁ fun u s₂ y st₂ S₂ ry q₂ hE₂ =>
    p_cmp hA.u (RDen.t (RDen.step O S₁ st₂ rx)) (RDen.t ry) q₂ fun b k => wpAny_truthy_bool (hQ _ _ b (st₁.trans st₂) rfl k)) hm
theorem WT_not (O : F.Ok W) {l : Expr} {p : Pos} (h : WT W F r g l (fun b => QB (!b)) X) : WT W F r g (.UnaryOp .Not l p) QB X :=
  fun A s own Qs Es hA S hQ hE => wpAny_isTrue_Not (WX.seq O h hA S hE fun v s₁ x st₁ S₁ rx q₁ hE₁ => by subst rx; exact hQ _ _ _ st₁ rfl q₁)
theorem WE_ife (O : F.Ok W) {t a b : Expr} {p : Pos} (h : WT W F r g t (fun c => (c = true → WE W F r g a Q X) ∧ (c = false → WE W F r g b Q X)) X) : WE W F r g (.IfExp t a b p) Q X :=
  fun A s own Qs Es hA S hQ hE => wpAny_IfExp (WX.seq O h hA S hE fun v s₁ x st₁ S₁ rx q₁ hE₁ => by
    subst rx
    cases v with
    | true => exact q₁.1 rfl A s₁ own _ _ hA S₁ (fun v s' x st => hQ v s' x (st₁.trans st)) hE₁
    | false => exact q₁.2 rfl A s₁ own _ _ hA S₁ (fun v s' x st => hQ v s' x (st₁.trans st)) hE₁)
end
end Mine
end
section
-- U9
set_option linter.unusedVariables false
set_option maxRecDepth 100000
namespace Mine
open PySem PySem.Calls PyProof.Rows PySem.W
noncomputable def notStar : Expr → Bool | .Starred .. => false | _ => true
theorem star_cons {e : Expr} (h : notStar e = true) (rest : List Expr) (env : Env) : starEach (e :: rest) env = (false, eval e env) :: starEach rest env := by
  cases e <;> first | rfl | exact nomatch h
noncomputable def WEs (W : Wd) (F : Fx) (r : Nat) (g : G) (p : Pos) (es : List Expr) (Q : List D → Prop) (X : Exc → Prop) : Prop :=
  WX W F r g (fun own h vs ds => DenL h (Vf F own) vs ds ∧ vs.length = es.length) (spliced (backTo p (starEach es F.env))) Q X
/-- the links of and, or; u: and -/
noncomputable def WBO (W : Wd) (F : Fx) (r : Nat) (g : G) (u : Bool) (p : Pos) (es : List Expr) (Q : R → Prop) (X : Exc → Prop) : Prop :=
  WX W F r g (RDen F) (boolOp p (bif u then .And else .Or) (evalEach es F.env)) Q X
noncomputable def WTB (W : Wd) (F : Fx) (r : Nat) (g : G) (u : Bool) (es : List Expr) (Q : Bool → Prop) (X : Exc → Prop) : Prop :=
  WX W F r g (fun _ _ (a b : Bool) => a = b) (allTrue (bif u then .And else .Or) es F.env) Q X
section
variable {W : Wd} {F : Fx} {r : Nat} {g : G} {Q : R → Prop} {X : Exc → Prop} {QB : Bool → Prop} {QL : List D → Prop}
theorem denL_step (O : F.Ok W) {own : Own} {s s' : Shared} (st : Step F noA s s') {vs : List Value} {ds : List D} (d : DenL s.heap (Vf F own) vs ds) : DenL s'.heap (Vf F own) vs ds :=
  Mine.Paired.imp (fun _ _ z => Den.keep st.keep (fun _ f => f.elim) O.fv z) d
theorem WEs_nil {p : Pos} (q : QL []) : WEs W F r g p [] QL X := fun A s own Qs Es hA S hQ hE => wpAny_items_nil (hQ _ _ _ (.refl _ _) ⟨.nil, rfl⟩ q)
theorem WEs_cons (O : F.Ok W) {p : Pos} {e : Expr} {rest : List Expr} (he : notStar e = true) (h : WE W F r g e (fun x => isC x fun d => WEs W F r g p rest (fun ds => QL (d :: ds)) X) X) : WEs W F r g p (e :: rest) QL X :=
  fun A s own Qs Es hA S hQ hE => wpAny_items_cons (WX.seq O h hA S hE fun v s₁ x st₁ S₁ rx q₁ hE₁ => by
    obtain ⟨d, rfl, q⟩ := isC_elim q₁
    exact WX.seq O q hA S₁ hE₁ fun vs s₂ ds st₂ S₂ rd q₂ hE₂ => hQ _ _ _ (st₁.trans st₂) ⟨.cons (Den.keep st₂.keep (fun _ f => f.elim) O.fv rx) rd.1, congrArg Nat.succ rd.2⟩ q₂) (star_cons he _ _)
theorem WE_tup (O : F.Ok W) {es : List Expr} {k : Nat} {p : Pos} (z : decide (es.length ≤ 4096) = true) (h : WEs W F r g p es (fun ds => Q (.cl (.tuple ds))) X) : WE W F r g (.Tuple es k p) Q X :=
  fun A s own Qs Es hA S hQ hE => wpAny_Tuple (WX.seq O h hA S hE fun vs s₁ ds st₁ S₁ rd q₁ hE₁ =>
    ⟨by rw [rd.2]; exact Nat.le_trans (of_decide_eq_true z) big, hQ _ _ (.cl (.tuple ds)) (st₁.trans (GStep.push _ _ _).up) (den_tup S₁.live rd.1) q₁⟩)
theorem WE_lst (O : F.Ok W) {es : List Expr} {p : Pos} (z : decide (es.length ≤ 4096) = true) (h : WEs W F r g p es (fun ds => Q (.cl (.list ds))) X) : WE W F r g (.List es p) Q X :=
  fun A s own Qs Es hA S hQ hE => wpAny_List (WX.seq O h hA S hE fun vs s₁ ds st₁ S₁ rd q₁ hE₁ =>
    ⟨by rw [rd.2]; exact Nat.le_trans (of_decide_eq_true z) big, hQ _ _ (.cl (.list ds)) (st₁.trans (GStep.push _ _ _).up) (den_list S₁.live rd.1) q₁⟩)
theorem sub_ops (slice : Expr) (o i : Value) : ∃ ops, subscripted slice false o i = operate ops (getItem o i) := by
  unfold subscripted
  split <;> first | exact ⟨_, rfl⟩ | (rename_i e; cases e)
theorem WE_idx (O : F.Ok W) {a i : Expr} {p : Pos} (h : WE W F r g a (fun x => WE W F r g i (fun y => pIdx x.d y.d fun d => Q (.cl d)) X) X) : WE W F r g (.Subscript a i p) Q X :=
  fun A s own Qs Es hA S hQ hE => Subscript_ (WX.seq O h hA S hE fun v s₁ x st₁ S₁ rx q₁ hE₁ => WX.seq O q₁ hA S₁ hE₁ fun u s₂ y st₂ S₂ ry q₂ hE₂ => by
    have tx := RDen.t (RDen.step O S₁ st₂ rx)
    obtain ⟨T, id, ty, lk⟩ := ty_idx (s := s₂) tx q₂
    obtain ⟨ops, eo⟩ := sub_ops i v u
    exact tail_any ty lk (p_idx tx (RDen.t ry) q₂ fun v' s' d gs dd k => hQ _ _ (.cl d) (st₁.trans (st₂.trans gs.up)) dd k) eo)
/-- the tail of a cut -/
theorem cut_tail (O : F.Ok W) {A : Around} {s : Shared} {own : Own} {a : Expr} {sl : Expr} {v vl vu : Value} {x : R} {lo hi : Option Int} {Qs : Value → Shared → Prop} {Es : Value → Shared → Prop} (S : St W F own g s.heap) (rx : RDen F own s.heap v x)
    (pl : IsPart vl lo) (pu : IsPart vu hi) (q : pSlc x.d lo hi fun d => Q (.cl d)) (h : ∀ v s' d, Step F noA s s' → Den s'.heap (Vf F own) v d → Q (.cl d) → Qs v s') :
    wpAny W.M A (subscriptTail a sl v (.ref s.heap.objs.size)) Qs Es { s with heap := s.heap.push (slObj vl vu .none) } := by
  have st : Step F noA s { s with heap := s.heap.push (slObj vl vu .none) } := (GStep.push s (slObj vl vu .none) s.toks).up
  obtain ⟨T, id, ty, lk⟩ := ty_slc (RDen.t (RDen.step O S st rx)) q
  obtain ⟨ops, eo⟩ := sub_ops sl v (.ref s.heap.objs.size)
  exact tail_any ty lk (p_slc S.live (RDen.t rx) pl pu q fun v' s' d gs dd k => h _ _ _ gs.up dd k) eo
theorem WE_slT (O : F.Ok W) {a hi : Expr} {p p' : Pos} (h : WE W F r g a (fun x => WE W F r g hi (fun y => isI y.d fun k => pSlc x.d none (some k) fun d => Q (.cl d)) X) X) :
    WE W F r g (.Subscript a (.Slice none (some hi) none p') p) Q X :=
  fun A s own Qs Es hA S hQ hE => Subscript_ (WX.seq O h hA S hE fun v s₁ x st₁ S₁ rx q₁ hE₁ => wpAny_Slice (wpAny_pure (WX.seq O q₁ hA S₁ hE₁ fun u s₂ y st₂ S₂ ry q₂ hE₂ => wpAny_pure (by
    obtain ⟨k, e, q⟩ := isI_elim q₂
    have t := RDen.t ry
    rw [e] at t
    obtain ⟨t, rfl⟩ := t
    exact cut_tail O S₂ (RDen.step O S₁ st₂ rx) .none (.int _ _) q fun v' s' d st dd k => hQ _ _ (.cl d) (st₁.trans (st₂.trans st)) dd k))))
theorem WE_slF (O : F.Ok W) {a hi : Expr} {p p' : Pos} (h : WE W F r g a (fun x => WE W F r g hi (fun y => isI y.d fun k => pSlc x.d (some k) none fun d => Q (.cl d)) X) X) :
    WE W F r g (.Subscript a (.Slice (some hi) none none p') p) Q X :=
  fun A s own Qs Es hA S hQ hE => Subscript_ (WX.seq O h hA S hE fun v s₁ x st₁ S₁ rx q₁ hE₁ => wpAny_Slice (WX.seq O q₁ hA S₁ hE₁ fun u s₂ y st₂ S₂ ry q₂ hE₂ => wpAny_pure (wpAny_pure (by
    obtain ⟨k, e, q⟩ := isI_elim q₂
    have t := RDen.t ry
    rw [e] at t
    obtain ⟨t, rfl⟩ := t
    exact cut_tail O S₂ (RDen.step O S₁ st₂ rx) (.int _ _) .none q fun v' s' d st dd k => hQ _ _ (.cl d) (st₁.trans (st₂.trans st)) dd k))))
theorem WE_slB (O : F.Ok W) {a lo hi : Expr} {p p' : Pos} (h : WE W F r g a (fun x => WE W F r g lo (fun y => WE W F r g hi (fun z => isI y.d fun j => isI z.d fun k => pSlc x.d (some j) (some k) fun d => Q (.cl d)) X) X) X) :
    WE W F r g (.Subscript a (.Slice (some lo) (some hi) none p') p) Q X :=
  fun A s own Qs Es hA S hQ hE => Subscript_ (WX.seq O h hA S hE fun v s₁ x st₁ S₁ rx q₁ hE₁ => wpAny_Slice (WX.seq O q₁ hA S₁ hE₁ fun u s₂ y st₂ S₂ ry q₂ hE₂ =>
    WX.seq O q₂ hA S₂ hE₂ fun w s₃ z st₃ S₃ rz q₃ hE₃ => wpAny_pure (by
    obtain ⟨j, e, q⟩ := isI_elim q₃
    obtain ⟨k, e', q⟩ := isI_elim q
    have t := RDen.t ry
    rw [e] at t
    obtain ⟨t, rfl⟩ := t
    have t' := RDen.t rz
    rw [e'] at t'
    obtain ⟨t', rfl⟩ := t'
    exact cut_tail O S₃ (RDen.step O S₁ (st₂.trans st₃) rx) (.int _ _) (.int _ _) q fun v' s' d st dd k => hQ _ _ (.cl d) (st₁.trans (st₂.trans (st₃.trans st))) dd k)))
theorem WE_slR (O : F.Ok W) {a : Expr} {p p' p'' p3 : Pos} {k : Nat} (h : WE W F r g a (fun x => pRev x.d fun d => Q (.cl d)) X) :
    WE W F r g (.Subscript a (.Slice none none (some (.UnaryOp .USub (.Constant (.int 1) k p3) p'')) p') p) Q X :=
  fun A s own Qs Es hA S hQ hE => Subscript_ (WX.seq O h hA S hE fun v s₁ x st₁ S₁ rx q₁ hE₁ => wpAny_Slice (wpAny_pure (wpAny_pure (wpAny_UnaryOp (wpAny_Constant_int (PyProof.Rows.neg_int (by
    have S₂ := S₁.step O (Step.tok noA s₁ (s₁.toks + 1 + 1))
    have rx₂ := RDen.step O S₁ (Step.tok noA s₁ (s₁.toks + 1 + 1)) rx
    have st := (GStep.push { s₁ with toks := s₁.toks + 1 + 1 } (slObj .none .none (.int (-1) (s₁.toks + 1))) (s₁.toks + 1 + 1)).up (F := F) (X := noA)
    obtain ⟨T, id, ty, lk⟩ := ty_rev (RDen.t (RDen.step O S₂ st rx₂)) q₁
    obtain ⟨ops, eo⟩ := sub_ops (.Slice none none (some (.UnaryOp .USub (.Constant (.int 1) k p3) p'')) p') v (.ref s₁.heap.objs.size)
    exact tail_any ty lk (p_rev S₂.live (RDen.t rx₂) q₁ fun v' s' d gs dd k => hQ _ _ (.cl d) (st₁.trans ((Step.tok noA s₁ (s₁.toks + 1 + 1)).trans gs.up)) dd k) eo)))))))
theorem WBO_one {u : Bool} {p : Pos} {e : Expr} (h : WE W F r g e Q X) : WBO W F r g u p [e] Q X := h
theorem WBO_cons (O : F.Ok W) {u : Bool} {p : Pos} {e e' : Expr} {rest : List Expr} (h : WE W F r g e (fun x => isO x.d fun b => (b = u → WBO W F r g u p (e' :: rest) Q X) ∧ (b = (!u) → Q (.cl (.bool (!u))))) X) :
    WBO W F r g u p (e :: e' :: rest) Q X := fun A s own Qs Es hA S hQ hE => by
  refine wpAny_bind (WX.seq O h hA S hE fun v s₁ x st₁ S₁ rx q₁ hE₁ => ?_)
  obtain ⟨b, e1, q1, q2⟩ := isO_elim q₁
  have t := RDen.t rx
  rw [e1] at t
  cases t
  refine wpAny_bind (wpAny_standAt (wpAny_bind (wpAny_holding (wpAny_truthy_bool ?_))))
  have go : ∀ {Z}, WX W F r g (RDen F) Z Q X → wpAny W.M A Z Qs Es s₁ := fun z => z A s₁ own _ _ hA S₁ (fun v s' x st => hQ v s' x (st₁.trans st)) hE₁
  cases u <;> cases b <;> first | exact wpAny_pure (hQ _ _ (.cl (.bool _)) st₁ (.bool _) (q2 rfl)) | exact go (q1 rfl)
theorem WE_bo {u : Bool} {p : Pos} {es : List Expr} (h : WBO W F r g u p es Q X) : WE W F r g (.BoolOp (bif u then .And else .Or) es p) Q X := h
theorem WTB_nil {u : Bool} (q : QB u) : WTB W F r g u [] QB X := fun A s own Qs Es hA S hQ hE => by
  cases u
  · exact wpAny_allTrue_Or_nil (hQ _ _ _ (.refl _ _) rfl q)
  · exact wpAny_allTrue_And_nil (hQ _ _ _ (.refl _ _) rfl q)
theorem WTB_cons (O : F.Ok W) {u : Bool} {e : Expr} {rest : List Expr} (h : WT W F r g e (fun b => (b = u → WTB W F r g u rest QB X) ∧ (b = (!u) → QB (!u))) X) : WTB W F r g u (e :: rest) QB X :=
  fun A s own Qs Es hA S hQ hE => by
  have key : wpAny W.M A (isTrue e F.env (eval e F.env)) (fun b s₁ => if b = u then wpAny W.M A (allTrue (bif u then .And else .Or) rest F.env) Qs Es s₁ else Qs (!u) s₁) Es s :=
    WX.seq O h hA S hE fun v s₁ x st₁ S₁ rx q₁ hE₁ => by
      subst rx
      by_cases e : v = u
      · rw [if_pos e]; exact q₁.1 e A s₁ own _ _ hA S₁ (fun v s' x st => hQ v s' x (st₁.trans st)) hE₁
      · rw [if_neg e]; exact hQ _ _ (!u) st₁ rfl (q₁.2 (by cases v <;> cases u <;> first | rfl | exact absurd rfl e))
  cases u
  · exact wpAny_allTrue_Or_cons (wpAny_mono key (fun b s₁ z => by cases b <;> exact z) fun _ _ x => x)
  · exact wpAny_allTrue_And_cons (wpAny_mono key (fun b s₁ z => by cases b <;> exact z) fun _ _ x => x)
theorem WT_bo {u : Bool} {p : Pos} {es : List Expr} (h : WTB W F r g u es QB X) : WT W F r g (.BoolOp (bif u then .And else .Or) es p) QB X :=
  fun A s own Qs Es hA S hQ hE => wpAny_isTrue_BoolOp (h A s own Qs Es hA S hQ hE)
end
end Mine
end
section
-- U10
set_option linter.unusedVariables false
set_option maxRecDepth 100000
namespace Mine
open PySem PySem.Calls PyProof.Rows PySem.W
/-- what a call of the def at fa promises -/
noncomputable def Contract (W : Wd) (r : Nat) (fa : Addr) (sp : Spec) : Prop :=
  (∃ o fd, W.hb.get? fa = some o ∧ o.data = .func fd) ∧
  ∀ (F : Fx) (A : Around) (s : Shared) (V : AP) (vs : List Value) (kvs : List (Str × Value)) (ds : List D) (kds : List (Str × D)) (Qs Es : Value → Shared → Prop) (Qd : D → Prop) (Xd : Exc → Prop),
    AOk F r A → Stays W.hb s.heap → FrAt F.frs s.heap → (∀ a, V a → W.hb.get? a = none) → Live V s.heap → (∀ a, F.Fs a → V a) → DenL s.heap V vs ds →
    Paired (fun p q => p.1 = q.1 ∧ Den s.heap V p.2 q.2) kvs kds → sp ds kds Qd Xd →
    (∀ v s' d, Step F noA s s' → Den s'.heap V v d → Qd d → Qs v s') →
    (∀ e s' x, Step F noA s s' → ExcAt W V s.heap s'.heap e x → Xd x → Es e s') → wpAny W.M A (call (.ref fa) vs kvs) Qs Es s
noncomputable def FnOk (W : Wd) (r : Nat) (f : Str) (sp : Spec) : Prop := (f == ("__debug__" : Str)) = false ∧ ∃ fa, W.mg f = some (.ref fa) ∧ Contract W r fa sp
section
variable {W : Wd} {F : Fx} {r : Nat} {g : G} {Q : R → Prop} {X : Exc → Prop} {QB : Bool → Prop} {QL : List D → Prop}
theorem Fx.Ok.vnew (O : F.Ok W) {own : Own} {h : Heap} (S : St W F own g h) : ∀ a, Vf F own a → W.hb.get? a = none := fun a y => by
  rcases y with y | y | ⟨i, y⟩ <;> first | exact O.new a (.inl y) | exact O.new a (.inr y) | exact (S.own2 i a y).2.2
theorem back_cons {p : Pos} {e : Expr} {rest : List Expr} {env : Env} (he : notStar e = true) : backTo p (starEach (e :: rest) env) = (false, eval e env) :: backTo p (starEach rest env) := by
  rw [star_cons he]; rfl
/-- the name of a def of the top, its arguments, the call -/
theorem WX_call (B : W.Ok) (O : F.Ok W) {f : Str} {np p : Pos} {e : Expr} {rest : List Expr} (he : notStar e = true) (hk : F.env.kindOf f = some .globalImplicit)
    (h : ∃ sp, FnOk W r f sp ∧ WEs W F r g p (e :: rest) (fun ds => sp ds [] (fun d => Q (.cl d)) X) X) : WE W F r g (.Call (.Name f np) (e :: rest) [] p) Q X := fun A s own Qs Es hA S hQ hE => by
  obtain ⟨sp, ⟨nd, fa, hv, ⟨o, fd, ho, hd⟩, C⟩, q⟩ := h
  unfold WEs at q
  rw [back_cons he] at q
  refine wpAny_Call_ofName (Name_function_global O.kind hk (loadGlobal_global (mg := W.mg) (by rw [O.gl]; exact B.nsg.keeps S.base) hv ?_) nd)
  rw [back_cons he]
  refine callWith_function_kw (o := o) (fd := fd) (evalArgs_plain (WX.seq O q hA S hE fun vs s₁ ds st₁ S₁ rd q₁ hE₁ => ⟨⟨S₁.base _ _ ho, hd⟩, ?_⟩))
  exact C F A s₁ (Vf F own) _ _ ds [] _ _ _ _ hA S₁.base S₁.fr (O.vnew S₁) S₁.live O.fv rd.1 .nil q₁ (fun v s' d st dd k => hQ _ _ (.cl d) (st₁.trans st) dd k) hE₁
theorem WX_callk (B : W.Ok) (O : F.Ok W) {f k : Str} {np p kp : Pos} {e kv : Expr} {rest : List Expr} (he : notStar e = true) (hk : F.env.kindOf f = some .globalImplicit)
    (h : ∃ sp, FnOk W r f sp ∧ WEs W F r g p (e :: rest) (fun ds => WE W F r g kv (fun x => isC x fun y => sp ds [(k, y)] (fun d => Q (.cl d)) X) X) X) :
    WE W F r g (.Call (.Name f np) (e :: rest) [⟨some k, kv, kp⟩] p) Q X := fun A s own Qs Es hA S hQ hE => by
  obtain ⟨sp, ⟨nd, fa, hv, ⟨o, fd, ho, hd⟩, C⟩, q⟩ := h
  unfold WEs at q
  rw [back_cons he] at q
  refine wpAny_Call_ofName (Name_function_global O.kind hk (loadGlobal_global (mg := W.mg) (by rw [O.gl]; exact B.nsg.keeps S.base) hv ?_) nd)
  rw [back_cons he]
  refine callWith_function_kw (o := o) (fd := fd) (evalArgs_kw rfl (WX.seq O q hA S hE fun vs s₁ ds st₁ S₁ rd q₁ hE₁ => wpAny_evalAll_cons (wpAny_bind (WX.seq O q₁ hA S₁ hE₁ fun u s₂ y st₂ S₂ ry q₂ hE₂ => ?_))))
  obtain ⟨d, rfl, q₃⟩ := isC_elim q₂
  refine wpAny_bind (wpAny_standAt (wpAny_pure (wpAny_evalAll_nil ⟨⟨S₂.base _ _ ho, hd⟩, ?_⟩)))
  exact C F A s₂ (Vf F own) _ _ ds [(k, d)] _ _ _ _ hA S₂.base S₂.fr (O.vnew S₂) S₂.live O.fv (denL_step O st₂ rd.1) (.cons ⟨rfl, ry⟩ .nil) q₃ (fun v s' d st dd k => hQ _ _ (.cl d) (st₁.trans (st₂.trans st)) dd k) hE₂
theorem bi_dbg : ∀ f : Nat, (biNm f == ("__debug__" : Str)) = false
  | 0 => by decide +kernel | 1 => by decide +kernel | 2 => by decide +kernel | 3 => by decide +kernel | 4 => by decide +kernel | 5 => by decide +kernel | 6 => by decide +kernel | 7 => by decide +kernel
  | _ + 8 => by show ((("enumerate" : Str)) == ("__debug__" : Str)) = false; decide +kernel
theorem bi_or : ∀ f : Nat, (∃ i, biVal f = .builtin i) ∨ ∃ t, biVal f = .type t
  | 0 => .inl ⟨_, rfl⟩ | 1 => .inr ⟨_, rfl⟩ | 2 => .inr ⟨_, rfl⟩ | 3 => .inr ⟨_, rfl⟩ | 4 => .inl ⟨_, rfl⟩ | 5 => .inr ⟨_, rfl⟩ | 6 => .inl ⟨_, rfl⟩ | 7 => .inr ⟨_, rfl⟩ | _ + 8 => .inr ⟨_, rfl⟩
theorem callWith_bi {A : Around} {E : Value → Shared → Prop} {s : Shared} {M : Model} {p : Pos} {f : Nat} {args : List (Bool × Sem Value)} {Qs : Value → Shared → Prop} (hp : args.any (·.1) = false)
    (h : wpAny M A (evalArgs (biVal f) true args []) (fun a s₁ => wpAny M A (call (biVal f) ([] ++ a.pos) a.kw) Qs E s₁) E s) : wpAny M A (callWith p (biVal f) [] args []) Qs E s := by
  rcases bi_or f with ⟨i, e⟩ | ⟨i, e⟩
  · rw [e] at h ⊢; exact callWith_builtin hp h
  · rw [e] at h ⊢; exact callWith_excType hp h
theorem name_bi (B : W.Ok) (O : F.Ok W) {A : Around} {s : Shared} {own : Own} {f : Nat} {np : Pos} {Qs : Value → Shared → Prop} {Es : Value → Shared → Prop} (S : St W F own g s.heap) (hk : F.env.kindOf (biNm f) = some .globalImplicit) (h : Qs (biVal f) s) :
    wpAny W.M A (eval (.Name (biNm f) np) F.env) Qs Es s :=
  Name_function_global O.kind hk (loadGlobal_builtin (mg := W.mg) (mb := W.mb) (by rw [O.gl]; exact B.nsg.keeps S.base) (B.bi f).1 (by rw [O.bl]; exact B.nsb.keeps S.base) (B.bi f).2 h) (bi_dbg f)
theorem WE_bi (B : W.Ok) (O : F.Ok W) {f : Nat} {np p : Pos} {a : Expr} (he : notStar a = true) (hk : F.env.kindOf (biNm f) = some .globalImplicit) (h : WE W F r g a (fun x => pBi f x.d fun d => Q (.cl d)) X) :
    WE W F r g (.Call (.Name (biNm f) np) [a] [] p) Q X := fun A s own Qs Es hA S hQ hE => by
  refine wpAny_Call_ofName (name_bi B O S hk ?_)
  rw [back_cons he]
  refine callWith_bi rfl (evalArgs_plain (spliced_cons (WX.seq O h hA S hE fun v s₁ x st₁ S₁ rx q₁ hE₁ => spliced_nil ?_)))
  exact p_bi hA.1 S₁.live (RDen.t rx) q₁ fun v' s' d gs dd k => hQ _ _ (.cl d) (st₁.trans gs.up) dd k
/-- the truth of what is a bool -/
theorem WT_val (O : F.Ok W) {e : Expr} (h : WE W F r g e (fun x => isO x.d QB) X) (hi : isTrue e F.env (eval e F.env) = (do let v ← eval e F.env; standAt e.pos; holding [v] (truthy v))) : WT W F r g e QB X :=
  fun A s own Qs Es hA S hQ hE => wpAny_isTrue_value (WX.seq O h hA S hE fun v s₁ x st₁ S₁ rx q₁ hE₁ => by
    obtain ⟨b, e, k⟩ := isO_elim q₁
    have t := RDen.t rx
    rw [e] at t
    cases t
    exact wpAny_truthy_bool (hQ _ _ b st₁ rfl k)) hi
end
end Mine
end
section
-- U11
set_option linter.unusedVariables false
set_option maxRecDepth 100000
namespace Mine
open PySem PySem.Calls PyProof.Rows PySem.W
/-- what is neither a sequence nor a cell -/
noncomputable abbrev Rec (h : Heap) : AP := fun b => ∀ o, h.get? b = some o → (∀ vs n, o.data ≠ .seq vs n) ∧ ∀ v, o.data ≠ .cell v
theorem rec_of {o : Obj} {vs : Array Value} (e : o.data = .fields vs) : (∀ vs n, o.data ≠ .seq vs n) ∧ ∀ v, o.data ≠ .cell v := ⟨fun _ _ q => (nomatch e.symm.trans q), fun _ q => nomatch e.symm.trans q⟩
theorem Den.avoid {h : Heap} {V : AP} {v : Value} {d : D} (x : Den h V v d) : Den h (fun a => V a ∨ Rec h a) v d :=
  Den.rec (motive_1 := fun v d _ => Den h (fun a => V a ∨ Rec h a) v d) (motive_2 := fun vs ds _ => DenL h (fun a => V a ∨ Rec h a) vs ds) .none .bool .int .str .bytes
    (fun l n _ r => .tup l (fun x => x.elim n fun y => let ⟨_, e⟩ := l; (y _ e).1 _ _ rfl) r)
    (fun l n _ r => .list l (fun x => x.elim n fun y => let ⟨_, e⟩ := l; (y _ e).1 _ _ rfl) r) .nil (fun _ _ a r => .cons a r) x
/-- what the carrying of an exception may touch: records that are new and not shut out, and the slots of frames -/
noncomputable def XStep (h₀ : Heap) (V F : AP) (h h' : Heap) : Prop := Keep (fun b => h₀.get? b = none ∧ ¬ V b ∧ Rec h b) F h h' ∧ ∀ b, h'.get? b = none → h.get? b = none
theorem Den.xk {h₀ h h' : Heap} {V F : AP} (k : Keep (fun b => h₀.get? b = Option.none ∧ ¬ V b ∧ Rec h b) F h h') (hf : ∀ b, F b → V b) {v : Value} {d : D} (x : Den h V v d) : Den h' V v d :=
  (Den.avoid x).keep' k (fun _ y => .inr y.2.2) (fun _ y => .inl (hf _ y)) fun _ y => .inl (.inl y)
theorem XStep.trans {h₀ h h' h'' : Heap} {V F : AP} (k : XStep h₀ V F h h') (k' : XStep h₀ V F h' h'') : XStep h₀ V F h h'' :=
  ⟨k.1.trans k'.1 fun a x => by
    by_cases q : Rec h a
    · exact .inl ⟨x.1, x.2.1, q⟩
    · refine .inr (Classical.byContradiction fun n => ?_)
      cases e : h.get? a with
      | none => exact n e
      | some o =>
        obtain ⟨sl, e', _⟩ := k.1 a o (fun y => q y.2.2) e
        exact q fun o' e2 => by rw [e] at e2; cases e2; exact x.2.2 { o with slots := sl } e', fun b e => k.2 b (k'.2 b e)⟩
section
variable {W : Wd} {F : Fx} {own : Own} {g : G} {M : Model} {A : Around} {E : Value → Shared → Prop} {s : Shared} {h₀ : Heap} {V Fs : AP} {a : Addr} {x : Exc} {tb : Option Addr} {Q : Unit → Shared → Prop} {e : Value}
theorem ExcP.rec_ {h : Heap} (p : ExcP W V h a x tb) : ∀ b, exA a tb b → Rec h b := fun b q o e => by
  obtain ⟨oe, vs, d, md, tv, C, he, _, _, hd, _, _, ht, _⟩ := p
  rcases q with rfl | q
  · rw [he] at e; cases e; exact rec_of hd
  · obtain ⟨_, oT, ts, eT, hT, _⟩ := ht b q
    rw [eT] at e; cases e; exact rec_of hT
theorem ExcP.upd {h h' : Heap} {tb' : Option Addr} (p : ExcP W V h a x tb) (k : Keep (exA a tb) Fs h h') (hf : ∀ b, Fs b → V b)
    (ha : ∀ oe vs, h.get? a = some oe → oe.data = .fields vs → 1 < vs.size → vs[1]? = some (tb.elim .none .ref) →
      ∃ oe' vs', h'.get? a = some oe' ∧ oe'.cls = oe.cls ∧ oe'.dict = oe.dict ∧ oe'.data = .fields vs' ∧ 1 < vs'.size ∧ vs'[1]? = some (tb'.elim .none .ref))
    (ht : ∀ t, tb' = some t → t ≠ a ∧ ∃ oT ts, h'.get? t = some oT ∧ oT.data = .fields ts ∧ 3 < ts.size) : ExcP W V h' a x tb' := by
  have rc := p.rec_
  obtain ⟨oe, vs, d, md, tv, C, he, hC, hc, hd, h1, hv, ht0, hdd, nd, hn, hm, dn⟩ := p
  obtain ⟨oe', vs', he', c1, c2, c3, c4, c5⟩ := ha oe vs he hd h1 hv
  refine ⟨oe', vs', d, md, tv, C, he', hC, c1.trans hc, c3, c4, c5, ht, c2.trans hdd, nd, k.ns (fun q => ?_) hn, hm, (Den.avoid dn).keep' k (fun b q => .inr (rc b q)) (fun b q => .inl (hf b q)) fun b q => .inl (.inl q)⟩
  obtain ⟨o, es, ep, e, r, _⟩ := hn
  rcases q with rfl | q
  · rw [he] at e; cases e; exact nomatch hd.symm.trans r
  · obtain ⟨_, oT, ts, eT, hT, _⟩ := ht0 d q
    rw [eT] at e; cases e; exact nomatch hT.symm.trans r
theorem FrAt.fun {frs : List Env} {h : Heap} (x : FrAt frs h) : h.FunFrames {} frs := by
  induction frs with
  | nil => trivial
  | cons env r ih =>
    obtain ⟨a, L, o, b, c, d⟩ := x env List.mem_cons_self
    exact ⟨a, ⟨L, o, b, rfl, c, d⟩, ih fun e he => x e (List.mem_cons_of_mem _ he)⟩
/-- a new entry of the trace -/
theorem entry {env : Env} {outer : List Env} {L : Addr} {head : Value} {hn : Bool} (hfr : A.frames = some (env :: outer)) (hf : env.frame = some L) (fr : FrAt (env :: outer) s.heap)
    (hv : ∀ b, b ∈ (env :: outer).filterMap (·.frame) → V b) (hV : ∀ b, exA a tb b → ¬ V b) (p : ExcP W V s.heap a x tb)
    (h : ∀ h' t, s.heap.get? t = none → Keep (exA a tb) (· ∈ (env :: outer).filterMap (·.frame)) s.heap h' → (∀ b, h'.get? b = none → s.heap.get? b = none) → ExcP W V h' a x (some t) → Q () { s with heap := h' }) :
    wpAny M A (do let b ← frameOf env; let pl ← entryPlaceOf L hn; let c ← EntryCells.newEntry head b .none (rawInt L) .none pl; setField (.ref a) 1 c) Q E s := by
  refine wpAny_bind (wpAny_frameOf_fun hfr fr.fun hf fun h₁ hs₁ => ?_)
  refine wpAny_bind (wpAny_entryPlaceOf fun pl hpl => ?_)
  unfold EntryCells.newEntry newFields
  refine wpAny_bind (wpAny_newObj_type ?_ (hpl.sizeOk5 _ _ _ _ _))
  obtain ⟨oe, vs, d, md, tv, C, he, hC, hc, hd, h1, hvs, r⟩ := id p
  have he₁ : h₁.get? a = some oe := (hs₁.2.1 a fun q => hV a (.inl rfl) (hv a q)).trans he
  have he₂ := Heap.get?_push_of_some (h := h₁) { cls := .type "traceback", dict := none, data := .fields ([head, .ref L, .none, rawInt L, .none] ++ (if pl.isEmpty then List.replicate 6 Value.none else pl)).toArray } he₁
  refine wpAny_setField he₂ hd h1 ?_
  have hTe : h₁.objs.size ≠ a := Nat.ne_of_gt (Heap.lt_size he₁)
  have hd₃ := Obj.data_mapFields hd (·.setIfInBounds 1 (Value.ref h₁.objs.size))
  have he₃ := Heap.get?_update_self (Obj.mapFields (·.setIfInBounds 1 (Value.ref h₁.objs.size))) he₂ (Obj.isFreed_of_fields hd₃)
  have old : ∀ b o, b ≠ a → h₁.get? b = some o → ((h₁.push { cls := .type "traceback", dict := none, data := .fields ([head, .ref L, .none, rawInt L, .none] ++ (if pl.isEmpty then List.replicate 6 Value.none else pl)).toArray }).update a (Obj.mapFields (·.setIfInBounds 1 (Value.ref h₁.objs.size)))).get? b = some o :=
    fun b o n e => (Heap.get?_update_other _ _ (Ne.symm n)).trans (Heap.get?_push_of_some _ e)
  have kk : ∀ b o, s.heap.get? b = some o → ∃ sl, h₁.get? b = some { o with slots := sl } ∧ (b ∉ (env :: outer).filterMap (·.frame) → sl = o.slots) := fun b o q => by
    obtain ⟨sl, e'⟩ := hs₁.2.2 b o q
    exact ⟨sl, e', fun nf => by rw [hs₁.2.1 b nf, q] at e'; exact congrArg Obj.slots (Option.some.inj e').symm⟩
  have tn : s.heap.get? h₁.objs.size = none := by
    cases q : s.heap.get? h₁.objs.size with
    | none => rfl
    | some o => obtain ⟨sl, e', _⟩ := kk _ o q; exact absurd (Heap.lt_size e') (Nat.lt_irrefl _)
  have K : Keep (exA a tb) (· ∈ (env :: outer).filterMap (·.frame)) s.heap _ := fun b o n q => by
    obtain ⟨sl, e', z⟩ := kk b o q
    exact ⟨sl, old b _ (fun y => n (.inl y)) e', z⟩
  have eT := (Heap.get?_update_other (h₁.push { cls := .type "traceback", dict := none, data := .fields ([head, .ref L, .none, rawInt L, .none] ++ (if pl.isEmpty then List.replicate 6 Value.none else pl)).toArray }) (Obj.mapFields (·.setIfInBounds 1 (Value.ref h₁.objs.size))) (Ne.symm hTe)).trans (Heap.get?_push_size h₁ rfl)
  refine h _ h₁.objs.size tn K (fun b n => ?_) (p.upd K hv (fun oe' vs' e1 e2 e3 _ => ?_) fun t e1 => ?_)
  · cases q : s.heap.get? b with
    | none => rfl
    | some o =>
      obtain ⟨sl, e', _⟩ := kk b o q
      by_cases hb : b = a
      · subst hb; exact nomatch he₃.symm.trans n
      · exact nomatch (old b _ hb e').symm.trans n
  · rw [he] at e1; cases e1
    rw [hd] at e2; cases e2
    exact ⟨_, _, he₃, Obj.cls_mapFields _ _, by obtain ⟨c, d, dt, sl⟩ := oe; cases dt <;> rfl, hd₃, by rw [Array.size_setIfInBounds]; exact h1, by simp [h1]⟩
  · cases e1
    exact ⟨hTe, _, _, eT, rfl, by simp only [List.size_toArray, List.length_append, List.length_cons, List.length_nil]; omega⟩
end
end Mine
end
section
-- U12
set_option linter.unusedVariables false
set_option maxRecDepth 100000
namespace Mine
open PySem PySem.Calls PyProof.Rows PySem.W
/-- an exception in flight that has a trace -/
noncomputable def ExcT (W : Wd) (V : AP) (h₀ h : Heap) (e : Value) (x : Exc) : Prop := ∃ a t, e = .ref a ∧ (∀ b, exA a (some t) b → h₀.get? b = none ∧ ¬ V b) ∧ ExcP W V h a x (some t)
theorem ExcT.at {W : Wd} {V : AP} {h₀ h : Heap} {e : Value} {x : Exc} : ExcT W V h₀ h e x → ExcAt W V h₀ h e x | ⟨a, t, r⟩ => ⟨a, some t, r⟩
noncomputable abbrev Grow (h h' : Heap) : Prop := ∀ b, h'.get? b = none → h.get? b = none
noncomputable abbrev FsOf (l : List Env) : AP := (· ∈ l.filterMap (·.frame))
section
variable {W : Wd} {F : Fx} {own : Own} {g : G} {prog : Program} {w : World} {M : Model} {A : Around} {E : Value → Shared → Prop} {s : Shared} {h₀ : Heap} {V Fs : AP} {a : Addr} {x : Exc} {tb : Option Addr} {Q : Unit → Shared → Prop} {e : Value}
theorem upd_keep {h : Heap} {t : Addr} {oT : Obj} {ts : Array Value} (e : h.get? t = some oT) (hd : oT.data = .fields ts) (f : Array Value → Array Value) {X : AP} (hx : X t) : Keep X Fs h (h.update t (Obj.mapFields f)) ∧ Grow h (h.update t (Obj.mapFields f)) :=
  ⟨fun b o n q => ⟨o.slots, (Heap.get?_update_other _ _ fun y => n (by subst y; exact hx)).trans q, fun _ => rfl⟩, fun b n => by
    by_cases hb : t = b
    · subst hb; exact nomatch (Heap.get?_update_self _ e (Obj.isFreed_of_fields (Obj.data_mapFields hd f))).symm.trans n
    · exact (Heap.get?_update_other _ _ hb).symm.trans n⟩
theorem ExcP.fly {h : Heap} {t : Addr} (p : ExcP W V h a x (some t)) (v : Value) : ExcP W V (h.update t (Obj.mapFields (·.setIfInBounds 3 v))) a x (some t) := by
  obtain ⟨oe, vs, d, md, tv, C, he, hC, hc, hd, h1, hvs, ht, r⟩ := id p
  obtain ⟨ta, oT, ts, eT, hT, h3⟩ := ht t rfl
  refine p.upd (upd_keep (Fs := noA) eT hT _ (.inr rfl)).1 (fun _ f => f.elim) (fun oe' vs' e1 e2 e3 e4 => ⟨_, _, (Heap.get?_update_other _ _ ta).trans e1, rfl, rfl, e2, e3, e4⟩) fun t' q => ?_
  cases q
  exact ⟨ta, _, _, Heap.get?_update_self _ eT (Obj.isFreed_of_fields (Obj.data_mapFields hT _)), Obj.data_mapFields hT _, by rw [Array.size_setIfInBounds]; exact h3⟩
theorem XStep.of {h h' : Heap} (p : ExcP W V h a x tb) (n : ∀ b, exA a tb b → h₀.get? b = none ∧ ¬ V b) (k : Keep (exA a tb) Fs h h') (g : Grow h h') : XStep h₀ V Fs h h' :=
  ⟨k.mono (fun b q => ⟨(n b q).1, (n b q).2, p.rec_ b q⟩) fun _ q => q, g⟩
theorem ExcP.head {h : Heap} (p : ExcP W V h a x tb) : ∃ oe vs, h.get? a = some oe ∧ oe.data = .fields vs ∧ vs[1]? = some (tb.elim .none .ref) :=
  let ⟨oe, vs, _, _, _, _, he, _, _, hd, _, hvs, _⟩ := p
  ⟨oe, vs, he, hd, hvs⟩
theorem ExcP.trace {h : Heap} {t : Addr} (p : ExcP W V h a x (some t)) : ∃ oT ts, h.get? t = some oT ∧ oT.data = .fields ts ∧ 3 < ts.size :=
  let ⟨_, _, _, _, _, _, _, _, _, _, _, _, ht, _⟩ := p
  (ht t rfl).2
theorem flightT {fr : Option Addr} (y : ExcT W V h₀ s.heap e x) (h : ∀ h', XStep h₀ V Fs s.heap h' → ExcT W V h₀ h' e x → Q () { s with heap := h' }) : wpAny M A (setFlight e fr) Q E s := by
  obtain ⟨a, t, rfl, n, p⟩ := y
  obtain ⟨oe, vs, he, hd, h1⟩ := p.head
  obtain ⟨oT, ts, eT, hT, h3⟩ := p.trace
  unfold setFlight
  refine wpAny_bind (wpAny_field he hd h1 ?_)
  rw [show (some t).elim Value.none Value.ref = .ref t from rfl, if_pos (show (Value.ref t != Value.none) = true from by simp)]
  have k := upd_keep (Fs := Fs) eT hT (·.setIfInBounds 3 (fr.elim .none fun f => rawInt f)) (X := exA a (some t)) (.inr rfl)
  exact wpAny_setField eT hT h3 (h _ (.of p n k.1 k.2) ⟨a, t, rfl, n, p.fly _⟩)
theorem flight {fr : Option Addr} (y : ExcAt W V h₀ s.heap e x) (h : ∀ h', XStep h₀ V Fs s.heap h' → ExcAt W V h₀ h' e x → Q () { s with heap := h' }) : wpAny M A (setFlight e fr) Q E s := by
  obtain ⟨a, tb, rfl, n, p⟩ := y
  cases tb with
  | some t => exact flightT (Fs := Fs) ⟨a, t, rfl, n, p⟩ fun h' k z => h h' k z.at
  | none =>
    obtain ⟨oe, vs, he, hd, h1⟩ := p.head
    unfold setFlight
    refine wpAny_bind (wpAny_field he hd h1 ?_)
    exact wpAny_pure (h s.heap (.of p n (.refl _ _ _) fun _ q => q) ⟨a, none, rfl, n, p⟩)
theorem note {env : Env} {outer : List Env} {L : Addr} (hfr : A.frames = some (env :: outer)) (hf : env.frame = some L) (fr : FrAt (env :: outer) s.heap) (hv : ∀ b, FsOf (env :: outer) b → V b) (lv : Live V s.heap)
    (gr : Grow h₀ s.heap) (y : ExcAt W V h₀ s.heap e x) (h : ∀ h', XStep h₀ V (FsOf (env :: outer)) s.heap h' → ExcT W V h₀ h' e x → Q () { s with heap := h' }) : wpAny M A (noteFrame e env) Q E s := by
  obtain ⟨a, tb, rfl, n, p⟩ := y
  obtain ⟨oe, vs, he, hd, h1⟩ := p.head
  have nw : ∀ t, s.heap.get? t = none → ∀ b, exA a (some t) b → h₀.get? b = none ∧ ¬ V b := fun t tn b q => q.elim (fun q => n b (.inl q)) fun q => by
    cases q; exact ⟨gr t tn, fun z => let ⟨_, e⟩ := lv t z; nomatch tn.symm.trans e⟩
  unfold noteFrame
  simp only [hf]
  refine wpAny_bind (wpAny_field he hd h1 ?_)
  cases tb with
  | none =>
    rw [if_neg (by decide)]
    exact entry hfr hf fr hv (fun b q => (n b q).2) p fun h' t tn k g p' => h h' (.of p n k g) ⟨a, t, rfl, nw t tn, p'⟩
  | some t =>
    rw [show (some t).elim Value.none Value.ref = .ref t from rfl, if_pos (show (Value.ref t != Value.none) = true from by simp)]
    obtain ⟨oT, ts, eT, hT, h3⟩ := p.trace
    refine wpAny_bind (wpAny_field eT hT (Array.getElem?_eq_getElem h3) ?_)
    by_cases hc : (ts[3] == rawInt L) = true
    · rw [if_pos hc]
      exact wpAny_pure (h s.heap (.of p n (.refl _ _ _) fun _ q => q) ⟨a, t, rfl, n, p⟩)
    · rw [if_neg hc]
      have k := upd_keep (Fs := FsOf (env :: outer)) eT hT (·.setIfInBounds 3 .none) (X := exA a (some t)) (.inr rfl)
      refine wpAny_bind (wpAny_setField eT hT h3 ?_)
      refine entry hfr hf (fr.keep k.1 fun b q z => (n b z).2 (hv b q)) hv (fun b q => (n b q).2) (p.fly .none) fun h' t' tn k' g p' => h h' ?_ ⟨a, t', rfl, nw t' (k.2 t' tn), p'⟩
      exact .of p n (k.1.trans0 k') fun b q => k.2 b (g b q)
/-- what is known of a frame lives through the carrying of an exception -/
theorem St.xc {h h' : Heap} (O : F.Ok W) (S : St W F own g h) (b₀ : Stays W.hb h₀) (k : Keep (fun b => h₀.get? b = none ∧ ¬ Vf F own b ∧ Rec h b) F.Fs h h') : St W F own g h' := by
  obtain ⟨m, n, r⟩ := S.rd
  have hx : ∀ a, (h₀.get? a = none ∧ ¬ Vf F own a ∧ Rec h a) → W.hb.get? a = none := fun a q => by
    cases e : W.hb.get? a with
    | none => rfl
    | some o => exact nomatch q.1.symm.trans (b₀ a o e)
  refine ⟨base_keep O S.base k hx (O.new _ (.inr O.loc)), ⟨m, k.ns (fun q => q.2.1 (.inr (.inl O.loc))) n, fun i l e => ?_⟩, fun b v => k.some (fun q => q.2.1 v) (S.live b v), S.own1, S.own2, S.fr.keep k fun b f q => q.2.1 (O.fv b f), fun i c e => let ⟨v, x⟩ := S.cel i c e; ⟨v, cell_keep k (fun q => by obtain ⟨o, c3, c4⟩ := x; exact (q.2.2 o c3).2 _ c4) x⟩⟩
  obtain ⟨hi, v, ra, ld⟩ := r i l e
  refine ⟨hi, v, ?_, ?_⟩
  · rcases ra with ra | ⟨c1, c, c2, o, c3, c4⟩
    · exact .inl ra
    · obtain ⟨sl, e', _⟩ := k c o (fun q => (q.2.2 o c3).2 _ c4) c3
      exact .inr ⟨c1, c, c2, _, e', c4⟩
  · cases l with
    | v d => exact Den.xk k O.fv ld
    | o l =>
      obtain ⟨a, vs, e1, e2, e3, e4⟩ := ld
      exact ⟨a, vs, e1, e2, k.ex (fun q => q.2.1 (.inr (.inr ⟨i, e1⟩))) (O.nf (S.own2 i a e1).1 (S.own2 i a e1).2.1) e3, Mine.Paired.imp (fun _ _ z => Den.xk k O.fv z) e4⟩
end
end Mine
end
section
-- U13
set_option linter.unusedVariables false
set_option maxRecDepth 100000
namespace Mine
open PySem PySem.Calls PyProof.Rows PySem.W
noncomputable def SStep (F : Fx) (own own' : Own) (s s' : Shared) : Prop := Step F (Xf F own) s s' ∧ Grow s.heap s'.heap ∧ ∀ a, Xf F own' a → Xf F own a ∨ s.heap.get? a = none
noncomputable def FlowAt (F : Fx) (h : Heap) (f : Flow) (fl : Fl) : Prop := match fl with | .nx => f = .next | .rt d => ∃ v, f = .ret v ∧ Den h F.Y v d
/-- the sense of a statement -/
noncomputable def WS (W : Wd) (F : Fx) (r : Nat) (g : G) (t : Sem Flow) (Q : Fl → G → Prop) (X : Exc → G → Prop) : Prop :=
  ∀ (A : Around) (s : Shared) (own : Own) (Qs : Flow → Shared → Prop) (Es : Value → Shared → Prop), AOk F r A → St W F own g s.heap →
    (∀ f s' own' fl g', SStep F own own' s s' → St W F own' g' s'.heap → FlowAt F s'.heap f fl → Q fl g' → Qs f s') →
    (∀ e s' own' x g', SStep F own own' s s' → St W F own' g' s'.heap → ExcAt W (Vf F own') s.heap s'.heap e x → X x g' → Es e s') → wpAny W.M A t Qs Es s
structure Fx.Top (F : Fx) : Prop where
  top : ∃ outer L, F.frs = F.env :: outer ∧ F.env.frame = some L
section
variable {W : Wd} {F : Fx} {r : Nat} {own own' own'' : Own} {g : G} {Q : Fl → G → Prop} {X : Exc → G → Prop} {A : Around} {s s' s'' : Shared} {Qs : Flow → Shared → Prop} {Es : Value → Shared → Prop}
theorem SStep.of (a : Step F noA s s') : SStep F own own s s' := ⟨a.up, fun _ n => a.none n, fun _ x => .inl x⟩
theorem SStep.trans (a : SStep F own own' s s') (b : SStep F own' own'' s' s'') : SStep F own own'' s s'' := by
  obtain ⟨⟨h, t, rfl, k⟩, gr, x⟩ := a
  obtain ⟨⟨h', t', rfl, k'⟩, gr', x'⟩ := b
  exact ⟨⟨_, _, rfl, k.trans k' x⟩, fun c n => gr c (gr' c n), fun c y => (x' c y).elim (x c) fun n => .inr (gr c n)⟩
theorem ExcAt.grow {V : AP} {h₀ h₁ h : Heap} {e : Value} {x : Exc} (a : Grow h₀ h₁) (y : ExcAt W V h₁ h e x) : ExcAt W V h₀ h e x :=
  let ⟨b, tb, e1, e2, r⟩ := y
  ⟨b, tb, e1, fun c q => ⟨a c (e2 c q).1, (e2 c q).2⟩, r⟩
theorem Xf.vf {a : Addr} : Xf F own a → Vf F own a | .inl z => .inr (.inl z) | .inr o => .inr (.inr o)
/-- data read ahead of a statement is read behind it -/
theorem SStep.den (O : F.Ok W) (a : SStep F own own' s s') {v : Value} {d : D} (x : Den s.heap (Vf F own) v d) : Den s'.heap (Vf F own') v d :=
  x.keep' a.1.keep (fun _ => Xf.vf) O.fv fun b y => y.elim (fun y => .inl (.inl y)) fun y => (a.2.2 b y).imp Xf.vf id
theorem St.sub {g₀ : G} {h : Heap} (q : Sub g₀ g) (S : St W F own g h) : St W F own g₀ h :=
  ⟨S.base, S.rd.elim fun m z => ⟨m, z.1, fun i l e => z.2 i l (q.get e)⟩, S.live, S.own1, S.own2, S.fr, S.cel⟩
/-- one statement, then the rest -/
theorem WS.seq (O : F.Ok W) {t : Sem Flow} (h : WS W F r g t Q X) (hA : AOk F r A) (S : St W F own g s.heap) {Z : Flow → Shared → Prop}
    (hE : ∀ e s' own' x g', SStep F own own' s s' → St W F own' g' s'.heap → ExcAt W (Vf F own') s.heap s'.heap e x → X x g' → Es e s')
    (k : ∀ f s₁ own₁ fl g₁, SStep F own own₁ s s₁ → St W F own₁ g₁ s₁.heap → FlowAt F s₁.heap f fl → Q fl g₁ →
      (∀ e s' own' x g', SStep F own₁ own' s₁ s' → St W F own' g' s'.heap → ExcAt W (Vf F own') s₁.heap s'.heap e x → X x g' → Es e s') → Z f s₁) : wpAny W.M A t Z Es s :=
  h A s own _ _ hA S (fun f s₁ own₁ fl g₁ st S₁ fa q => k f s₁ own₁ fl g₁ st S₁ fa q fun e s' own' x g' st' S' ea xa => hE e s' own' x g' (st.trans st') S' (ea.grow st.2.1) xa) hE
theorem WSs_nil {env : Env} (q : Q .nx g) : WS W F r g (execs [] env) Q X := fun A s own Qs Es hA S hQ hE => wpAny_execs_nil (hQ _ _ own .nx g (.of (.refl _ _)) S rfl q)
theorem WSs_cons (O : F.Ok W) {st : Stmt} {rest : List Stmt} (h : WS W F r g (exec st F.env) (fun fl g' => match fl with | .nx => WS W F r g' (execs rest F.env) Q X | .rt d => Q (.rt d) g') X) :
    WS W F r g (execs (st :: rest) F.env) Q X := fun A s own Qs Es hA S hQ hE => wpAny_execs_cons (WS.seq O h hA S hE fun f s₁ own₁ fl g₁ st S₁ fa q hE₁ => by
    cases fl with
    | nx =>
      cases fa
      exact q A s₁ own₁ _ _ hA S₁ (fun f s' own' fl g' st' => hQ f s' own' fl g' (st.trans st')) hE₁
    | rt d =>
      obtain ⟨v, rfl, fd⟩ := id fa
      exact hQ _ _ own₁ (.rt d) g₁ st S₁ ⟨v, rfl, fd⟩ q)
/-- an expression ahead of the rest of a statement -/
theorem WX.inS {α ρ : Type} {P : Own → Heap → α → ρ → Prop} {t : Sem α} {Qe : ρ → Prop} (O : F.Ok W) (h : WX W F r g P t Qe fun e => X e g) (hA : AOk F r A) (S : St W F own g s.heap) {Z : α → Shared → Prop}
    (hE : ∀ e s' own' x g', SStep F own own' s s' → St W F own' g' s'.heap → ExcAt W (Vf F own') s.heap s'.heap e x → X x g' → Es e s')
    (k : ∀ v s₁ x, Step F noA s s₁ → St W F own g s₁.heap → P own s₁.heap v x → Qe x → (∀ e s' own' x g', SStep F own own' s₁ s' → St W F own' g' s'.heap → ExcAt W (Vf F own') s₁.heap s'.heap e x → X x g' → Es e s') → Z v s₁) :
    wpAny W.M A t Z Es s :=
  h A s own _ _ hA S (fun v s₁ x st p q => k v s₁ x st (S.step O st) p q fun e s' own' y g' st' S' ea xa => hE e s' own' y g' ((SStep.of st).trans st') S' (ea.grow fun _ n => st.none n) xa)
    fun e s' x st ea xa => hE e s' own x g (.of st) (S.step O st) ea xa
/-- one local is set anew, or the list that it alone holds is changed -/
theorem St.put (O : F.Ok W) {h h' : Heap} (S : St W F own g h) {i : Nat} {l : L} {T : AP} (k : Keep T F.Fs h h') (hT : ∀ a, T a → F.Z a ∨ own i = some a) (ho : ∀ j, j ≠ i → own' j = own j)
    (hn : ∀ a, own' i = some a → (own i = some a ∨ h.get? a = none) ∧ ∃ o, h'.get? a = some o) (hz : ∀ a, F.Z a → ∃ o, h'.get? a = some o)
    (hl : ∃ m', h'.Ns F.env.locals m' ∧ ∃ m, (∀ j q, g.get j = some q → j < 128 ∧ ∃ v, RdAt W F.env m h j v ∧ LDen F own h j v q) ∧ (∀ j v, j < 128 → j ≠ i → RdAt W F.env m h j v → RdAt W F.env m' h' j v) ∧ i < 128 ∧ ∃ v, RdAt W F.env m' h' i v ∧ LDen F own' h' i v l)
    (hc : ∀ c, (∃ v, h.IsCell c v) → ∃ v, h'.IsCell c v) : St W F own' (G.set g i l) h' := by
  have vf : ∀ a, T a → Vf F own a := fun a t => (hT a t).elim (fun z => .inr (.inl z)) fun o => .inr (.inr ⟨i, o⟩)
  have bk : ∀ a, Vf F own' a → Vf F own a ∨ h.get? a = none := fun a y => by
    rcases y with y | y | ⟨j, y⟩
    · exact .inl (.inl y)
    · exact .inl (.inr (.inl y))
    · by_cases e : j = i
      · subst e; exact (hn a y).1.imp (fun q => .inr (.inr ⟨_, q⟩)) id
      · exact .inl (.inr (.inr ⟨j, (ho j e).symm.trans y⟩))
  have b := base_keep O S.base k (fun a t => (hT a t).elim (fun z => O.new a (.inr z)) fun o => (S.own2 i a o).2.2) (O.new _ (.inr O.loc))
  have hb : ∀ a, h.get? a = none → W.hb.get? a = none := fun a n => by
    cases e : W.hb.get? a with
    | none => rfl
    | some o => exact nomatch n.symm.trans (S.base a o e)
  have ny : ∀ a, F.Y a → ¬ T a := fun a y t => (hT a t).elim (fun z => O.apart a z y) fun o => (S.own2 i a o).1 y
  have no : ∀ j a, j ≠ i → own j = some a → ¬ T a := fun j a e q t => (hT a t).elim (S.own2 j a q).2.1 fun o => e (S.own1 j i a q o)
  have fresh : ∀ a, h.get? a = none → ¬ Vf F own a := fun a n v => let ⟨_, e⟩ := S.live a v; nomatch n.symm.trans e
  obtain ⟨m', n', m, rd, rd', hi, v, ra, ld⟩ := hl
  refine ⟨b, ⟨m', n', fun j q e => ?_⟩, fun a y => ?_, fun j j' a e e' => ?_, fun j a e => ?_, fun e he => ?_, fun j c q => hc c (S.cel j c q)⟩
  · by_cases ej : j = i
    · subst ej
      rw [G.get_set_self] at e
      cases e
      exact ⟨hi, v, ra, ld⟩
    · rw [G.get_set_ne l (by cases hq : Nat.beq j i with | false => rfl | true => exact absurd (Nat.eq_of_beq_eq_true hq) ej)] at e
      obtain ⟨hj, u, rj, lj⟩ := rd j q e
      refine ⟨hj, u, rd' j u hj ej rj, ?_⟩
      cases q with
      | v d => exact Den.keep' k vf O.fv bk lj
      | o l =>
        obtain ⟨a, vs, e1, e2, e3, e4⟩ := lj
        exact ⟨a, vs, (ho j ej).trans e1, e2, k.ex (no j a ej e1) (O.nf (S.own2 j a e1).1 (S.own2 j a e1).2.1) e3, Mine.Paired.imp (fun _ _ z => Den.keep' k vf O.fv bk z) e4⟩
  · rcases y with y | y | ⟨j, y⟩
    · exact k.some (ny a y) (S.live a (.inl y))
    · exact hz a y
    · by_cases ej : j = i
      · subst ej; exact (hn a y).2
      · have y' := (ho j ej).symm.trans y
        exact k.some (no j a ej y') (S.live a (.inr (.inr ⟨j, y'⟩)))
  · by_cases ej : j = i <;> by_cases ej' : j' = i
    · rw [ej, ej']
    · subst ej
      have y' := (ho j' ej').symm.trans e'
      exact (hn a e).1.elim (fun q => S.own1 _ _ a q y') fun n => (fresh a n (.inr (.inr ⟨_, y'⟩))).elim
    · subst ej'
      have y' := (ho j ej).symm.trans e
      exact (hn a e').1.elim (fun q => S.own1 _ _ a y' q) fun n => (fresh a n (.inr (.inr ⟨_, y'⟩))).elim
    · exact S.own1 _ _ a ((ho j ej).symm.trans e) ((ho j' ej').symm.trans e')
  · by_cases ej : j = i
    · subst ej
      exact (hn a e).1.elim (S.own2 _ a) fun n => ⟨fun y => fresh a n (.inl y), fun y => fresh a n (.inr (.inl y)), hb a n⟩
    · exact S.own2 j a ((ho j ej).symm.trans e)
  · obtain ⟨a1, L, o, a2, a3, a4⟩ := S.fr e he
    rcases O.fs L (List.mem_filterMap.mpr ⟨e, he, a2⟩) with y | y
    · obtain ⟨sl, e', _⟩ := k L o (ny L y) a3
      exact ⟨a1, L, _, a2, e', a4⟩
    · obtain ⟨o', es, ep, q, q', _⟩ := n'
      exact ⟨a1, L, o', a2, by rw [y]; exact q, fun vs z => nomatch q'.symm.trans z⟩
end
end Mine
end
section
-- U14
set_option linter.unusedVariables false
set_option maxRecDepth 100000
namespace Mine
open PySem PySem.Calls PyProof.Rows PySem.W
/-- where a local may be stored -/
noncomputable def Sto (W : Wd) (F : Fx) (i : Nat) : Prop := i < 128 ∧ (F.env.kindOf (W.nm i) = some .local ∨ ∃ c, (i, c) ∈ F.cel)
noncomputable abbrev Own.put (own : Own) (i : Nat) (x : Option Addr) : Own := fun j => if j = i then x else own j
section
variable {W : Wd} {F : Fx} {r : Nat} {own own' own'' : Own} {g : G} {Q : Fl → G → Prop} {X : Exc → G → Prop} {A : Around} {s s' s'' : Shared} {Qs : Flow → Shared → Prop} {Es : Value → Shared → Prop}
theorem Stays.keep {h h' : Heap} {T Fs : AP} (k : Stays h h') : Keep T Fs h h' := .of_stays k _ _
theorem SameBut.keep {h h₁ h' : Heap} {a : Addr} {Fs : AP} (k : Stays h h₁) (q : Heap.SameBut a h₁ h') : Keep (· = a) Fs h h' := fun b o n e => ⟨o.slots, (q.2 b n).trans (k b o e), fun _ => rfl⟩
theorem St.cellZ (O : F.Ok W) (S : St W F own g s.heap) {i c} (m : (i, c) ∈ F.cel) : c ≠ F.env.locals := fun e => by
  obtain ⟨v, o, q, d⟩ := S.cel i c m
  obtain ⟨m, ⟨o', es, ep, q', d', _⟩, _⟩ := S.rd
  rw [e, q'] at q; cases q; rw [d'] at d; cases d
theorem store (B : W.Ok) (O : F.Ok W) {i : Nat} (k : Sto W F i) {h₀ : Heap} (S : St W F own g h₀) (kp : Stays h₀ s.heap) {x : Option Addr} {l : L} {vv : Value} {Qu : Unit → Shared → Prop}
    (hx : ∀ a, x = some a → h₀.get? a = none ∧ ∃ o, s.heap.get? a = some o) (hl : LDen F (own.put i x) s.heap i vv l)
    (h : ∀ h' tk, Keep F.Z F.Fs h₀ h' → Grow h₀ h' → St W F (own.put i x) (G.set g i l) h' → Qu () { s with heap := h', toks := tk }) : wpAny W.M A (storeName F.env (W.nm i) vv) Qu Es s := by
  obtain ⟨hi, k⟩ := k
  obtain ⟨m, n, rd⟩ := id S.rd
  have fresh : ∀ a, x = some a → ¬ Vf F own a := fun a e y => let ⟨_, q⟩ := S.live a y; nomatch (hx a e).1.symm.trans q
  have put : ∀ z, F.Z z → ∀ h', Heap.SameBut z s.heap h' → (∃ o, h'.get? z = some o) → (∃ m', h'.Ns F.env.locals m' ∧ (∀ j v, j < 128 → j ≠ i → RdAt W F.env m h₀ j v → RdAt W F.env m' h' j v) ∧ RdAt W F.env m' h' i vv) → (∀ c, (∃ v, h₀.IsCell c v) → ∃ v, h'.IsCell c v) →
      Keep F.Z F.Fs h₀ h' ∧ Grow h₀ h' ∧ St W F (own.put i x) (G.set g i l) h' := fun z hz h' sb ⟨oz, ez⟩ ⟨m', n', r1, r2⟩ hc => by
    have kk : Keep (· = z) F.Fs h₀ h' := SameBut.keep kp sb
    have ks : Keep (· = z) F.Fs s.heap h' := SameBut.keep (fun _ _ e => e) sb
    have gr : Grow h₀ h' := fun b nb => by
      by_cases e : b = z
      · subst e; exact nomatch ez.symm.trans nb
      · cases q : h₀.get? b with
        | none => rfl
        | some o => exact nomatch ((sb.2 b e).trans (kp b o q)).symm.trans nb
    refine ⟨kk.mono (fun a e => by subst e; exact hz) fun _ f => f, gr, S.put O (T := (· = z)) kk (fun a e => .inl (by subst e; exact hz)) (fun j e => if_neg e) (fun a e => ?_) (fun a q => ?_) ⟨m', n', m, rd, r1, hi, vv, r2, ?_⟩ hc⟩
    · have e' : x = some a := (if_pos rfl).symm.trans e
      have na : a ≠ z := fun q => fresh a e' (.inr (.inl (by subst q; exact hz)))
      obtain ⟨o, q⟩ := (hx a e').2
      exact ⟨.inr (hx a e').1, o, (sb.2 a na).trans q⟩
    · cases q' : h'.get? a with
      | some o => exact ⟨o, rfl⟩
      | none => obtain ⟨o, e⟩ := S.live a (.inr (.inl q)); exact nomatch (gr a q').symm.trans e
    · refine LDen.keep O ks (fun a e => .inr (.inl (by subst e; exact hz))) (fun a e => ?_) hl
      have f := fresh a ((if_pos rfl).symm.trans e)
      exact ⟨fun q => f (.inr (.inl (by subst q; exact hz))), O.nf (fun y => f (.inl y)) fun y => f (.inr (.inl y))⟩
  have hk : F.env.scope.kind = .function := O.kind
  have nz : ∀ c : Addr, (∃ v, h₀.IsCell c v) → c ≠ F.env.locals := fun c ⟨v, o, q, d⟩ e => by
    obtain ⟨o', es, ep, q', d', _⟩ := n
    rw [e, q'] at q; cases q; rw [d'] at d; cases d
  rcases k with k | ⟨c, k⟩
  · refine wpAny_storeName_local k (n.keeps kp) (fun h' n' sb => ?_) (by rw [hk]; rfl)
    have r1 : ∀ j v, j < 128 → j ≠ i → RdAt W F.env m h₀ j v → RdAt W F.env (fun x => if x = W.nm i then some vv else m x) h' j v := fun j u hj e ra => by
      rcases ra with ⟨q1, q2⟩ | ⟨q1, c, q2, q3⟩
      · exact .inl ⟨q1, (if_neg fun y => e (B.inj j i hj hi y)).trans q2⟩
      · obtain ⟨o, q4, q5⟩ := id q3
        exact .inr ⟨q1, c, q2, o, (sb.2 c (nz c ⟨_, q3⟩)).trans (kp c o q4), q5⟩
    obtain ⟨a1, a2, a3⟩ := put _ O.loc h' sb ⟨_, n'.choose_spec.choose_spec.choose_spec.1⟩ ⟨_, n', r1, .inl ⟨k, if_pos rfl⟩⟩ fun c q => by
      obtain ⟨v, o, q4, q5⟩ := id q
      exact ⟨v, o, (sb.2 c (nz c q)).trans (kp c o q4), q5⟩
    exact h h' _ a1 a2 a3
  · obtain ⟨k1, k2, k3, k4⟩ := O.celk i c k
    obtain ⟨v₀, q⟩ := S.cel i c k
    refine wpAny_storeName_cell hk k1 k2 (q.keeps kp) fun h' ic sb => ?_
    have nl := nz c ⟨v₀, q⟩
    obtain ⟨o, es, ep, q', r'⟩ := id n
    have r1 : ∀ j v, j < 128 → j ≠ i → RdAt W F.env m h₀ j v → RdAt W F.env m h' j v := fun j u hj e ra => by
      rcases ra with ra | ⟨q1, c', q2, o', q3, q4⟩
      · exact .inl ra
      · exact .inr ⟨q1, c', q2, o', (sb.2 c' fun y => e (k4 j hj (by rw [← y]; exact q2))).trans (kp c' o' q3), q4⟩
    obtain ⟨a1, a2, a3⟩ := put _ k3 h' sb ⟨_, ic.choose_spec.1⟩ ⟨m, ⟨o, es, ep, (sb.2 _ (Ne.symm nl)).trans (kp _ _ q'), r'⟩, r1, .inr ⟨.inl k1, c, k2, ic⟩⟩ fun c' q => by
      by_cases e : c' = c
      · subst e; exact ⟨_, ic⟩
      · obtain ⟨v, o, q4, q5⟩ := q
        exact ⟨v, o, (sb.2 c' e).trans (kp c' o q4), q5⟩
    exact h h' _ a1 a2 a3
end
end Mine
end
section
-- U15
set_option linter.unusedVariables false
set_option maxRecDepth 100000
namespace Mine
open PySem PySem.Calls PyProof.Rows PySem.W
section
variable {W : Wd} {F : Fx} {r : Nat} {own own' own'' : Own} {g : G} {Q : Fl → G → Prop} {X : Exc → G → Prop} {A : Around} {s s' s'' s₀ : Shared} {Qs : Flow → Shared → Prop} {Es : Value → Shared → Prop}
theorem storeS (B : W.Ok) (O : F.Ok W) {i : Nat} (k : Sto W F i) (S : St W F own g s₀.heap) (gs : GStep s₀ s) {x : Option Addr} {l : L} {v : Value} {Qu : Unit → Shared → Prop}
    (hx : ∀ a, x = some a → s₀.heap.get? a = none ∧ ∃ o, s.heap.get? a = some o) (hl : LDen F (own.put i x) s.heap i v l)
    (h : ∀ s', SStep F own (own.put i x) s₀ s' → St W F (own.put i x) (G.set g i l) s'.heap → Qu () s') : wpAny W.M A (storeName F.env (W.nm i) v) Qu Es s := by
  obtain ⟨h₁, t₁, rfl, kp⟩ := gs
  refine store B O k S kp hx hl fun h' tk k gr S' => h _ ⟨⟨h', tk, rfl, k.mono (fun _ z => .inl z) fun _ f => f⟩, gr, fun a y => y.elim (fun z => .inl (.inl z)) fun ⟨j, y⟩ => ?_⟩ S'
  by_cases e : j = i
  · exact .inr (hx a ((if_pos e).symm.trans y)).1
  · exact .inl (.inr ⟨j, (if_neg e).symm.trans y⟩)
/-- data that is shut out by nothing more -/
theorem vf_put_none {i : Nat} : ∀ a, Vf F (own.put i none) a → Vf F own a := fun a y => by
  rcases y with y | y | ⟨j, y⟩
  · exact .inl y
  · exact .inr (.inl y)
  · by_cases e : j = i
    · exact nomatch (if_pos e).symm.trans y
    · exact .inr (.inr ⟨j, (if_neg e).symm.trans y⟩)
theorem storeD (B : W.Ok) (O : F.Ok W) {i : Nat} (k : Sto W F i) (S : St W F own g s.heap) {d : D} {v : Value} (hd : Den s.heap (Vf F own) v d) {Qu : Unit → Shared → Prop}
    (h : ∀ s', SStep F own (own.put i none) s s' → St W F (own.put i none) (G.set g i (.v d)) s'.heap → Qu () s') : wpAny W.M A (storeName F.env (W.nm i) v) Qu Es s :=
  storeS B O k S (s₀ := s) (x := none) (l := .v d) ⟨_, _, rfl, fun _ _ e => e⟩ (fun a e => nomatch e) (Den.less vf_put_none hd) h
theorem vf_put {i : Nat} {x : Option Addr} : ∀ a, Vf F (own.put i x) a → Vf F own a ∨ x = some a := fun a y => by
  rcases y with y | y | ⟨j, y⟩
  · exact .inl (.inl y)
  · exact .inl (.inr (.inl y))
  · by_cases e : j = i
    · exact .inr ((if_pos e).symm.trans y)
    · exact .inl (.inr (.inr ⟨j, (if_neg e).symm.trans y⟩))
/-- a list newly made is stored, to be held alone -/
theorem storeL (B : W.Ok) (O : F.Ok W) {i : Nat} (k : Sto W F i) (S : St W F own g s₀.heap) (gs : GStep s₀ s) {a : Addr} (na : s₀.heap.get? a = none) {vs : List Value} {ds : List D} (la : LsA s.heap a vs) (hd : DenL s₀.heap (Vf F own) vs ds) {Qu : Unit → Shared → Prop}
    (h : ∀ s', SStep F own (own.put i (some a)) s₀ s' → St W F (own.put i (some a)) (G.set g i (.o ds)) s'.heap → Qu () s') : wpAny W.M A (storeName F.env (W.nm i) (.ref a)) Qu Es s := by
  have q : Stays s₀.heap s.heap := by obtain ⟨h', t, rfl, k⟩ := gs; exact k
  refine storeS B O k S gs (x := some a) (fun b e => by cases e; exact ⟨na, la.elim fun _ e => ⟨_, e⟩⟩) (l := .o ds) ⟨a, vs, if_pos rfl, rfl, la, Mine.Paired.imp (fun v d z => ?_) hd⟩ h
  exact Den.keep' (Keep.of_stays q noA noA) (fun _ f => f.elim) (fun _ f => f.elim) (fun b y => (vf_put b y).imp id fun e => by cases e; exact na) z
theorem WS_asg (B : W.Ok) (O : F.Ok W) {i : Nat} {p p' : Pos} {e : Expr} (k : Sto W F i) (hs : swapsWith e (some (.Name (W.nm i) p')) p.line F.env = pure false)
    (h : WE W F r g e (fun x => isC x fun d => Q .nx (G.set g i (.v d))) fun x => X x g) : WS W F r g (exec (.Assign [.Name (W.nm i) p'] e p) F.env) Q X :=
  fun A s own Qs Es hA S hQ hE => wpAny_Assign_Name (WX.inS O h hA S hE fun v s₁ x st S₁ rd q hE₁ => by
    obtain ⟨d, rfl, q⟩ := isC_elim q
    exact storeD B O k S₁ rd fun s' st' S' => hQ _ _ _ .nx _ ((SStep.of st).trans st') S' rfl q) hs
theorem WS_asgL (B : W.Ok) (O : F.Ok W) {i : Nat} {p p' p'' : Pos} {es : List Expr} (k : Sto W F i) (z : decide (es.length ≤ 4096) = true)
    (h : WEs W F r g p'' es (fun ds => Q .nx (G.set g i (.o ds))) fun x => X x g) : WS W F r g (exec (.Assign [.Name (W.nm i) p'] (.List es p'') p) F.env) Q X :=
  fun A s own Qs Es hA S hQ hE => wpAny_Assign_Name (wpAny_List (WX.inS O h hA S hE fun vs s₁ ds st S₁ rd q hE₁ =>
    ⟨by rw [rd.2]; exact Nat.le_trans (of_decide_eq_true z) big, storeL B O k S₁ (GStep.push _ _ _) (get_top _) ⟨0, Heap.get?_push_size _ rfl⟩ rd.1 fun s' st' S' => hQ _ _ _ .nx _ ((SStep.of st).trans st') S' rfl q⟩)) rfl
/-- the list that a local alone holds is changed -/
theorem St.mut (O : F.Ok W) {h : Heap} (S : St W F own g h) {i : Nat} {l l' : List D} (e : g.get i = some (.o l)) {a : Addr} {vs vs' : List Value} (ea : own i = some a) (la : LsA h a vs) {f : Array Value → Array Value} (hf : f vs.toArray = vs'.toArray) (hd : DenL h (Vf F own) vs' l') :
    St W F own (G.set g i (.o l')) (h.update a (Obj.mapSeq f)) ∧ Keep (Xf F own) F.Fs h (h.update a (Obj.mapSeq f)) ∧ Grow h (h.update a (Obj.mapSeq f)) := by
  obtain ⟨n, la⟩ := la
  have k : Keep (· = a) F.Fs h (h.update a (Obj.mapSeq f)) := fun b o nb q => ⟨o.slots, (Heap.get?_update_other _ _ (Ne.symm nb)).trans q, fun _ => rfl⟩
  have hn := IsL.update la f
  rw [hf] at hn
  have gr : Grow h (h.update a (Obj.mapSeq f)) := fun b nb => by
    by_cases q : a = b
    · subst q; exact nomatch hn.symm.trans nb
    · exact (Heap.get?_update_other _ _ q).symm.trans nb
  have ka : ∀ b, b = a → Vf F own b := fun b q => .inr (.inr ⟨i, by rw [q]; exact ea⟩)
  obtain ⟨m, nm, rd⟩ := id S.rd
  obtain ⟨hi, v, ra, a', vs0, e1, e2, e3⟩ := rd i _ e
  rw [ea] at e1; cases e1
  have ne : ∀ c, (∃ v, h.IsCell c v) → c ≠ a := fun c ⟨v, o, q, d⟩ y => by rw [y, la] at q; cases q; cases d
  have cl : ∀ c v, h.IsCell c v → (h.update a (Obj.mapSeq f)).IsCell c v := fun c v q => cell_keep k (ne c ⟨v, q⟩) q
  have rk : ∀ j v, RdAt W F.env m h j v → RdAt W F.env m (h.update a (Obj.mapSeq f)) j v := fun j v q => q.imp id fun ⟨q1, c, q2, q3⟩ => ⟨q1, c, q2, cl c _ q3⟩
  refine ⟨S.put O (T := (· = a)) k (fun b q => .inr (by rw [q]; exact ea)) (fun _ _ => rfl) (fun b q => ?_) (fun b q => k.some (fun y => (S.own2 i a ea).2.1 (by rw [← y]; exact q)) (S.live b (.inr (.inl q))))
    ⟨m, k.ns (fun y => (S.own2 i a ea).2.1 (by rw [← y]; exact O.loc)) nm, m, rd, fun j v _ _ => rk j v, hi, .ref a, ?_, a, vs', ea, rfl, ⟨_, hn⟩, Mine.Paired.imp (fun _ _ z => Den.keep k ka O.fv z) hd⟩ fun c ⟨v, q⟩ => ⟨v, cl c v q⟩, k.mono (fun b q => .inr ⟨i, by rw [q]; exact ea⟩) fun _ q => q, gr⟩
  · rw [ea] at q; cases q; exact ⟨.inl ea, _, hn⟩
  · rw [← e2]; exact rk i _ ra
end
end Mine
end
section
-- U16
set_option linter.unusedVariables false
set_option maxRecDepth 100000
namespace Mine
open PySem PySem.Calls PyProof.Rows PySem.W
section
variable {W : Wd} {F : Fx} {r : Nat} {own own' own'' : Own} {g : G} {Q : Fl → G → Prop} {X : Exc → G → Prop} {A : Around} {s s' s'' s₀ : Shared} {Qs : Flow → Shared → Prop} {Es : Value → Shared → Prop}
theorem inter_no (O : F.Ok W) : interactive F.env = false := by unfold interactive; rw [O.kind]; rfl
theorem few_one {e : Expr} {p : Pos} {env : Env} (he : notStar e = true) : ((backTo p (starEach [e] env)).all (fun x => !x.1) && (backToKw p (keywordEach [] env)).all (fun x => x.1.isSome)
      && decide ([e].length + ([] : List Keyword).length + (if ([] : List Keyword).isEmpty then 0 else 1) < 30)) = true := by rw [back_cons he]; rfl
theorem own_at (S : St W F own g s.heap) {i : Nat} {l : List D} (e : g.get i = some (.o l)) {a : Addr} (ea : own i = some a) : ∃ vs, LsA s.heap a vs ∧ DenL s.heap (Vf F own) vs l := by
  obtain ⟨m, n, rd⟩ := S.rd
  obtain ⟨_, v, _, a', vs, e1, _, e3⟩ := rd i _ e
  rw [ea] at e1; cases e1
  exact ⟨vs, e3⟩
theorem isOw_elim {l : Option L} {K : List D → Prop} (q : isOw l K) : ∃ k, l = some (.o k) ∧ K k := by
  cases l with
  | none => exact q.elim
  | some l => cases l with
    | v _ => exact q.elim
    | o k => exact ⟨k, rfl, q⟩
theorem mutS (O : F.Ok W) (S : St W F own g s.heap) {i : Nat} {l l' : List D} (e : g.get i = some (.o l)) {a : Addr} {vs vs' : List Value} (ea : own i = some a) (la : LsA s.heap a vs) {f : Array Value → Array Value} (hf : f vs.toArray = vs'.toArray) (hd : DenL s.heap (Vf F own) vs' l') {t : Nat} :
    SStep F own own s { s with heap := s.heap.update a (Obj.mapSeq f), toks := t } ∧ St W F own (G.set g i (.o l')) (s.heap.update a (Obj.mapSeq f)) := by
  obtain ⟨q1, q2, q3⟩ := S.mut O e ea la hf hd
  exact ⟨⟨⟨_, _, rfl, q2⟩, q3, fun _ x => .inl x⟩, q1⟩
/-- a method of the list that i holds alone -/
theorem own_method (B : W.Ok) (O : F.Ok W) (S : St W F own g s.heap) {i : Nat} {l : List D} (e : g.get i = some (.o l)) {name : Str} {id : String} {p1 p2 p3 : Pos} {args : List Expr} {Qv : Value → Shared → Prop}
    (hfew : ((backTo p3 (starEach args F.env)).all (fun x => !x.1) && (backToKw p3 (keywordEach [] F.env)).all (fun x => x.1.isSome)
      && decide (args.length + ([] : List Keyword).length + (if ([] : List Keyword).isEmpty then 0 else 1) < 30)) = true)
    (hl : (p2.endLine == p3.line) = true) (slot : Slot "list" name id) (hty : typeOf (.builtin id) = pure (.type "method_descriptor"))
    (h : ∀ a, own i = some a → wpAny W.M A (callWith p3 (.builtin id) [.ref a] (backTo p3 (starEach args F.env)) []) Qv Es s) :
    wpAny W.M A (eval (.Call (.Attribute (.Name (W.nm i) p1) name p2) args [] p3) F.env) Qv Es s := by
  have hi : i < 128 := S.rd.elim fun m z => (z.2 i _ e).1
  refine wpAny_Call_method rfl hfew hl PySem.F.plainAttrs_list slot hty (wpAny_Name (load_v B O S e fun _ v ld => ?_) (B.dbg i hi).1)
  obtain ⟨a, vs, ea, rfl, ⟨n, la⟩, _⟩ := ld
  exact ⟨⟨_, la, rfl⟩, fun b q => by cases q; exact ⟨_, la, rfl⟩, h a ea⟩
theorem WS_app (B : W.Ok) (O : F.Ok W) {i : Nat} {p1 p2 p3 p4 : Pos} {e : Expr} (he : notStar e = true) (hl : (p2.endLine == p3.line) = true)
    (h : isOw (g.get i) fun l => WE W F r g e (fun x => isC x fun d => l.length ≤ 4096 ∧ Q .nx (G.set g i (.o (l ++ [d])))) fun x => X x g) :
    WS W F r g (exec (.Expr (.Call (.Attribute (.Name (W.nm i) p1) "append" p2) [e] [] p3) p4) F.env) Q X := fun A s own Qs Es hA S hQ hE => by
  obtain ⟨l, eg, h⟩ := isOw_elim h
  refine wpAny_Expr_any (own_method B O S eg (few_one he) hl PySem.F.slot_list_append type_list_append fun a ea => ?_) (inter_no O)
  rw [back_cons he]
  refine P.append_list (WX.inS O h hA S hE fun v s₁ x st S₁ rd q hE₁ => ?_)
  obtain ⟨d, rfl, z, q⟩ := isC_elim q
  obtain ⟨vs, la, dl⟩ := own_at S₁ eg ea
  obtain ⟨st', S'⟩ := mutS (vs' := vs ++ [v]) O S₁ eg ea la (f := fun xs => xs.push v) (by simp) (Mine.Paired.app dl (.cons rd .nil)) (t := s₁.toks)
  exact ⟨vs.toArray, la.choose, by rw [List.size_toArray, Paired.length dl, sizeLine_eq]; omega, la.choose_spec, hQ _ _ _ .nx _ ((SStep.of st).trans st') S' rfl q⟩
theorem WS_ext (B : W.Ok) (O : F.Ok W) {i : Nat} {p1 p2 p3 p4 : Pos} {e : Expr} (he : notStar e = true) (hl : (p2.endLine == p3.line) = true)
    (h : isOw (g.get i) fun l => WE W F r g e (fun x => isL x.d fun m => l.length + m.length ≤ 4096 ∧ Q .nx (G.set g i (.o (l ++ m)))) fun x => X x g) :
    WS W F r g (exec (.Expr (.Call (.Attribute (.Name (W.nm i) p1) "extend" p2) [e] [] p3) p4) F.env) Q X := fun A s own Qs Es hA S hQ hE => by
  obtain ⟨l, eg, h⟩ := isOw_elim h
  refine wpAny_Expr_any (own_method B O S eg (few_one he) hl PySem.F.slot_list_extend PySem.F.type_list_extend fun a ea => ?_) (inter_no O)
  rw [back_cons he]
  refine P.extend_list (WX.inS O h hA S hE fun v s₁ x st S₁ rd q hE₁ => ?_)
  obtain ⟨m, em, z, q⟩ := isL_elim q
  have t := RDen.t rd
  rw [em] at t
  obtain ⟨b, ws, rfl, lb, dm⟩ := t
  obtain ⟨vs, la, dl⟩ := own_at S₁ eg ea
  obtain ⟨st', S'⟩ := mutS (vs' := vs ++ ws) O S₁ eg ea la (f := fun xs => xs ++ ws.toArray) (by simp) (Mine.Paired.app dl dm) (t := s₁.toks)
  have e1 := Paired.length dl
  have e2 := Paired.length dm
  refine ⟨b, vs.toArray, ws.toArray, la.choose, lb.choose, ?_, ?_, ?_, rfl, la.choose_spec, lb.choose_spec, hQ _ _ _ .nx _ ((SStep.of st).trans st') S' rfl q⟩
  · rw [List.size_toArray, sizeLine_eq]; omega
  · rw [List.size_toArray, List.size_toArray, sizeLine_eq]; omega
  · rw [List.size_toArray, List.size_toArray, Bool.and_eq_true, not_and]; intro _; simp only [Builtin.List.listTooLong, sizeLine]; simp; omega
theorem WS_rvs (B : W.Ok) (O : F.Ok W) {i : Nat} {p1 p2 p3 p4 : Pos} (hl : (p2.endLine == p3.line) = true) (h : isOw (g.get i) fun l => l.length ≤ 4096 ∧ Q .nx (G.set g i (.o l.reverse))) :
    WS W F r g (exec (.Expr (.Call (.Attribute (.Name (W.nm i) p1) "reverse" p2) [] [] p3) p4) F.env) Q X := fun A s own Qs Es hA S hQ hE => by
  obtain ⟨l, eg, z, q⟩ := isOw_elim h
  refine wpAny_Expr_any (own_method B O S eg rfl hl PySem.F.slot_list_reverse PySem.F.type_list_reverse fun a ea => ?_) (inter_no O)
  obtain ⟨vs, la, dl⟩ := own_at S eg ea
  obtain ⟨st', S'⟩ := mutS (vs' := vs.reverse) O S eg ea la (f := fun xs => xs.reverse) (by simp) (Mine.Paired.rev dl) (t := s.toks)
  exact P.reverse_list la.choose_spec (hQ _ _ _ .nx _ st' S' rfl q) (by rw [List.size_toArray, Paired.length dl, sizeLine_eq]; omega)
theorem WS_exp (O : F.Ok W) {e : Expr} {p : Pos} (hs : swapsWith e none p.line F.env = pure false) (h : WE W F r g e (fun _ => Q .nx g) fun x => X x g) : WS W F r g (exec (.Expr e p) F.env) Q X :=
  fun A s own Qs Es hA S hQ hE => wpAny_Expr_any (WX.inS O h hA S hE fun v s₁ x st S₁ rd q hE₁ => hQ _ _ _ .nx _ (.of st) S₁ rfl q) (inter_no O) hs
theorem WS_ite (O : F.Ok W) {t : Expr} {a b : List Stmt} {p : Pos} (h : WT W F r g t (fun c => (c = true → WS W F r g (execs a F.env) Q X) ∧ (c = false → WS W F r g (execs b F.env) Q X)) fun x => X x g) :
    WS W F r g (exec (.If t a b p) F.env) Q X := fun A s own Qs Es hA S hQ hE => wpAny_If (WX.inS O h hA S hE fun v s₁ x st S₁ rd q hE₁ => by
    subst rd
    have k : ∀ f s' own' fl g', SStep F own own' s₁ s' → St W F own' g' s'.heap → FlowAt F s'.heap f fl → Q fl g' → Qs f s' := fun f s' own' fl g' st' => hQ f s' own' fl g' ((SStep.of st).trans st')
    cases v with
    | true => exact q.1 rfl A s₁ own _ _ hA S₁ k hE₁
    | false => exact q.2 rfl A s₁ own _ _ hA S₁ k hE₁)
theorem frz_get (g : G) (i : Nat) : g.frz.get i = (g.get i).map fun | .v d => .v d | .o l => .v (.list l) := by
  unfold G.frz
  induction g with
  | nil => rfl
  | cons p r ih =>
    obtain ⟨j, k⟩ := p
    show G.get ((j, _) :: _) i = _
    unfold G.get
    cases Nat.beq i j with
    | true => rfl
    | false => exact ih
/-- no list is held alone any more -/
theorem St.frz {h : Heap} (S : St W F own g h) : St W F (fun _ => none) g.frz h := by
  have le : ∀ a, Vf F (fun _ => none) a → Vf F own a := fun a y => y.imp id fun y => y.imp id fun ⟨_, q⟩ => (nomatch q)
  refine ⟨S.base, S.rd.elim fun m z => ⟨m, z.1, fun i l e => ?_⟩, fun a y => S.live a (le a y), fun _ _ _ e => (nomatch e), fun _ _ e => (nomatch e), S.fr, S.cel⟩
  rw [frz_get] at e
  cases eg : g.get i with
  | none => rw [eg] at e; cases e
  | some k =>
    rw [eg] at e
    obtain ⟨hi, v, ra, ld⟩ := z.2 i k eg
    refine ⟨hi, v, ra, ?_⟩
    cases k with
    | v d => cases e; exact Den.less le ld
    | o l =>
      cases e
      obtain ⟨a, vs, e1, rfl, e3, e4⟩ := ld
      exact .list e3 (fun y => by rcases y with y | y | ⟨_, y⟩ <;> first | exact (S.own2 i a e1).1 y | exact (S.own2 i a e1).2.1 y | cases y) (Mine.Paired.imp (fun _ _ z => Den.less le z) e4)
theorem WS_ret (O : F.Ok W) {e : Expr} {p : Pos} (h : WE W F r g.frz e (fun x => isC x fun d => Q (.rt d) g) fun x => X x g.frz) : WS W F r g (exec (.Return (some e) p) F.env) Q X :=
  fun A s own Qs Es hA S hQ hE => wpAny_Return_some (h A s _ _ _ hA S.frz (fun v s₁ x st rd q => by
    obtain ⟨d, rfl, q⟩ := isC_elim q
    exact hQ _ _ own (.rt d) g (.of st) (S.step O st) ⟨v, rfl, Den.less (fun a y => .inl y) rd⟩ q)
    fun e s' x st ea xa => hE e s' _ x g.frz ⟨st.up, fun _ n => st.none n, fun a y => y.elim (fun z => .inl (.inl z)) fun ⟨_, q⟩ => (nomatch q)⟩ (S.frz.step O st) ea xa)
theorem p_iop {op : Operator} {a b : Int} {t u : Tok} {K : D → Prop} {prog : Program} {w : World} {Qv : Value → Shared → Prop} (ho : op = .Add ∨ op = .Sub) (p : pInt op a b K) (h : ∀ c, K (.int c) → Qv (.int c s.toks) { s with toks := s.toks + 1 }) :
    wpAny (model prog w) A (inplaceOp op (.int a t) (.int b u)) Qv Es s := by
  rcases ho with rfl | rfl
  · exact PyProof.Rows.iadd_int (h _ p)
  · exact PyProof.Rows.isub_int (h _ p)
theorem WS_aug (B : W.Ok) (O : F.Ok W) {i : Nat} {p p' : Pos} {op : Operator} {e : Expr} (k : Sto W F i) (ho : op = .Add ∨ op = .Sub)
    (h : match g.get i with | some (.v a) => isI a fun a => WE W F r g e (fun x => isI x.d fun b => pInt op a b fun d => Q .nx (G.set g i (.v d))) fun x => X x g | _ => False) :
    WS W F r g (exec (.AugAssign (.Name (W.nm i) p') op e p) F.env) Q X := fun A s own Qs Es hA S hQ hE => by
  cases eg : g.get i with
  | none => rw [eg] at h; exact h.elim
  | some l =>
    rw [eg] at h
    cases l with
    | o l => exact h.elim
    | v a =>
      obtain ⟨a, rfl, h⟩ := isI_elim h
      refine wpAny_AugAssign_Name (load_v B O S eg fun _ v ld => ?_)
      obtain ⟨t, rfl⟩ := Den.t ld
      refine WX.inS O h hA S hE fun v s₁ x st S₁ rd q hE₁ => ?_
      obtain ⟨b, eb, q⟩ := isI_elim q
      have tb := RDen.t rd
      rw [eb] at tb
      obtain ⟨u, rfl⟩ := tb
      refine p_iop ho q fun c q => ?_
      exact storeD B O k (S₁.step O (.tok _ _ _)) (.int c _) fun s' st' S' => hQ _ _ _ .nx _ (((SStep.of st).trans (SStep.of (own := own) (.tok _ _ _))).trans st') S' rfl q
end
end Mine
end
section
-- U17
set_option linter.unusedVariables false
set_option maxRecDepth 100000
namespace Mine
open PySem PySem.Calls PyProof.Rows PySem.W
/-- a row of names -/
inductive Nms (W : Wd) : List Expr → List Nat → Prop
  | nil : Nms W [] []
  | cons {i : Nat} {p : Pos} {es : List Expr} {xs : List Nat} : Nms W es xs → Nms W (.Name (W.nm i) p :: es) (i :: xs)
/-- t stores the local i -/
noncomputable def StoL (W : Wd) (F : Fx) (t : Value → Sem Unit) (i : Nat) : Prop := ∀ (A : Around) (v : Value) (Qu : Unit → Shared → Prop) (Es : Value → Shared → Prop) (s : Shared), wpAny W.M A (storeName F.env (W.nm i) v) Qu Es s → wpAny W.M A (t v) Qu Es s
section
variable {W : Wd} {F : Fx} {r : Nat} {own own' own'' : Own} {g : G} {Q : Fl → G → Prop} {X : Exc → G → Prop} {A : Around} {s s' s'' s₀ : Shared} {Qs : Flow → Shared → Prop} {Es : Value → Shared → Prop}
theorem nms_sto {es : List Expr} {xs : List Nat} (n : Nms W es xs) : Paired (StoL W F) ((assignEach es F.env).map (·.2)) xs ∧ (assignEach es F.env).length = xs.length ∧ (assignEach es F.env).findIdx? (·.1) = none := by
  induction n with
  | nil => exact ⟨.nil, rfl, rfl⟩
  | cons n ih =>
    refine ⟨.cons (fun A v Qu Es s h => PySem.wpAny_assign_Name h) ih.1, congrArg Nat.succ ih.2.1, ?_⟩
    show List.findIdx? _ ((false, _) :: _) = none
    rw [List.findIdx?_cons, ih.2.2]; rfl
theorem assigns (B : W.Ok) (O : F.Ok W) {ts : List (Value → Sem Unit)} {xs : List Nat} (n : Paired (StoL W F) ts xs) : ∀ {own : Own} {g : G} {s : Shared} {vs : List Value} {ds : List D} {Qu : Unit → Shared → Prop}, (∀ i ∈ xs, Sto W F i) →
    St W F own g s.heap → DenL s.heap (Vf F own) vs ds → ds.length = xs.length → (∀ s' own', SStep F own own' s s' → St W F own' (G.sets g xs ds) s'.heap → Qu () s') → wpAny W.M A (assignInOrder ts vs) Qu Es s := by
  induction n with
  | nil =>
    intro own g s vs ds Qu _ S d e h
    cases ds with
    | cons _ _ => cases e
    | nil => exact wpAny_pure (h s own (.of (.refl _ _)) S)
  | cons t n ih =>
    intro own g s vs ds Qu k S d e h
    cases d with
    | nil => cases e
    | cons a d =>
      refine wpAny_bind (wpAny_holding (t _ _ _ _ _ (storeD B O (k _ List.mem_cons_self) S a fun s₁ st S₁ => ?_)))
      exact ih (fun i hi => k i (List.mem_cons_of_mem _ hi)) S₁ (Mine.Paired.imp (fun _ _ z => st.den O z) d) (Nat.succ.inj e) fun s' own' st' S' => h s' own' (st.trans st') S'
theorem ext_stays {h h' : Heap} (k : Heap.ExtBut h.objs.size h h') : Stays h h' := fun b o e => k b o (Nat.ne_of_lt (Heap.lt_size e)) e
theorem tup_at {h : Heap} {a : Addr} {vs : List Value} (t : TpA h a vs) : h.IsTuple a vs.toArray := let ⟨n, e⟩ := t; ⟨_, e, rfl, n, rfl⟩
/-- a tuple is taken apart -/
theorem asg_tup (B : W.Ok) (O : F.Ok W) (hA : AOk F r A) {es : List Expr} {xs : List Nat} {k : Nat} {p : Pos} (n : Nms W es xs) (ks : ∀ i ∈ xs, Sto W F i) (S : St W F own g s.heap) {T : Addr} {vals : Array Value} {ds : List D} (ht : s.heap.IsTuple T vals)
    (d : DenL s.heap (Vf F own) vals.toList ds) (e : ds.length = xs.length) {Qu : Unit → Shared → Prop} (h : ∀ s' own', SStep F own own' s s' → St W F own' (G.sets g xs ds) s'.heap → Qu () s') : wpAny W.M A (assign (.Tuple es k p) F.env (.ref T)) Qu Es s := by
  obtain ⟨n1, n2, n3⟩ := nms_sto (F := F) n
  refine wpAny_assign_Tuple hA.1 ht (by rw [n2, ← e, ← Paired.length d, Array.length_toList]) n3 fun h' k' => ?_
  have st : Step F noA s { s with heap := h' } := GStep.up ⟨h', s.toks, rfl, ext_stays k'⟩
  exact assigns B O n1 ks (S.step O st) (denL_step O st d) e fun s' own' st' S' => h s' own' ((SStep.of st).trans st') S'
theorem WS_asgT (B : W.Ok) (O : F.Ok W) {es : List Expr} {xs : List Nat} {k : Nat} {p p' : Pos} {e : Expr} (n : Nms W es xs) (ks : ∀ i ∈ xs, Sto W F i)
    (hs : swapsWithSole [.Tuple es k p'] e p.line F.env = pure false) (hw : swappedStores [.Tuple es k p'] e F.env = pure none)
    (h : WE W F r g e (fun x => isC x fun d => match d with | .tuple ds => ds.length = xs.length ∧ Q .nx (G.sets g xs ds) | _ => False) fun x => X x g) : WS W F r g (exec (.Assign [.Tuple es k p'] e p) F.env) Q X :=
  fun A s own Qs Es hA S hQ hE => Assign_Tuple (WX.inS O h hA S hE fun v s₁ x st S₁ rd q hE₁ => by
    obtain ⟨d, rfl, q⟩ := isC_elim q
    cases d with
    | tuple ds =>
      obtain ⟨a, vs, rfl, t, dd, _⟩ := Den.t rd
      exact asg_tup B O hA n ks S₁ (tup_at t) dd q.1 fun s' own' st' S' => hQ _ _ _ .nx _ ((SStep.of st).trans st') S' rfl q.2
    | _ => exact q.elim) hs hw
theorem binds_sto (xs : List Nat) : Paired (StoL W F) ((xs.map W.nm).map fun n => bindName F.env n) xs := by
  induction xs with
  | nil => exact .nil
  | cons x xs ih => exact .cons (fun A v Qu Es s h => wpAny_bindName h) ih
theorem WS_asgS (B : W.Ok) (O : F.Ok W) {es vs : List Expr} {xs : List Nat} {k k' : Nat} {p p' p'' : Pos} (ks : ∀ i ∈ xs, Sto W F i) (z : decide (vs.length ≤ 4096) = true)
    (hw : swappedStores [.Tuple es k p'] (.Tuple vs k' p'') F.env = pure (some (xs.map W.nm)))
    (h : WEs W F r g p'' vs (fun ds => ds.length = xs.length ∧ Q .nx (G.sets g xs.reverse ds.reverse)) fun x => X x g) : WS W F r g (exec (.Assign [.Tuple es k p'] (.Tuple vs k' p'') p) F.env) Q X :=
  fun A s own Qs Es hA S hQ hE => Assign_Tuple_swapped (wpAny_Tuple (WX.inS O h hA S hE fun vals s₁ ds st S₁ rd q hE₁ => ⟨by rw [rd.2]; exact Nat.le_trans (of_decide_eq_true z) big, by
    have st' : Step F noA s₁ { s₁ with heap := s₁.heap.push { cls := .type "tuple", data := .seq vals.toArray } } := (GStep.push _ _ _).up
    have ht := tup_at ⟨0, Heap.get?_push_size s₁.heap (o := { cls := .type "tuple", data := .seq vals.toArray }) rfl⟩
    rw [List.length_map, ← q.1, ← Paired.length rd.1, ← List.size_toArray]
    refine wpAny_unpackItems_tuple hA.1 ht fun h' k' => ?_
    have st'' : Step F noA s₁ { s₁ with heap := h' } := st'.trans (GStep.up ⟨h', s₁.toks, rfl, ext_stays k'⟩)
    rw [← List.map_reverse]
    refine assigns B O (binds_sto xs.reverse) (fun i hi => ks i (List.mem_reverse.mp hi)) (S₁.step O st'') (ds := ds.reverse) ?_ (by rw [List.length_reverse, List.length_reverse]; exact q.1) fun s' own' st3 S' => hQ _ _ _ .nx _ ((SStep.of (st.trans st'')).trans st3) S' rfl q.2
    exact denL_step O st'' (Mine.Paired.rev rd.1)⟩)) rfl hw
end
end Mine
end
section
-- U18
set_option linter.unusedVariables false
set_option maxRecDepth 100000
namespace Mine
open PySem PySem.Calls PyProof.Rows PySem.W
section
variable {W : Wd} {F : Fx} {r : Nat} {own own' own'' : Own} {g : G} {Q : Fl → G → Prop} {X : Exc → G → Prop} {A : Around} {s s' s'' s₀ : Shared} {Qs : Flow → Shared → Prop} {Es : Value → Shared → Prop}
/-- an exception goes through a block of a frame -/
theorem passes (O : F.Ok W) (T : F.Top) (hA : AOk F r A) (S : St W F own' g s'.heap) {h₀ : Heap} (b₀ : Stays W.hb h₀) (gr : Grow h₀ s'.heap) {e : Value} {x : Exc} (y : ExcAt W (Vf F own') h₀ s'.heap e x)
    (h : ∀ h', XStep h₀ (Vf F own') F.Fs s'.heap h' → St W F own' g h' → ExcAt W (Vf F own') h₀ h' e x → Es e { s' with heap := h' }) : notedBy W.M A F.env (cameBackBy W.M A F.env Es) e s' := by
  obtain ⟨outer, L, e1, e2⟩ := T.top
  have fs : F.Fs = FsOf (F.env :: outer) := by unfold Fx.Fs; rw [e1]
  refine note (hA.2.1.trans (congrArg _ e1)) e2 (e1 ▸ S.fr) (fun b q => O.fv b (by rw [fs]; exact q)) S.live gr y fun h₁ k₁ y₁ => ?_
  obtain ⟨a, t, rfl, n, p⟩ := id y₁
  obtain ⟨oe, vs, he, hd, h1⟩ := p.head
  unfold cameBackBy
  refine wpAny_bind (wpAny_field he hd h1 ?_)
  rw [show ((some t).elim Value.none Value.ref == Value.none) = false from rfl, if_neg Bool.false_ne_true]
  refine flightT (Fs := F.Fs) (h₀ := h₀) y₁ fun h₂ k₂ y₂ => ?_
  have k : XStep h₀ (Vf F own') F.Fs s'.heap h₂ := XStep.trans (by rw [fs]; exact k₁) k₂
  exact h h₂ k (S.xc O b₀ k.1) y₂.at
theorem SStep.x {h₁ : Heap} (a : SStep F own own' s s') (k : XStep s.heap (Vf F own') F.Fs s'.heap h₁) : SStep F own own' s { s' with heap := h₁ } := by
  obtain ⟨⟨h, t, rfl, k1⟩, g1, x1⟩ := a
  exact ⟨⟨h₁, t, rfl, k1.trans (k.1.mono (fun _ q => q.1) fun _ f => f) fun b q => .inr q⟩, fun b n => g1 b (k.2 b n), x1⟩
theorem pass_on (O : F.Ok W) (T : F.Top) (hA : AOk F r A) (b₀ : Stays W.hb s.heap) (hE : ∀ e s' own' x g', SStep F own own' s s' → St W F own' g' s'.heap → ExcAt W (Vf F own') s.heap s'.heap e x → X x g' → Es e s')
    {e : Value} {x : Exc} (st : SStep F own own' s s') (S : St W F own' g s'.heap) (y : ExcAt W (Vf F own') s.heap s'.heap e x) (xa : X x g) : notedBy W.M A F.env (cameBackBy W.M A F.env Es) e s' :=
  passes O T hA S b₀ st.2.1 y fun h' k S' y' => hE _ _ _ _ _ (st.x k) S' y' xa
theorem WS_whl (O : F.Ok W) (T : F.Top) {t : Expr} {b : List Stmt} {p : Pos} (h : ∃ I : Nat → G → Prop, (∃ n g₀, Sub g₀ g ∧ I n g₀) ∧ ∀ n g₀, I n g₀ → WT W F r g₀ t (fun c =>
      (c = true → WS W F r g₀ (execs b F.env) (turn Q fun g₁ => ∃ m, m < n ∧ I m g₁) X) ∧ (c = false → Q .nx g₀)) fun e => X e g₀) :
    WS W F r g (exec (.While t b [] p) F.env) Q X := fun A s own Qs Es hA S hQ hE => by
  obtain ⟨I, ⟨n, g₀, sb, i0⟩, step⟩ := h
  refine wpAny_While (codeAny_whileLoop (fun n s' => ∃ own' g', SStep F own own' s s' ∧ St W F own' g' s'.heap ∧ I n g') (fun n s₁ ⟨own₁, g₁, st₁, S₁, i1⟩ => ?_) n ⟨own, g₀, .of (.refl _ _), S.sub sb, i0⟩)
  have hE' : ∀ e s' own' x g', SStep F own₁ own' s₁ s' → St W F own' g' s'.heap → ExcAt W (Vf F own') s₁.heap s'.heap e x → X x g' → notedBy W.M A F.env (cameBackBy W.M A F.env Es) e s' :=
    fun e s' own' x g' st' S' y xa => pass_on O T hA S.base hE (st₁.trans st') S' (y.grow st₁.2.1) xa
  refine WX.inS O (step n g₁ i1) hA S₁ hE' fun v s₂ x st₂ S₂ rd q hE₂ => ?_
  subst rd
  cases v with
  | false => exact wpAny_execs_nil (hQ _ _ own₁ .nx g₁ (st₁.trans (.of st₂)) S₂ rfl (q.2 rfl))
  | true =>
    refine WS.seq O (q.1 rfl) hA S₂ hE₂ fun f s₃ own₃ fl g₃ st₃ S₃ fa q₃ hE₃ => ?_
    have st' := st₁.trans ((SStep.of st₂).trans st₃)
    cases fl with
    | nx =>
      cases fa
      obtain ⟨g₄, sb, m, hm, im⟩ := q₃
      exact ⟨m, hm, own₃, g₄, st', S₃.sub sb, im⟩
    | rt d =>
      obtain ⟨v, rfl, fd⟩ := id fa
      exact hQ _ _ own₃ (.rt d) g₃ st' S₃ ⟨v, rfl, fd⟩ q₃
/-- what a target is given -/
noncomputable def El (xs : List Nat) (h : Heap) (V : AP) (v : Value) (d : D) : Prop := match xs with
  | [_] => Den h V v d
  | _ => ∃ T vals es, v = .ref T ∧ d = .tuple es ∧ h.IsTuple T vals ∧ DenL h V vals.toList es
inductive Tgt (W : Wd) : Expr → List Nat → Prop
  | one {i : Nat} {p : Pos} : Tgt W (.Name (W.nm i) p) [i]
  | tup {es : List Expr} {i j : Nat} {k : Nat} {p : Pos} : Nms W es [i, j] → Tgt W (.Tuple es k p) [i, j]
theorem asg_tgt (B : W.Ok) (O : F.Ok W) (hA : AOk F r A) {t : Expr} {xs : List Nat} (n : Tgt W t xs) (ks : ∀ i ∈ xs, Sto W F i) (S : St W F own g s.heap) {v : Value} {d : D} {es : List D} (el : El xs s.heap (Vf F own) v d) (eu : unp xs d = some es)
    (e : es.length = xs.length) {Qu : Unit → Shared → Prop} (h : ∀ s' own', SStep F own own' s s' → St W F own' (G.sets g xs es) s'.heap → Qu () s') : wpAny W.M A (assign t F.env v) Qu Es s := by
  cases n with
  | one =>
    cases eu
    exact PySem.wpAny_assign_Name (storeD B O (ks _ List.mem_cons_self) S el fun s' st S' => h s' _ st S')
  | tup n =>
    obtain ⟨T, vals, es', rfl, rfl, ht, dd⟩ := el
    cases eu
    exact asg_tup B O hA n ks S ht dd e h
noncomputable def RecE (h : Heap) (b : Addr) : Prop := ∃ o vs, h.get? b = some o ∧ o.data = .fields vs
theorem RecE.rec_ {h : Heap} {b : Addr} (x : RecE h b) : Rec h b := fun o e => let ⟨_, vs, e', d⟩ := x; by rw [e] at e'; cases e'; exact rec_of d
/-- a source of values, opened -/
noncomputable def SrcOk (W : Wd) (F : Fx) (A : Around) (own : Own) (t : Expr) (xs : List Nat) (s₁ s₂ : Shared) (it : Value) (ds : List D) : Prop :=
  ∃ (I : Addr) (fp wr : List Addr) (P Md : Nat → Value → Heap → Prop) (Sx : Nat → Heap → Prop), it = .ref I ∧ KTurns W.prog W.w A t I fp wr ds.length P Md Sx ∧ Sx 0 s₂.heap ∧ (∀ i (s : Shared) (Q : Value → Shared → Prop) (E : Value → Shared → Prop), Sx i s.heap → Q (.ref I) s → wpAny W.M A (pyIter (.ref I)) Q E s) ∧
    (∀ b ∈ wr, s₁.heap.get? b = none) ∧ (∀ b ∈ fp, ¬ Vf F own b ∧ ∃ o, s₂.heap.get? b = some o) ∧
    (∀ i h, Sx i h → ∀ b ∈ wr, RecE h b) ∧ (∀ i v h, Md i v h → ∀ b ∈ wr, RecE h b) ∧
    ∀ i v h V (hi : i < ds.length), P i v h → (∀ u d, Den s₁.heap (Vf F own) u d → Den h V u d) → El xs h V v ds[i]
/-- a step of the source -/
theorem St.src (O : F.Ok W) (S : St W F own' g s'.heap) {h₀ : Heap} (b₀ : Stays W.hb h₀) {wr : List Addr} (n : ∀ b ∈ wr, h₀.get? b = none ∧ ¬ Vf F own' b ∧ Rec s'.heap b) {h' : Heap} (k : ∀ b o, b ∉ wr → s'.heap.get? b = some o → h'.get? b = some o) :
    St W F own' g h' ∧ ∀ v d, Den s'.heap (Vf F own') v d → Den h' (Vf F own') v d := by
  have kk : Keep (fun b => h₀.get? b = none ∧ ¬ Vf F own' b ∧ Rec s'.heap b) F.Fs s'.heap h' := fun b o nb e => ⟨o.slots, k b o (fun q => nb (n b q)) e, fun _ => rfl⟩
  exact ⟨S.xc O b₀ kk, fun v d => Den.xk kk O.fv⟩
end
end Mine
end
section
-- U19
set_option linter.unusedVariables false
set_option maxRecDepth 100000
namespace Mine
open PySem PySem.Calls PyProof.Rows PySem.W
section
variable {W : Wd} {F : Fx} {r : Nat} {own own' own'' : Own} {g : G} {Q : Fl → G → Prop} {X : Exc → G → Prop} {A : Around} {s s' s'' s₀ s₁ : Shared} {Qs : Flow → Shared → Prop} {Es : Value → Shared → Prop}
theorem SStep.src (a : SStep F own own' s s') {wr : List Addr} (n : ∀ b ∈ wr, s.heap.get? b = none) {h' : Heap} {t : Nat} (k : ∀ b o, b ∉ wr → s'.heap.get? b = some o → h'.get? b = some o) : SStep F own own' s { s' with heap := h', toks := t } := by
  obtain ⟨⟨h, t, rfl, k1⟩, g1, x1⟩ := a
  refine ⟨⟨h', _, rfl, k1.trans (X' := (· ∈ wr)) (fun b o nb e => ⟨o.slots, k b o nb e, fun _ => rfl⟩) fun b q => .inr (n b q)⟩, fun b nb => ?_, x1⟩
  by_cases q : b ∈ wr
  · exact n b q
  · refine g1 b ?_
    cases e : h.get? b with
    | none => rfl
    | some o => exact nomatch (k b o q e).symm.trans nb
/-- an iterable and its iterator -/
noncomputable def WIt (W : Wd) (F : Fx) (r : Nat) (g : G) (t : Expr) (xs : List Nat) (iter : Expr) (Q : List D → Prop) (X : Exc → Prop) : Prop :=
  ∀ (A : Around) (s : Shared) (own : Own) (Z : Value → Shared → Prop) (Es : Value → Shared → Prop), AOk F r A → St W F own g s.heap →
    (∀ it s₁ s₂ ds, Step F noA s s₁ → St W F own g s₁.heap → GStep s₁ s₂ → SrcOk W F A own t xs s₁ s₂ it ds → Q ds → Z it s₂) →
    (∀ e s' x, Step F noA s s' → ExcAt W (Vf F own) s.heap s'.heap e x → X x → Es e s') → wpAny W.M A (eval iter F.env) (fun x s₁ => wpAny W.M A (pyIter x) Z Es s₁) Es s
theorem WS_for (B : W.Ok) (O : F.Ok W) (T : F.Top) {t iter : Expr} {xs : List Nat} {b : List Stmt} {p : Pos} (n : Tgt W t xs) (ks : ∀ i ∈ xs, Sto W F i) (hs : ∀ x, foldedSetIterable iter F.env x = pure x)
    (h : WIt W F r g t xs iter (fun ds => ∃ I : List D → G → Prop, (∃ g₀, Sub g₀ g ∧ I ds g₀) ∧
      (∀ d rest g₀, I (d :: rest) g₀ → ∃ es, unp xs d = some es ∧ es.length = xs.length ∧ WS W F r (G.sets g₀ xs es) (execs b F.env) (turn Q (I rest)) X) ∧ ∀ g₀, I [] g₀ → Q .nx g₀) fun e => X e g) :
    WS W F r g (exec (.For t iter b [] p) F.env) Q X := fun A s own Qs Es hA S hQ hE => by
  refine wpAny_For (h A s own _ _ hA S (fun itv s₁ s₂ ds st₁ S₁ gs src q => ?_) fun e s' x st y xa => hE e s' own x g (.of st) (S.step O st) y xa) hs
  obtain ⟨I, fp, wr, P, Md, Sx, rfl, K, sx0, _, hwr, hfp, rc1, rc2, hP⟩ := src
  obtain ⟨J, ⟨g₀, sb, j0⟩, step, fin⟩ := q
  have S₂ : St W F own g s₂.heap := S₁.step O gs.up
  refine codeAny_forLoop_any (fun k s' => ∃ own' g' i, SStep F own own' s₁ s' ∧ St W F own' g' s'.heap ∧ (∀ b ∈ fp, ¬ Vf F own' b ∧ ∃ o, s'.heap.get? b = some o) ∧ Sx i s'.heap ∧ J (ds.drop i) g' ∧ i ≤ ds.length ∧ k = ds.length + 1 - i)
    ?_ (ds.length + 1) ⟨own, g₀, 0, .of gs.up, S₂.sub sb, hfp, sx0, j0, Nat.zero_le _, rfl⟩
  rintro k s' ⟨own', g', i, st, S', hf, sx, jj, hi, rfl⟩
  have nv : ∀ h, (∀ b ∈ wr, RecE h b) → ∀ b ∈ wr, s₁.heap.get? b = none ∧ ¬ Vf F own' b ∧ Rec h b := fun h rc b hb => ⟨hwr b hb, (hf b (K.sub b hb)).1, (rc b hb).rec_⟩
  by_cases hlt : i < ds.length
  · refine K.item i s' _ _ hlt sx fun v h₁ tk₁ md kk₁ => ?_
    obtain ⟨S1, d1⟩ := S'.src (s' := s') O S₁.base (nv _ (rc1 i _ sx)) kk₁
    have st1 := st.src (t := tk₁) hwr kk₁
    refine K.go i v _ _ _ md fun h₂ pv sx₂ kk₂ => ?_
    obtain ⟨S2, d2⟩ := S1.src (s' := { s' with heap := h₁, toks := tk₁ }) O S₁.base (nv _ (rc2 i v _ md)) kk₂
    have st2 := st1.src (t := tk₁) hwr kk₂
    have el := hP i v h₂ (Vf F own') hlt pv fun u d x => d2 _ _ (d1 _ _ (st.den O x))
    rw [List.drop_eq_getElem_cons hlt] at jj
    obtain ⟨es, eu, ee, body⟩ := step _ _ _ jj
    have ex : ∀ b ∈ fp, ∃ o, h₂.get? b = some o := fun b hb => (hf b hb).2.elim fun o e => by
      by_cases q : b ∈ wr
      · obtain ⟨o, _, e, _⟩ := rc1 _ _ sx₂ b q; exact ⟨o, e⟩
      · exact ⟨o, kk₂ b o q (kk₁ b o q e)⟩
    refine asg_tgt (s := { s' with heap := h₂, toks := tk₁ }) B O hA n ks S2 el eu ee fun s₃ own₃ st₃ S₃ => ?_
    have hE₃ : ∀ e s' own' x g', SStep F own₃ own' s₃ s' → St W F own' g' s'.heap → ExcAt W (Vf F own') s₃.heap s'.heap e x → X x g' → notedBy W.M A F.env (cameBackBy W.M A F.env Es) e s' := fun e s'' own' x g' st' S' y xa =>
      have tot := (SStep.of st₁).trans (st2.trans st₃)
      pass_on O T hA S.base hE (tot.trans st') S' (y.grow tot.2.1) xa
    refine WS.seq O body hA S₃ hE₃ fun f s₄ own₄ fl g₄ st₄ S₄ fa q₄ _ => ?_
    have st34 := st₃.trans st₄
    have stf := st2.trans st34
    cases fl with
    | rt d =>
      obtain ⟨v, rfl, fd⟩ := id fa
      exact hQ _ _ own₄ (.rt d) g₄ ((SStep.of st₁).trans stf) S₄ ⟨v, rfl, fd⟩ q₄
    | nx =>
      cases fa
      obtain ⟨g₅, sb, jr⟩ := q₄
      have kp : ∀ b ∈ fp, ∀ o, h₂.get? b = some o → s₄.heap.get? b = some o := fun b hb o e => st34.1.keep.get (fun x => (hf b hb).1 x.vf) (fun x => (hf b hb).1 (O.fv b x)) e
      refine ⟨ds.length + 1 - (i + 1), by omega, own₄, g₅, i + 1, stf, S₄.sub sb, fun b hb => ?_, K.frame _ _ _ sx₂ kp, jr, hlt, rfl⟩
      obtain ⟨o, e⟩ := ex b hb
      refine ⟨fun y => ?_, o, kp b hb o e⟩
      rcases y with y | y
      · exact (hf b hb).1 (.inl y)
      · exact (st34.2.2 b y).elim (fun z => (hf b hb).1 z.vf) fun z => nomatch e.symm.trans z
  · have : i = ds.length := by omega
    subst this
    refine K.done s' _ _ sx fun h₁ tk kk => wpAny_execs_nil ?_
    rw [List.drop_length] at jj
    exact hQ _ _ own' .nx g' ((SStep.of st₁).trans (st.src hwr kk)) (S'.src (s' := s') O S₁.base (nv _ (rc1 _ _ sx)) kk).1 rfl (fin _ jj)
end
end Mine
end
section
-- U20
set_option linter.unusedVariables false
set_option maxRecDepth 100000
namespace Mine
open PySem PySem.Calls PyProof.Rows PySem.W
section
variable {W : Wd} {F : Fx} {r : Nat} {own own' own'' : Own} {g : G} {Q : List D → Prop} {X : Exc → Prop} {A : Around} {s s' s'' s₀ s₁ s₂ : Shared} {Qs : Flow → Shared → Prop} {Es : Value → Shared → Prop}
/-- a source whose values are stored under one name -/
theorem src_one {i : Nat} {p : Pos} {I : Addr} {fp wr : List Addr} {n : Nat} {P : Nat → Value → Prop} {Sx : Nat → Heap → Prop} {ds : List D} (K : Walks W.prog W.w A I fp wr n P Sx) (en : n = ds.length) (sx : Sx 0 s₂.heap)
    (hwr : ∀ b ∈ wr, s₁.heap.get? b = none) (hfp : ∀ b ∈ fp, ¬ Vf F own b ∧ ∃ o, s₂.heap.get? b = some o) (rc : ∀ i h, Sx i h → ∀ b ∈ wr, RecE h b)
    (hP : ∀ i v h V (hi : i < ds.length), P i v → (∀ u d, Den s₁.heap (Vf F own) u d → Den h V u d) → Den h V v ds[i]) : SrcOk W F A own (.Name (W.nm i) p) [i] s₁ s₂ (.ref I) ds := by
  subst en
  exact ⟨I, fp, wr, _, _, Sx, rfl, KTurns.ofWalks K (fun i v s Q E _ q => wpAny_of_eq (a := ()) rfl q), sx, K.self, hwr, hfp, rc, fun i v h q => rc _ _ q.2, fun i v h V hi q => hP i v h V hi q⟩
theorem new_ok (S : St W F own g s₁.heap) (o : Obj) (ho : o.isFreed = false) : ¬ Vf F own s₁.heap.objs.size ∧ ∃ o', (s₁.heap.push o).get? s₁.heap.objs.size = some o' := ⟨S.fresh (get_top _), o, Heap.get?_push_size _ ho⟩
theorem at_den {h h₁ : Heap} {V V₁ : AP} {vs : List Value} {ds : List D} (d : DenL h₁ V₁ vs ds) {i : Nat} (hi : i < ds.length) {v : Value} (e : vs.toArray[i]? = some v) (k : ∀ u d, Den h₁ V₁ u d → Den h V u d) : Den h V v ds[i] := by
  obtain ⟨u, e', z⟩ := Paired.at (z := .none) d i hi
  rw [List.getElem?_toArray] at e
  rw [e] at e'; cases e'
  have : ds.getD i .none = ds[i] := by rw [List.getD_eq_getElem?_getD, List.getElem?_eq_getElem hi]; rfl
  rw [this] at z
  exact k _ _ z
/-- the elements of a closed sequence -/
noncomputable def seqL (d : D) (K : List D → Prop) : Prop := match d with | .list l => K l | .tuple l => K l | .bytes l => K (l.map fun c => .int c.toNat) | _ => False
theorem seq_src (hA : AOk F r A) (S₁ : St W F own g s₁.heap) {v : Value} {d : D} (rd : Den s₁.heap (Vf F own) v d) (q : seqL d Q) {i : Nat} {p : Pos} {Z : Value → Shared → Prop} {Es : Value → Shared → Prop}
    (hZ : ∀ it s₂ ds, GStep s₁ s₂ → SrcOk W F A own (.Name (W.nm i) p) [i] s₁ s₂ it ds → Q ds → Z it s₂) : wpAny W.M A (pyIter v) Z Es s₁ := by
  cases rd with
  | bytes l t =>
    refine KBw.pyIter_bytes ?_
    refine hZ _ _ _ (GStep.push _ _ _) (src_one (KBw.walks hA.1 _ _ t) (by rw [List.length_map, List.size_toArray]) ⟨_, Heap.get?_push_size _ rfl, rfl, rfl⟩ (fun b hb => ?_) (fun b hb => ?_) (fun i h sx b hb => ?_) fun i v h V hi q k => ?_) q
    · rw [List.mem_singleton.mp hb]; exact get_top _
    · rw [List.mem_singleton.mp hb]; exact new_ok S₁ _ rfl
    · rw [List.mem_singleton.mp hb]; obtain ⟨o, e, _, d⟩ := sx; exact ⟨o, _, e, d⟩
    · obtain ⟨c, u, ec, rfl⟩ := q
      rw [List.getElem?_toArray] at ec
      rw [List.getElem_map, (List.getElem?_eq_some_iff.mp ec).2]
      exact .int _ _
  | list la nv dl =>
    obtain ⟨n, la⟩ := la
    have ha := Heap.lt_size la
    refine PySem.wpAny_pyIter_list la.isList ?_
    refine hZ _ _ _ (GStep.push _ _ _) (src_one (Walks.list hA.1 _ _ (Nat.ne_of_lt ha) _) (by rw [List.size_toArray, Paired.length dl]) ⟨⟨_, Heap.get?_push_size _ rfl, rfl, rfl⟩, (IsL.push la _).isList⟩ (fun b hb => ?_) (fun b hb => ?_) (fun i h sx b hb => ?_) fun i v h V hi q k => at_den dl hi q k) q
    · rw [List.mem_singleton.mp hb]; exact get_top _
    · rcases List.mem_cons.mp hb with rfl | hb
      · exact new_ok S₁ _ rfl
      · rw [List.mem_singleton.mp hb]; exact ⟨nv, _, IsL.push la _⟩
    · rw [List.mem_singleton.mp hb]; obtain ⟨⟨o, e, _, d⟩, _⟩ := sx; exact ⟨o, _, e, d⟩
  | tup la nv dl =>
    have ha := la.elim fun _ e => Heap.lt_size e
    refine wpAny_pyIter_tuple (tup_at la) ?_
    refine hZ _ _ _ (GStep.push _ _ _) (src_one (Walks.tuple hA.1 _ _ (Nat.ne_of_lt ha) _) (by rw [List.size_toArray, Paired.length dl]) ⟨⟨_, Heap.get?_push_size _ rfl, rfl, rfl⟩, tup_at (la.imp fun _ e => Heap.get?_push_of_some _ e)⟩ (fun b hb => ?_) (fun b hb => ?_) (fun i h sx b hb => ?_) fun i v h V hi q k => at_den dl hi q k) q
    · rw [List.mem_singleton.mp hb]; exact get_top _
    · rcases List.mem_cons.mp hb with rfl | hb
      · exact new_ok S₁ _ rfl
      · rw [List.mem_singleton.mp hb]; exact ⟨nv, la.elim fun _ e => ⟨_, Heap.get?_push_of_some _ e⟩⟩
    · rw [List.mem_singleton.mp hb]; obtain ⟨⟨o, e, _, d⟩, _⟩ := sx; exact ⟨o, _, e, d⟩
  | _ => exact q.elim
theorem WIt_seq (O : F.Ok W) {i : Nat} {p : Pos} {e : Expr} (h : WE W F r g e (fun x => isC x fun d => seqL d Q) X) : WIt W F r g (.Name (W.nm i) p) [i] e Q X := fun A s own Z Es hA S hZ hE =>
  WX.seq O h hA S hE fun v s₁ x st S₁ rd q hE₁ => by
    obtain ⟨d, rfl, q⟩ := isC_elim q
    exact seq_src hA S₁ rd q fun it s₂ ds gs src q => hZ it s₁ s₂ ds st S₁ gs src q
theorem rngL_length (a c : Int) (n : Nat) : (rngL a c n).length = n := by
  induction n generalizing a with
  | zero => rfl
  | succ n ih => exact congrArg Nat.succ (ih _)
theorem rngL_at (c : Int) : ∀ (n : Nat) (a : Int) (i : Nat) (h : i < (rngL a c n).length), (rngL a c n)[i] = .int (a + i * c)
  | 0, _, _, h => absurd h (Nat.not_lt_zero _)
  | n + 1, a, 0, h => by show WData.int a = _; rw [Int.natCast_zero, Int.zero_mul, Int.add_zero]
  | n + 1, a, i + 1, h => by
    show (rngL (a + c) c n)[i]'_ = _
    rw [rngL_at c n (a + c) i]
    congr 1
    rw [Int.natCast_succ, Int.add_mul, Int.one_mul]; omega
/-- the iterator of a range -/
theorem rng_src (hA : AOk F r A) (S : St W F own g s₁.heap) {a b c : Int} {t u v : Tok} {s₁' : Shared} (gs : s₁' = { s₁ with heap := s₁.heap.push { cls := .type "range", data := .fields #[.int a t, .int b u, .int c v] }, toks := s₁'.toks })
    (hs : Builtin.Range.small a b c = true) (hn : 0 ≤ Builtin.Range.rangeSize a b c) {i : Nat} {p : Pos} {Z : Value → Shared → Prop} (h : ∀ it s₂, GStep s₁ s₂ → SrcOk W F A own (.Name (W.nm i) p) [i] s₁ s₂ it (rngL a c (rngN a b c)) → Z it s₂) :
    wpAny W.M A (pyIter (.ref s₁.heap.objs.size)) Z Es s₁' := by
  rw [gs]
  refine wpAny_pyIter_range (IsRange.new _ _ _ _ _ _ _) hs ?_
  have k : Stays s₁.heap ((s₁.heap.push { cls := .type "range", data := .fields #[.int a t, .int b u, .int c v] }).push { cls := .type "range_iterator", data := .fields #[rawInt a, rawInt (Builtin.Range.rangeSize a b c), rawInt c] }) :=
    fun _ _ e => Heap.get?_push_of_some _ (Heap.get?_push_of_some _ e)
  have nI : s₁.heap.get? (s₁.heap.push { cls := .type "range", data := .fields #[.int a t, .int b u, .int c v] }).objs.size = none := by
    cases e : s₁.heap.get? (s₁.heap.push { cls := .type "range", data := .fields #[.int a t, .int b u, .int c v] }).objs.size with
    | none => rfl
    | some o => exact absurd (Heap.lt_size e) (by rw [Heap.size_push]; exact Nat.not_lt.mpr (Nat.le_succ _))
  refine h _ _ ⟨_, _, rfl, k⟩ (src_one (Walks.range hA.1 _ a c (rngN a b c)) (rngL_length _ _ _).symm ?_ (fun b hb => ?_) (fun b hb => ?_) (fun i h sx b hb => ?_) fun i v h V hi q _ => ?_)
  · have e := Heap.get?_push_size (s₁.heap.push { cls := .type "range", data := .fields #[.int a t, .int b u, .int c v] }) (o := { cls := .type "range_iterator", data := .fields #[rawInt a, rawInt (Builtin.Range.rangeSize a b c), rawInt c] }) rfl
    have e1 : a + ((0 : Nat) : Int) * c = a := by simp
    have e2 : (rngN a b c : Int) - ((0 : Nat) : Int) = Builtin.Range.rangeSize a b c := by unfold rngN; rw [Int.toNat_of_nonneg hn]; simp
    show IsRangeIter _ _ _ _ _
    rw [e1, e2]; exact e
  · rw [List.mem_singleton.mp hb]; exact nI
  · rw [List.mem_singleton.mp hb]; exact ⟨S.fresh nI, _, Heap.get?_push_size _ rfl⟩
  · rw [List.mem_singleton.mp hb]; exact ⟨_, _, sx, rfl⟩
  · obtain ⟨t, rfl⟩ := q
    rw [rngL_at]
    exact .int _ _
theorem small_ok {a b c : Int} (ha : -4096 ≤ a ∧ a ≤ 4096) (hb : -4096 ≤ b ∧ b ≤ 4096) (hc : 0 < c ∧ c ≤ 4096) : Builtin.Range.small a b c = true ∧ 0 ≤ Builtin.Range.rangeSize a b c := by
  have hr : 0 ≤ Builtin.Range.rangeSize a b c ∧ Builtin.Range.rangeSize a b c ≤ 8193 := by
    unfold Builtin.Range.rangeSize
    rw [if_pos hc.1]
    by_cases h : a < b
    · rw [if_pos h]
      have h1 := Int.ediv_nonneg (a := b - a - 1) (b := c) (by omega) (by omega)
      have h2 := Int.ediv_le_self (a := b - a - 1) c (by omega)
      omega
    · rw [if_neg h]; omega
  refine ⟨?_, hr.1⟩
  have f : ∀ x : Int, -9000 ≤ x → x ≤ 9000 → Builtin.Range.rangeFitsLong x = true := fun x h1 h2 => by
    unfold Builtin.Range.rangeFitsLong
    rw [Bool.and_eq_true]
    exact ⟨decide_eq_true (by omega), decide_eq_true (by omega)⟩
  unfold Builtin.Range.small
  rw [f a (by omega) (by omega), f b (by omega) (by omega), f c (by omega) (by omega), f _ (by omega) (by omega), if_pos hc.1, f (b + (c - 1)) (by omega) (by omega), Bool.or_true]
  rfl
theorem WIt_rng1 (B : W.Ok) (O : F.Ok W) {i : Nat} {p np pp : Pos} {e : Expr} (he : notStar e = true) (hk : F.env.kindOf "range" = some .globalImplicit)
    (h : WE W F r g e (fun x => isI x.d fun n => 0 ≤ n ∧ n ≤ 4096 ∧ Q (rngL 0 1 (rngN 0 n 1))) X) : WIt W F r g (.Name (W.nm i) p) [i] (.Call (.Name "range" np) [e] [] pp) Q X := fun A s own Z Es hA S hZ hE => by
  refine wpAny_Call_ofName (name_bi B O S (f := 7) hk ?_)
  rw [back_cons he]
  refine callWith_bi (f := 7) rfl (evalArgs_plain (spliced_cons (WX.seq O h hA S hE fun v s₁ x st₁ S₁ rx q₁ hE₁ => spliced_nil ?_)))
  obtain ⟨n, en, q0, q1, q⟩ := isI_elim q₁
  have t := RDen.t rx
  rw [en] at t
  obtain ⟨t, rfl⟩ := t
  obtain ⟨k1, k2⟩ := small_ok (a := 0) (b := n) (c := 1) ⟨by omega, by omega⟩ ⟨by omega, by omega⟩ ⟨by omega, by omega⟩
  exact call_range_1 (rng_src hA S₁ rfl k1 k2 fun it s₂ gs src => hZ it s₁ s₂ _ st₁ S₁ gs src q)
theorem WIt_rng3 (B : W.Ok) (O : F.Ok W) {i : Nat} {p np pp : Pos} {e1 e2 e3 : Expr} (he : notStar e1 = true) (he2 : notStar e2 = true) (he3 : notStar e3 = true) (hk : F.env.kindOf "range" = some .globalImplicit)
    (h : WE W F r g e1 (fun x => WE W F r g e2 (fun y => WE W F r g e3 (fun z => isI x.d fun a => isI y.d fun b => isI z.d fun c => 0 < c ∧ c ≤ 4096 ∧ 0 ≤ a ∧ a ≤ 4096 ∧ -4096 ≤ b ∧ b ≤ 4096 ∧ Q (rngL a c (rngN a b c))) X) X) X) :
    WIt W F r g (.Name (W.nm i) p) [i] (.Call (.Name "range" np) [e1, e2, e3] [] pp) Q X := fun A s own Z Es hA S hZ hE => by
  refine wpAny_Call_ofName (name_bi B O S (f := 7) hk ?_)
  rw [back_cons he, back_cons he2, back_cons he3]
  refine callWith_bi (f := 7) rfl (evalArgs_plain (spliced_cons (WX.seq O h hA S hE fun v s₁ x st₁ S₁ rx q₁ hE₁ => spliced_cons (WX.seq O q₁ hA S₁ hE₁ fun u s₂ y st₂ S₂ ry q₂ hE₂ => spliced_cons (WX.seq O q₂ hA S₂ hE₂ fun z s₃ y' st₃ S₃ rz q₃ hE₃ => spliced_nil ?_)))))
  obtain ⟨a, ea, q⟩ := isI_elim q₃
  obtain ⟨b, eb, q⟩ := isI_elim q
  obtain ⟨c, ec, c1, c2, a1, a2, b1, b2, q⟩ := isI_elim q
  have t := RDen.t rx
  rw [ea] at t
  obtain ⟨t, rfl⟩ := t
  have t' := RDen.t ry
  rw [eb] at t'
  obtain ⟨t', rfl⟩ := t'
  have t'' := RDen.t rz
  rw [ec] at t''
  obtain ⟨t'', rfl⟩ := t''
  obtain ⟨k1, k2⟩ := small_ok (a := a) (b := b) (c := c) ⟨by omega, a2⟩ ⟨b1, b2⟩ ⟨c1, c2⟩
  exact call_range_3 (by omega) (rng_src hA S₃ rfl k1 k2 fun it s₄ gs src => hZ it s₃ s₄ _ (st₁.trans (st₂.trans st₃)) S₃ gs src q) (Or.inl (PyProof.noPylong_small (by omega)))
end
end Mine
end
section
-- U21
set_option linter.unusedVariables false
set_option maxRecDepth 100000
namespace Mine
open PySem PySem.Calls PyProof.Rows PySem.W
section
variable {W : Wd} {F : Fx} {r : Nat} {own own' own'' : Own} {g : G} {Q : List D → Prop} {X : Exc → Prop} {A : Around} {s s' s'' s₀ s₁ s₂ : Shared} {Qs : Flow → Shared → Prop} {Es : Value → Shared → Prop}
theorem enumL_length (l : List D) : ∀ n : Int, (enumL n l).length = l.length := by
  induction l with
  | nil => intro n; rfl
  | cons d l ih => intro n; exact congrArg Nat.succ (ih _)
theorem enumL_at : ∀ (l : List D) (n : Int) (i : Nat) (h : i < (enumL n l).length) (h' : i < l.length), (enumL n l)[i] = .tuple [.int (n + i), l[i]]
  | [], _, _, h, _ => absurd h (Nat.not_lt_zero _)
  | d :: l, n, 0, _, _ => by show WData.tuple [.int n, d] = .tuple [.int (n + ((0 : Nat) : Int)), d]; rw [Int.natCast_zero, Int.add_zero]
  | d :: l, n, i + 1, h, h' => by
    show (enumL (n + 1) l)[i]'_ = .tuple [.int (n + ((i + 1 : Nat) : Int)), l[i]'_]
    rw [enumL_at l (n + 1) i _ (Nat.lt_of_succ_lt_succ h'), Int.natCast_succ, Int.add_assoc, Int.add_comm 1]
theorem WIt_enum (B : W.Ok) (O : F.Ok W) {i j k : Nat} {es : List Expr} {p np pp : Pos} {e : Expr} (he : notStar e = true) (hk : F.env.kindOf "enumerate" = some .globalImplicit)
    (h : WE W F r g e (fun x => isC x fun d => isL d fun l => Q (enumL 0 l)) X) : WIt W F r g (.Tuple es k p) [i, j] (.Call (.Name "enumerate" np) [e] [] pp) Q X := fun A s own Z Es hA S hZ hE => by
  refine wpAny_Call_ofName (name_bi B O S (f := 8) hk ?_)
  rw [back_cons he]
  refine callWith_bi (f := 8) rfl (evalArgs_plain (spliced_cons (WX.seq O h hA S hE fun v s₁ x st₁ S₁ rx q₁ hE₁ => spliced_nil ?_)))
  obtain ⟨d, rfl, q⟩ := isC_elim q₁
  obtain ⟨l, rfl, q⟩ := isL_elim q
  cases rx with
  | list la nv dl =>
    rename_i a vs
    obtain ⟨n, la⟩ := la
    have ha : a < s₁.heap.objs.size := Heap.lt_size la
    refine call_enumerate_list la.isList fun h' ie il hz kp => ?_
    have K := WalksT.enumerate (prog := W.prog) (w := W.w) hA.1 (s₁.heap.objs.size + 1) s₁.heap.objs.size a (Nat.succ_ne_self _) (Nat.ne_of_lt (Nat.lt_succ_of_lt ha)) (Nat.ne_of_lt ha) vs.toArray
    have sx : (∃ old, IsEnum h' (s₁.heap.objs.size + 1) s₁.heap.objs.size ((0 : Nat) : Int) old) ∧ h'.IsListIter s₁.heap.objs.size a 0 ∧ h'.IsList a vs.toArray := ⟨⟨_, ie⟩, il, IsL.isList (kp _ _ la)⟩
    refine K.self 0 _ _ _ sx (hZ _ s₁ _ (enumL 0 l) st₁ S₁ ⟨h', s₁.toks, rfl, kp⟩ ?_ q)
    have en : vs.toArray.size = (enumL 0 l).length := by rw [enumL_length, List.size_toArray, Paired.length dl]
    have KT := KTurns.ofWalksU (elts := es) (k := k) (pos := p) K.toU
    rw [en] at KT
    refine ⟨_, _, _, _, _, _, rfl, KT, sx, K.self, fun b hb => ?_, fun b hb => ?_, fun i h sx b hb => ?_, fun i v h sx b hb => ?_, fun i v h V hi q k => ?_⟩
    · have n1 : ∀ b, s₁.heap.objs.size ≤ b → s₁.heap.get? b = none := fun b hb => Heap.get?_none_of_le hb
      rcases List.mem_cons.mp hb with rfl | hb
      · exact n1 _ (by omega)
      · rw [List.mem_singleton.mp hb]; exact n1 _ (Nat.le_refl _)
    · rcases List.mem_cons.mp hb with rfl | hb
      · exact ⟨S₁.fresh (Heap.get?_none_of_le (by omega)), _, ie⟩
      · rcases List.mem_cons.mp hb with rfl | hb
        · exact ⟨S₁.fresh (Heap.get?_none_of_le (Nat.le_refl _)), il.elim fun o e => ⟨o, e.1⟩⟩
        · rw [List.mem_singleton.mp hb]; exact ⟨nv, _, kp _ _ la⟩
    · obtain ⟨⟨_, x1⟩, ⟨o, x2, _, x3⟩, _⟩ := sx
      rcases List.mem_cons.mp hb with rfl | hb
      · exact ⟨_, _, x1, rfl⟩
      · rw [List.mem_singleton.mp hb]; exact ⟨o, _, x2, x3⟩
    · obtain ⟨T, vals, _, _, _, ⟨_, x1⟩, ⟨o, x2, _, x3⟩, _⟩ := sx
      rcases List.mem_cons.mp hb with rfl | hb
      · exact ⟨_, _, x1, rfl⟩
      · rw [List.mem_singleton.mp hb]; exact ⟨o, _, x2, x3⟩
    · obtain ⟨T, vals, rfl, ⟨t, x, ex, rfl⟩, ht⟩ := q
      have hi' : i < l.length := by rw [enumL_length] at hi; exact hi
      rw [enumL_at l 0 i hi hi', Int.zero_add]
      exact ⟨T, _, _, rfl, rfl, ht, .cons (.int _ _) (.cons (at_den dl hi' ex k) .nil)⟩
end
end Mine
end
section
-- U22
set_option linter.unusedVariables false
set_option maxRecDepth 100000
namespace Mine
open PySem PySem.Calls PyProof.Rows PySem.W
/-- the cells that a comprehension is given -/
noncomputable def clOf (cells : List (Str × Addr)) : List (Str × NameKind) → List (Str × Addr) → List (Str × Addr)
  | [], acc => acc
  | (n, k) :: r, acc => clOf cells r (if k == .free then (n, (cells.lookup n).getD 0) :: acc else acc)
theorem clo_eq {scope : Scope} {env : Env} (h : ∀ x ∈ scope.names, x.2 = .free → (env.cells.lookup x.1).isSome = true) : closureFor scope env = pure (clOf env.cells scope.names []) := by
  have key : ∀ (l : List (Str × NameKind)) (acc : List (Str × Addr)), (∀ x ∈ l, x.2 = .free → (env.cells.lookup x.1).isSome = true) →
      (forIn l acc (fun (x : Str × NameKind) (cs : List (Str × Addr)) => (if (x.2 == .free) = true then (do let a ← cellOf env x.1; pure (ForInStep.yield ((x.1, a) :: cs))) else pure (ForInStep.yield cs) : Sem (ForInStep (List (Str × Addr)))))) = (pure (clOf env.cells l acc) : Sem (List (Str × Addr))) := by
    intro l
    induction l with
    | nil => intro acc _; rfl
    | cons x l ih =>
      intro acc hx
      obtain ⟨n, k⟩ := x
      rw [List.forIn_cons]
      cases hk : (k == NameKind.free) with
      | false =>
        simp only [Bool.false_eq_true, if_false, pure_bind]
        rw [ih _ fun y hy => hx y (List.mem_cons_of_mem _ hy)]
        simp only [clOf, hk, Bool.false_eq_true, if_false]
      | true =>
        have hs := hx (n, k) List.mem_cons_self (by simpa using hk)
        obtain ⟨a, ha⟩ := Option.isSome_iff_exists.mp hs
        dsimp only at ha
        have hc : cellOf env n = pure a := by unfold cellOf; rw [ha]
        simp only [if_true, hc, pure_bind]
        rw [ih _ fun y hy => hx y (List.mem_cons_of_mem _ hy)]
        simp only [clOf, hk, if_true, ha, Option.getD_some]
  unfold closureFor
  simpa using key scope.names [] h
theorem cl_lookup {cells : List (Str × Addr)} {x : Str} {a : Addr} (ha : cells.lookup x = some a) : ∀ (l : List (Str × NameKind)) (acc : List (Str × Addr)), (x, NameKind.free) ∈ l ∨ acc.lookup x = some a → (clOf cells l acc).lookup x = some a
  | [], acc, h => h.elim (fun q => nomatch q) id
  | (n, k) :: r, acc, h => by
    unfold clOf
    refine cl_lookup ha r _ ?_
    cases hk : (k == NameKind.free) with
    | false =>
      simp only [Bool.false_eq_true, if_false]
      refine h.imp (fun q => ?_) id
      rcases List.mem_cons.mp q with q | q
      · cases q; cases hk
      · exact q
    | true =>
      simp only [if_true]
      rcases h with q | q
      · rcases List.mem_cons.mp q with q | q
        · cases q; right; simp [List.lookup_cons, ha]
        · exact .inl q
      · right
        rw [List.lookup_cons]
        cases e : x == n with
        | false => exact q
        | true => rw [← eq_of_beq e, ha]; rfl
theorem relabel_lookup {env : Env} {x : Str} {k : NameKind} : ∀ {names : List (Str × NameKind)}, names.lookup x = some k →
    (names.map fun (n, k) => if (k == NameKind.free && env.scope.kind == .function && env.kindOf n == some .cell) then (n, NameKind.cell) else (n, k)).lookup x = some k ∨
    (k = .free ∧ (names.map fun (n, k) => if (k == NameKind.free && env.scope.kind == .function && env.kindOf n == some .cell) then (n, NameKind.cell) else (n, k)).lookup x = some .cell)
  | [], h => by simp at h
  | (n, k') :: r, h => by
    have ih := @relabel_lookup env x k r
    simp only [List.map_cons]
    rw [List.lookup_cons] at h
    cases hx : x == n with
    | false =>
      rw [hx] at h
      by_cases hc : (k' == NameKind.free && env.scope.kind == .function && env.kindOf n == some .cell) = true
      · rw [if_pos hc]; simp only [List.lookup_cons, hx]; exact ih h
      · rw [if_neg hc]; simp only [List.lookup_cons, hx]; exact ih h
    | true =>
      rw [hx] at h
      cases h
      by_cases hc : (k == NameKind.free && env.scope.kind == .function && env.kindOf n == some .cell) = true
      · rw [if_pos hc]
        right
        simp only [Bool.and_eq_true] at hc
        exact ⟨eq_of_beq hc.1.1, by simp only [List.lookup_cons, hx]⟩
      · rw [if_neg hc]; left; simp only [List.lookup_cons, hx]
end Mine
end
section
-- U23
set_option linter.unusedVariables false
set_option maxRecDepth 100000
namespace Mine
open PySem PySem.Calls PyProof.Rows PySem.W
section
variable {W : Wd} {F : Fx} {r : Nat} {own own' own'' : Own} {g : G} {Q : List D → Prop} {X : Exc → Prop} {A : Around} {s s' s'' s₀ s₁ s₂ : Shared} {Qs : Flow → Shared → Prop} {Es : Value → Shared → Prop}
/-- the frame of a comprehension -/
noncomputable def cFx (F : Fx) (own : Own) (scope : Scope) (C : Addr) (Z : AP) : Fx := { env := compEnvC scope (clOf F.env.cells scope.names []) C F.env, Z := Z, Y := Vf F own, frs := F.frs, cel := [] }
theorem Step.new {X : AP} {h : Heap} {t : Nat} (n : ∀ b, X b → s.heap.get? b = Option.none) (k : Keep X F.Fs s.heap h) : Step F noA s { s with heap := h, toks := t } :=
  ⟨h, t, rfl, fun b o _ e => k b o (fun x => nomatch (n b x).symm.trans e) e⟩
/-- what a comprehension needs of its frame -/
structure CpOk (W : Wd) (F : Fx) (scope : Scope) (x : Nat) (fv : List Nat) : Prop where
  kind : scope.kind = .function
  nocell : ∀ y ∈ scope.names, y.2 ≠ .cell
  hx : x < 128 ∧ scope.names.lookup (W.nm x) = some .local
  clo : ∀ y ∈ scope.names, y.2 = .free → (F.env.cells.lookup y.1).isSome = true
  fv : ∀ i ∈ fv, (W.nm i, NameKind.free) ∈ scope.names ∧ scope.names.lookup (W.nm i) = some .free ∧ F.env.kindOf (W.nm i) = some .cell
theorem pick_get {g g' : G} : ∀ {fv : List Nat}, g.pick fv = some g' → ∀ {i : Nat} {l : L}, g'.get i = some l → i ∈ fv ∧ ∃ d, l = .v d ∧ g.get i = some (.v d)
  | [], h, i, l, e => by cases h; cases e
  | j :: fv, h, i, l, e => by
    unfold G.pick at h
    cases ej : g.get j with
    | none => rw [ej] at h; cases h
    | some q => cases q with
      | o _ => rw [ej] at h; cases h
      | v d =>
        rw [ej] at h
        cases ep : g.pick fv with
        | none => simp only [ep] at h; cases h
        | some g₁ =>
          simp only [ep] at h
          cases h
          unfold G.get at e
          cases hb : Nat.beq i j with
          | true => rw [hb] at e; cases e; rw [Nat.eq_of_beq_eq_true hb]; exact ⟨List.mem_cons_self, d, rfl, ej⟩
          | false => rw [hb] at e; obtain ⟨q, d, q'⟩ := pick_get ep e; exact ⟨List.mem_cons_of_mem _ q, d, q'⟩
theorem cFx_ok (O : F.Ok W) (S₁ : St W F own g s₁.heap) {scope : Scope} {x : Nat} {fv : List Nat} (K : CpOk W F scope x fv) {C : Addr} {Z : AP} (hc : Z C) (hz : ∀ a, Z a → s₁.heap.get? a = none) : (cFx F own scope C Z).Ok W where
  kind := K.kind
  gl := O.gl
  bl := O.bl
  loc := hc
  new := fun a y => y.elim (O.vnew S₁ a) fun z => by
    cases e : W.hb.get? a with
    | none => rfl
    | some o => exact nomatch (hz a z).symm.trans (S₁.base a o e)
  fs := fun a f => .inl (O.fv a f)
  apart := fun a z y => S₁.fresh (hz a z) y
  celk := fun _ _ e => nomatch e
/-- the state of a turn -/
theorem cFx_st (O : F.Ok W) (S₁ : St W F own g s₁.heap) {scope : Scope} {x : Nat} {fv : List Nat} (K : CpOk W F scope x fv) {C : Addr} {Z : AP} (hc : Z C) (hz : ∀ a, Z a → s₁.heap.get? a = none) {g' : G} (hg : g.pick fv = some g')
    {h : Heap} (k : Keep noA F.Fs s₁.heap h) (lz : ∀ a, Z a → ∃ o, h.get? a = some o) {m : Str → Option Value} (n : h.Ns C m) {v : Value} {d : D} (em : m (W.nm x) = some v) (dv : Den h (Vf (cFx F own scope C Z) fun _ => none) v d) :
    St W (cFx F own scope C Z) (fun _ => none) (G.set g' x (.v d)) h := by
  have vf : ∀ a, Vf (cFx F own scope C Z) (fun _ => none) a → Vf F own a ∨ s₁.heap.get? a = none := fun a y => by
    rcases y with y | y | ⟨_, y⟩
    · exact .inl y
    · exact .inr (hz a y)
    · cases y
  refine ⟨base_keep O S₁.base k (fun _ f => f.elim) (O.new _ (.inr O.loc)), ⟨m, n, fun i l e => ?_⟩, fun a y => ?_, fun _ _ _ e => (nomatch e), fun _ _ e => (nomatch e), S₁.fr.keep k fun _ _ f => f, fun _ _ e => (nomatch e)⟩
  · by_cases ei : i = x
    · subst ei
      rw [G.get_set_self] at e
      cases e
      refine ⟨K.hx.1, v, .inl ⟨?_, em⟩, dv⟩
      rcases relabel_lookup (env := F.env) K.hx.2 with q | q
      · exact q
      · exact nomatch q.1
    · rw [G.get_set_ne _ (by cases hq : Nat.beq i x with | false => rfl | true => exact absurd (Nat.eq_of_beq_eq_true hq) ei)] at e
      obtain ⟨hi, d, rfl, eg⟩ := pick_get hg e
      obtain ⟨m₁, _, rd⟩ := S₁.rd
      obtain ⟨i1, u, ra, ld⟩ := rd i _ eg
      obtain ⟨f1, f2, f3⟩ := K.fv i hi
      refine ⟨i1, u, ?_, Den.keep' k (fun _ f => f.elim) O.fv vf ld⟩
      rcases ra with ⟨q, _⟩ | ⟨_, c, q, ic⟩
      · rw [f3] at q; cases q
      · refine .inr ⟨?_, c, cl_lookup q _ _ (.inl f1), cell_keep k (fun f => f) ic⟩
        rcases relabel_lookup (env := F.env) f2 with q | q
        · exact .inr q
        · exact .inl q.2
  · rcases y with y | y | ⟨_, y⟩
    · exact k.some (fun f => f) (S₁.live a y)
    · exact lz a y
    · cases y
end
end Mine
end
section
-- U24
set_option linter.unusedVariables false
set_option maxRecDepth 100000
namespace Mine
open PySem PySem.Calls PyProof.Rows PySem.W
section
variable {W : Wd} {F : Fx} {r : Nat} {own own' own'' : Own} {g : G} {Q : List D → Prop} {X : Exc → Prop} {A : Around} {s s' s'' s₀ s₁ s₂ : Shared} {Qs : Flow → Shared → Prop} {Es : Value → Shared → Prop}
theorem plain_ls {h : Heap} {a : Addr} {vs : List Value} : LsA h a vs → h.PlainList a vs.toArray := id
/-- what the turns of a comprehension do -/
noncomputable def Elt (W : Wd) (F : Fx) (r : Nat) (own : Own) (g' : G) (scope : Scope) (x : Nat) (elt : Expr) (ds : List D) (f : D → D) : Prop :=
  ∀ C Z, (cFx F own scope C Z).Ok W → ∀ d ∈ ds, WE W (cFx F own scope C Z) r (G.set g' x (.v d)) elt (fun y => isC y fun e => e = f d) fun _ => False
theorem comp_block (B : W.Ok) (O : F.Ok W) (hA : AOk F r A) (S₁ : St W F own g s₁.heap) (gs : GStep s₁ s₂) {scope : Scope} {x : Nat} {fv : List Nat} (K : CpOk W F scope x fv) {g' : G} (hg : g.pick fv = some g') {elt iter : Expr} {px pos : Pos} {it : Value} {ds : List D}
    (src : SrcOk W F A own (.Name (W.nm x) px) [x] s₁ s₂ it ds) (z : ds.length ≤ 4096) {f : D → D} (body : Elt W F r own g' scope x elt ds f) {RR : Value → Addr → Result → Shared → Prop}
    (hR : ∀ Da C h' tk m' vs, s₁.heap.get? Da = none → s₁.heap.get? C = none → Da ≠ C → h'.Ns C m' → LsA h' Da vs → DenL h' (fun a => Vf F own a ∨ a = C) vs (ds.map f) → Step F noA s₁ { s₁ with heap := h', toks := tk } → RR (.ref Da) C (.ok .next) { s₁ with heap := h', toks := tk }) :
    wpAny W.M A (newList []) (fun acc s₃ => wpAny W.M A (newFunctionEnv scope F.env.globals (clOf F.env.cells scope.names []) [] F.env.qual none .none (some F.env)) (fun cenv s₄ =>
      codeAny W.M A (.compStart (.ListComp elt [⟨.Name (W.nm x) px, iter, [], 0⟩] scope pos) 0 it acc { cenv with scope := relabel scope F.env }) (RR acc cenv.locals) s₄) Es s₃) Es s₂ := by
  obtain ⟨I, fp, wr, P, Md, Sx, rfl, KT, sx0, self, hwr, hfp, rc1, rc2, hP⟩ := src
  obtain ⟨h₂, t₂, rfl, k₂⟩ := gs
  refine wpAny_newObj_type (wpAny_newFunctionEnv K.nocell (by intro y hy; simp at hy) (fun h₁ hns₁ hsb₁ => ?_) K.kind)
  dsimp only at hns₁ hsb₁ sx0 hfp ⊢
  generalize hH2 : h₂.push { cls := .type "list", dict := none, data := .seq ([] : List Value).toArray } = H2 at hns₁ hsb₁ ⊢
  have hC : H2.objs.size = h₂.objs.size + 1 := by rw [← hH2, Heap.size_push]
  generalize hc : H2.objs.size = C at hns₁ hsb₁ hC ⊢
  generalize hd : h₂.objs.size = Da at hC ⊢
  have old : ∀ b o, h₂.get? b = some o → h₁.get? b = some o := fun b o e => hsb₁.extBut b o (by have := Heap.lt_size e; rw [hd] at this; rw [hC]; exact Nat.ne_of_lt (Nat.lt_succ_of_lt this)) (Heap.get?_push_of_some _ (hH2 ▸ Heap.get?_push_of_some _ e))
  have nD : h₂.get? Da = none := hd ▸ get_top _
  have nC : h₂.get? C = none := Heap.get?_none_of_le (by rw [hC, hd]; exact Nat.le_succ _)
  have DC : Da ≠ C := by rw [hC]; exact Nat.ne_of_lt (Nat.lt_succ_self _)
  have no1 : ∀ b, h₂.get? b = none → s₁.heap.get? b = none := fun b n => by
    cases e : s₁.heap.get? b with
    | none => rfl
    | some o => exact nomatch n.symm.trans (k₂ b o e)
  have accD : LsA h₁ Da [] := ⟨0, hsb₁.extBut _ _ DC (Heap.get?_push_of_some _ (hH2 ▸ hd ▸ Heap.get?_push_size _ rfl))⟩
  have nf : ∀ b ∈ fp, b ≠ C ∧ b ≠ Da := fun b hb => (hfp b hb).2.elim fun o e => ⟨fun q => by subst q; exact (nomatch nC.symm.trans e), fun q => by subst q; exact (nomatch nD.symm.trans e)⟩
  let Z : AP := fun a => a = C ∨ a = Da ∨ a ∈ wr
  have hz : ∀ a, Z a → s₁.heap.get? a = none := fun a y => by
    rcases y with rfl | rfl | y
    · exact no1 _ nC
    · exact no1 _ nD
    · exact hwr a y
  have O' := cFx_ok O S₁ K (C := C) (Z := Z) (.inl rfl) hz
  have sx1 : Sx 0 h₁ := KT.frame _ _ _ sx0 fun b _ o e => old b o e
  have go : ∀ s₃ : Shared, s₃ = { s₁ with heap := h₁, toks := t₂ + 0 } → codeAny W.M A (.compLoop (.ListComp elt [⟨.Name (W.nm x) px, iter, [], 0⟩] scope pos) 0 (.ref I) (.ref Da) (compEnvC scope (clOf F.env.cells scope.names []) C F.env)) (RR (.ref Da) C) s₃ := by
    rintro s₃ rfl
    refine codeAny_compLoop_list (fun k s' => ∃ h' tk m vs i, s' = { s₁ with heap := h', toks := tk } ∧ Keep noA F.Fs s₁.heap h' ∧ Sx i h' ∧ h'.Ns C m ∧ LsA h' Da vs ∧ DenL h' (Vf (cFx F own scope C Z) fun _ => none) vs ((ds.take i).map f) ∧ (∀ b ∈ fp, ∃ o, h'.get? b = some o) ∧ i ≤ ds.length ∧ k = ds.length + 1 - i)
      ?_ (ds.length + 1) ⟨h₁, _, _, [], 0, rfl, .of_stays (fun b o e => old b o (k₂ b o e)) _ _, sx1, hns₁, accD, .nil, fun b hb => (hfp b hb).2.elim fun o e => ⟨o, old b o e⟩, Nat.zero_le _, rfl⟩
    rintro k s' ⟨h', tk, m, vs, i, rfl, kp, sx, n, la, dl, ex, hi, rfl⟩
    have Cw : C ∉ wr := fun q => (nf C (KT.sub _ q)).1 rfl
    have Dw : Da ∉ wr := fun q => (nf Da (KT.sub _ q)).2 rfl
    by_cases hlt : i < ds.length
    · refine KT.item i _ _ _ hlt sx fun v h₃ tk₃ md kk₃ => ?_
      show wpAny W.M A (pure () >>= fun _ => assign (.Name (W.nm x) px) _ v) _ _ _
      refine wpAny_bind (KT.go i v { s₁ with heap := h₃, toks := tk₃ } _ _ md fun h₄ pv sx₄ kk₄ => ?_)
      have kw : ∀ b o, b ∉ wr → h'.get? b = some o → h₄.get? b = some o := fun b o nb e => kk₄ b o nb (kk₃ b o nb e)
      have n₄ : h₄.Ns C m := n.at' fun o e => kw C o Cw e
      have la₄ : LsA h₄ Da vs := la.imp fun _ e => kw Da _ Dw e
      refine PySem.wpAny_assign_Name (wpAny_storeName_local (relabel_lookup (env := F.env) K.hx.2 |>.elim id fun q => nomatch q.1) n₄ (fun h₅ n₅ sb₅ => ?_) (by show (scope.kind == .class || (scope.kind == .module && _)) = false; rw [K.kind]; rfl))
      have kp₅ : Keep noA F.Fs s₁.heap h₅ := kp.trans (X' := fun b => b ∈ wr ∨ b = C) (fun b o nb e => ⟨o.slots, (sb₅.2 b fun q => nb (.inr q)).trans (kw b o (fun q => nb (.inl q)) e), fun _ => rfl⟩) fun b q => .inr (q.elim (hwr b) fun q => hz b (.inl q))
      have lz : ∀ a, Z a → ∃ o, h₅.get? a = some o := fun a y => by
        rcases y with rfl | rfl | y
        · obtain ⟨o, _, _, e, _⟩ := n₅; exact ⟨o, e⟩
        · obtain ⟨_, e⟩ := la₄; exact ⟨_, (sb₅.2 _ DC).trans e⟩
        · obtain ⟨o, _, e, _⟩ := rc1 _ _ sx₄ a y; exact ⟨o, (sb₅.2 a fun q => Cw (by rw [← show a = C from q]; exact y)).trans e⟩
      have dv := hP i v h₄ (Vf (cFx F own scope C Z) fun _ => none) hlt pv fun u d y => Den.keep' (kp.trans (X' := (· ∈ wr)) (fun b o nb e => ⟨o.slots, kw b o nb e, fun _ => rfl⟩) fun b q => .inr (hwr b q)) (fun _ f => f.elim) O.fv (fun a y => by
        rcases y with y | y | ⟨_, y⟩
        · exact .inl y
        · exact .inr (hz a y)
        · cases y) y
      have k₅ : Keep (· = C) noA h₄ h₅ := fun b o nb e => ⟨o.slots, (sb₅.2 b nb).trans e, fun _ => rfl⟩
      have vC : ∀ a, a = C → Vf (cFx F own scope C Z) (fun _ => none) a := fun a q => .inr (.inl (.inl q))
      have S₅ := cFx_st O S₁ K (C := C) (Z := Z) (.inl rfl) hz hg kp₅ lz n₅ (if_pos rfl) (Den.keep k₅ vC (fun _ f => f.elim) dv)
      have sx₅ : Sx (i + 1) h₅ := KT.frame _ _ _ sx₄ fun b hb o e => (sb₅.2 b (nf b hb).1).trans e
      refine WX.seq O' (body C Z O' ds[i] (List.getElem_mem hlt)) hA S₅ (fun e s' x st y f => f.elim) fun y s₆ e' st₆ S₆ rd q _ => ?_
      obtain ⟨e', rfl, rfl⟩ := isC_elim q
      obtain ⟨h₆, t₆, rfl, k₆⟩ := st₆
      have nFs : ∀ b, s₁.heap.get? b = none → ¬ F.Fs b := fun b n f => let ⟨_, e⟩ := S₁.live b (O.fv b f); nomatch n.symm.trans e
      have la₅ : LsA h₅ Da vs := la₄.imp fun _ e => (sb₅.2 _ DC).trans e
      have la₆ : LsA h₆ Da vs := k₆.ex (fun f => f) (nFs _ (hz _ (.inr (.inl rfl)))) la₅
      refine wpAny_list_append_plain (plain_ls la₆) (fun h₇ l₇ sb₇ => ?_) (by rw [List.size_toArray, Paired.length dl, List.length_map, List.length_take, sizeLine_eq]; omega)
      have k₇ : Keep (· = Da) F.Fs h₆ h₇ := fun b o nb e => ⟨o.slots, (sb₇.2 b nb).trans e, fun _ => rfl⟩
      have kz : Keep Z F.Fs h' h₇ := (((show Keep Z F.Fs h' h₅ from fun b o nb e => ⟨o.slots, (sb₅.2 b fun q => nb (.inl q)).trans (kw b o (fun q => nb (.inr (.inr q))) e), fun _ => rfl⟩).trans0 (k₆.mono (fun _ f => f.elim) fun _ f => f)).trans0 (k₇.mono (fun _ q => .inr (.inl q)) fun _ f => f))
      have sx₇ : Sx (i + 1) h₇ := KT.frame _ _ _ sx₅ fun b hb o e => (sb₇.2 b (nf b hb).2).trans (k₆.get (fun f => f) (fun q => (hfp b hb).1 (O.fv b q)) e)
      refine ⟨ds.length + 1 - (i + 1), by omega, h₇, _, _, vs ++ [y], i + 1, rfl, (kp₅.trans0 k₆).trans k₇ fun b q => .inr (by subst q; exact hz _ (.inr (.inl rfl))), sx₇, (k₆.ns (fun f => f) n₅).sameBut sb₇ (Ne.symm DC), ?_, ?_, fun b hb => ?_, hlt, rfl⟩
      · obtain ⟨n, e⟩ := l₇; exact ⟨n, by rw [List.push_toArray] at e; exact e⟩
      · rw [List.take_succ_eq_append_getElem hlt, List.map_append]
        exact Mine.Paired.app (Mine.Paired.imp (fun _ _ x => Den.keep kz (fun _ q => .inr (.inl q)) (fun _ q => .inl (O.fv _ q)) x) dl) (.cons (Den.keep k₇ (fun _ q => .inr (.inl (.inr (.inl q)))) (fun _ q => .inl (O.fv _ q)) rd) .nil)
      · by_cases q : b ∈ wr
        · obtain ⟨o, _, e, _⟩ := rc1 _ _ sx₇ b q; exact ⟨o, e⟩
        · exact kz.some (fun y => by rcases y with y | y | y <;> first | exact (nf b hb).1 y | exact (nf b hb).2 y | exact q y) (ex b hb)
    · have : i = ds.length := by omega
      subst this
      refine KT.done _ _ _ sx fun h₃ tk₃ kk₃ => ?_
      have kw : Keep (· ∈ wr) F.Fs h' h₃ := fun b o nb e => ⟨o.slots, kk₃ b o nb e, fun _ => rfl⟩
      rw [List.take_length] at dl
      refine hR Da C h₃ tk₃ m vs (hz _ (.inr (.inl rfl))) (hz _ (.inl rfl)) DC (n.at' fun o e => kk₃ C o Cw e) (la.imp fun _ e => kk₃ Da _ Dw e) (Mine.Paired.imp (fun _ _ x => Den.keep' kw (fun _ q => .inr (.inl (.inr (.inr q)))) (fun _ q => .inl (O.fv _ q)) (fun a y => .inl ?_) x) dl) ⟨h₃, tk₃, rfl, kp.trans kw fun b q => .inr (hwr b q)⟩
      exact y.elim .inl fun q => .inr (.inl (.inl q))
  exact codeAny_compStart_list (go _ rfl) (self 0 _ _ _ sx1 (go _ rfl))
end
end Mine
end
section
-- U25
set_option linter.unusedVariables false
set_option maxRecDepth 100000
namespace Mine
open PySem PySem.Calls PyProof.Rows PySem.W
section
variable {W : Wd} {F : Fx} {r : Nat} {own own' own'' : Own} {g : G} {A : Around} {s s' s'' s₀ s₁ s₂ : Shared} {Qs : Flow → Shared → Prop} {Es : Value → Shared → Prop}
/-- the list that a comprehension has made -/
theorem comp_den (S₁ : St W F own g s₁.heap) {Da C : Addr} {h' h'' : Heap} {vs : List Value} {ds : List D} (nD : s₁.heap.get? Da = none) (DC : Da ≠ C) (la : LsA h' Da vs) (dl : DenL h' (fun a => Vf F own a ∨ a = C) vs ds) (sb : Heap.SameBut C h' h'') : Den h'' (Vf F own) (.ref Da) (.list ds) :=
  .list (la.imp fun _ e => (sb.2 _ DC).trans e) (S₁.fresh nD) (Mine.Paired.imp (fun _ _ x => x.keep' (F := noA) (fun b o nb e => ⟨o.slots, (sb.2 b nb).trans e, fun _ => rfl⟩) (fun _ q => .inr q) (fun _ f => f.elim) fun _ y => .inl (.inl y)) dl)
theorem Step.but {C : Addr} {h' h'' : Heap} {t : Nat} (a : Step F noA s { s with heap := h', toks := t }) (nC : s.heap.get? C = Option.none) (sb : Heap.SameBut C h' h'') : Step F noA s { s with heap := h'', toks := t } := by
  have k := a.keep
  exact ⟨h'', t, rfl, fun b o _ e => let ⟨sl, e', q⟩ := k b o (fun f => f) e; ⟨sl, (sb.2 b fun y => by subst y; exact nomatch nC.symm.trans e).trans e', q⟩⟩
noncomputable def CompV (W : Wd) (F : Fx) (r : Nat) (g : G) (scope : Scope) (x : Nat) (fv : List Nat) (elt : Expr) (Q : D → Prop) (ds : List D) : Prop :=
  ds.length ≤ 4096 ∧ ∃ g', g.pick fv = some g' ∧ ∃ f : D → D, (∀ own, Elt W F r own g' scope x elt ds f) ∧ Q (.list (ds.map f))
theorem WE_comp (B : W.Ok) (O : F.Ok W) {Q : R → Prop} {X : Exc → Prop} {elt iter : Expr} {scope : Scope} {x : Nat} {fv : List Nat} {px pos : Pos} (K : CpOk W F scope x fv) (hn : ∀ y ∈ scope.names, y.2 = .local → scope.names.lookup y.1 = some .local)
    (hs : ∀ x, foldedSetIterable iter F.env x = pure x) (h : WIt W F r g (.Name (W.nm x) px) [x] iter (CompV W F r g scope x fv elt fun d => Q (.cl d)) X) : WE W F r g (.ListComp elt [⟨.Name (W.nm x) px, iter, [], 0⟩] scope pos) Q X :=
  fun A s own Qs Es hA S hQ hE => by
    rw [eval_ListComp]
    refine wpAny_comprehension_free (use := none) rfl hs (clo_eq K.clo) K.kind hn (h A s own _ _ hA S (fun it s₁ s₂ ds st S₁ gs src q => ?_) hE)
    obtain ⟨z, g', hg, f, body, q⟩ := q
    refine comp_block (RR := fun acc C => compPost W.M A Es none Qs acc C) B O hA S₁ gs K hg src z (body own) fun Da C h' tk m' vs nD nC DC n la dl st₁ => ⟨m', n, fun h'' sb => ?_⟩
    exact hQ _ _ (.cl (.list (ds.map f))) (st.trans (st₁.but nC sb)) (comp_den S₁ nD DC la dl sb) q
theorem asgC_at (B : W.Ok) (O : F.Ok W) {Q : Fl → G → Prop} {X : Exc → G → Prop} {A : Around} {s : Shared} {own : Own} {Qs : Flow → Shared → Prop} {Es : Value → Shared → Prop} (hA : AOk F r A) (S : St W F own g s.heap)
    (hQ : ∀ f s' own' fl g', SStep F own own' s s' → St W F own' g' s'.heap → FlowAt F s'.heap f fl → Q fl g' → Qs f s') (hE : ∀ e s' own' x g', SStep F own own' s s' → St W F own' g' s'.heap → ExcAt W (Vf F own') s.heap s'.heap e x → X x g' → Es e s')
    {elt iter : Expr} {scope : Scope} {y x : Nat} {fv : List Nat} {px pos py p : Pos} (k : Sto W F y) (K : CpOk W F scope x fv) (hn : ∀ y ∈ scope.names, y.2 = .local → scope.names.lookup y.1 = some .local)
    (hw : swapsWith (.ListComp elt [⟨.Name (W.nm x) px, iter, [], 0⟩] scope pos) (some (.Name (W.nm y) py)) p.line F.env = pure true)
    (hs : ∀ x, foldedSetIterable iter F.env x = pure x) (h : ∀ (Z : Value → Shared → Prop) (Es : Value → Shared → Prop), (∀ it s₁ s₂ ds, Step F noA s s₁ → St W F own g s₁.heap → GStep s₁ s₂ → SrcOk W F A own (.Name (W.nm x) px) [x] s₁ s₂ it ds → CompV W F r g scope x fv elt (fun d => Q .nx (G.set g y (.v d))) ds → Z it s₂) →
      (∀ e s' x, Step F noA s s' → ExcAt W (Vf F own) s.heap s'.heap e x → X x g → Es e s') → wpAny W.M A (eval iter F.env) (fun x s₁ => wpAny W.M A (pyIter x) Z Es s₁) Es s) :
    wpAny W.M A (exec (.Assign [.Name (W.nm y) py] (.ListComp elt [⟨.Name (W.nm x) px, iter, [], 0⟩] scope pos) p) F.env) Qs Es s := by
    rw [exec_Assign_Name_used _ _ _ _ hw]
    refine wpAny_bind (wpAny_standAt (wpAny_bind ?_))
    show wpAny _ A (do let _ ← comprehension (.ListComp elt [⟨.Name (W.nm x) px, iter, [], 0⟩] scope pos) scope F.env _ (newList []) false (eval iter F.env) (some (assign (.Name (W.nm y) py) F.env))) _ _ s
    refine wpAny_bind (wpAny_mono (wpAny_comprehension_free (use := some (assign (.Name (W.nm y) py) F.env)) (Q := fun _ s' => Qs .next s') rfl hs (clo_eq K.clo) K.kind hn
      (h _ _ (fun it s₁ s₂ ds st S₁ gs src q => ?_) fun e s' x st y xa => hE e s' own x g (.of st) (S.step O st) y xa)) (fun _ s' hq => wpAny_pure (wpAny_pure hq)) fun _ _ e => e)
    obtain ⟨z, g', hg, f, body, q⟩ := q
    refine comp_block (RR := fun acc C => compPost W.M A Es (some (assign (.Name (W.nm y) py) F.env)) (fun _ s' => Qs .next s') acc C) B O hA S₁ gs K hg src z (body own) fun Da C h' tk m' vs nD nC DC n la dl st₁ => ?_
    have S₂ := S₁.step O st₁
    show wpAny _ A (assign (.Name (W.nm y) py) F.env (.ref Da)) _ _ _
    refine PySem.wpAny_assign_Name (storeD (s := { s₁ with heap := h', toks := tk }) B O k S₂ (comp_den S₁ nD DC la dl ⟨rfl, fun _ _ => rfl⟩) fun s₃ st₃ S₃ => ?_)
    have vC : ¬ Vf F own C := S₁.fresh nC
    have k₃ := st₃.1.keep
    refine ⟨m', k₃.ns (fun q => vC q.vf) n, fun h₄ sb => ?_⟩
    have k₄ : Keep (fun b => s₁.heap.get? b = none ∧ ¬ Vf F (own.put y none) b ∧ Rec s₃.heap b) F.Fs s₃.heap h₄ := fun b o nb e => by
      by_cases q : b = C
      · subst q
        obtain ⟨o', es, ep, e', r', _⟩ := k₃.ns (fun q => vC q.vf) n
        refine absurd ⟨nC, fun z => vC (vf_put_none _ z), fun o'' e'' => ?_⟩ nb
        rw [e'] at e''; cases e''
        exact ⟨fun _ _ q => (nomatch r'.symm.trans q), fun _ q => nomatch r'.symm.trans q⟩
      · exact ⟨o.slots, (sb.2 b q).trans e, fun _ => rfl⟩
    have tot := (SStep.of st).trans ((SStep.of st₁).trans st₃)
    exact hQ .next _ _ .nx _ (tot.src (wr := [C]) (t := s₃.toks) (fun b hb => by rw [List.mem_singleton.mp hb]; exact st.none nC) fun b o nb e => (sb.2 b fun q => nb (by rw [q]; exact List.mem_singleton_self _)).trans e) (S₃.xc O S₁.base k₄) rfl q
theorem WS_asgC (B : W.Ok) (O : F.Ok W) {Q : Fl → G → Prop} {X : Exc → G → Prop} {elt iter : Expr} {scope : Scope} {y x : Nat} {fv : List Nat} {px pos py p : Pos} (k : Sto W F y) (K : CpOk W F scope x fv) (hn : ∀ y ∈ scope.names, y.2 = .local → scope.names.lookup y.1 = some .local)
    (hw : swapsWith (.ListComp elt [⟨.Name (W.nm x) px, iter, [], 0⟩] scope pos) (some (.Name (W.nm y) py)) p.line F.env = pure true)
    (hs : ∀ x, foldedSetIterable iter F.env x = pure x) (h : WIt W F r g (.Name (W.nm x) px) [x] iter (CompV W F r g scope x fv elt fun d => Q .nx (G.set g y (.v d))) fun x => X x g) :
    WS W F r g (exec (.Assign [.Name (W.nm y) py] (.ListComp elt [⟨.Name (W.nm x) px, iter, [], 0⟩] scope pos) p) F.env) Q X :=
  fun A s own Qs Es hA S hQ hE => asgC_at B O hA S hQ hE k K hn hw hs fun Z Es hZ hE => h A s own Z Es hA S hZ hE
end
end Mine
end
section
-- U26
set_option linter.unusedVariables false
set_option maxRecDepth 100000
namespace Mine
open PySem
section
variable {prog : Program} {w : World} {A : Around} {E : Value → Shared → Prop} {h : Heap} {g : Array GenState} {d : Drawn} {t : Nat} {os : OsState}
variable {nm q : Str} {C N U fI : Addr} {bs bmB : List Value} {hdct : Bool} {sn : List Str} {sub : List Value} {ab : Bool} {col : Option Bool} {dd : Option Addr} {k0 k1 k2 k3 k5 : Option Value} {B newId initId : String}
theorem hasU {X : String} {b : Bool} (hb : bmB.contains (.type X) = b) : (Value.ref C :: .ref U :: bmB).contains (.type X) = b := by
  rw [List.contains_cons, List.contains_cons, hb]; rfl
theorem check_new_U (F : ExcBaseFacts B newId initId bmB) {M : Model} {rest : List Value} {Q : Unit → Shared → Prop} (hC : h.get? C = some (excClassObj nm q C N bs (.ref U :: bmB) hdct sn sub ab col dd k0 k1 k2 k3 k5 newId))
    (hq : Q () ⟨h, g, d, t, os⟩) : wpAny M A (checkBuiltinCall newId ⟨.ref C :: rest, []⟩) Q E ⟨h, g, d, t, os⟩ := by
  have hcont : (Value.ref C :: .ref U :: bmB).contains (.type B) = true := hasU F.hasB
  have hstar := F.noStar
  simp only [checkBuiltinCall, F.newKind, F.newSplit, F.newRow]
  repeat (first | refine wpAny_loadPart_at hC ?_ | (refine wpAny_isSubtype_exc hC ?_; rw [hcont]) | refine wpAny_staticBase_exc hC ?_ | refine wpAny_madeBy_exc hC ?_ | simp only [bne_self_eq_false, Bool.false_eq_true, if_false] | wp_step)
  exact hq
theorem exc_new_U (F : ExcBaseFacts B newId initId bmB) {rest : List Value} {R : Result → Shared → Prop} (hC : h.get? C = some (excClassObj nm q C N bs (.ref U :: bmB) hdct sn sub ab col dd k0 k1 k2 k3 k5 newId))
    (hq : R (.ok (.ret (.ref (h.objs.size + 1)))) ⟨(h.push { cls := .type "tuple", data := .seq rest.toArray }).push
      { cls := .ref C, data := .fields #[.ref h.objs.size, .none, .none, .none, .bool false, .none] }, g, d, t, os⟩) (hrest : rest.length ≤ sizeLine) :
    codeAny (model prog w) A (.builtin newId ⟨.ref C :: rest, []⟩) R ⟨h, g, d, t, os⟩ := by
  have hends := F.ends
  have hcB : (Value.ref C :: .ref U :: bmB).contains (.type B) = true := hasU F.hasB
  have hcA : (Value.ref C :: .ref U :: bmB).contains (.type "AttributeError") = false := hasU F.noAttr
  have hcN : (Value.ref C :: .ref U :: bmB).contains (.type "NameError") = false := hasU F.noName
  refine codeAny_builtinAt F.entry ?_
  unfold Builtin.«BaseException.__new__»
  refine wpAt_bind ?_
  show wpAt _ _ _ (stack >>= _) _ _ _
  refine wpAt_bind (wpAt_stack fun p below => wpAt_of_wpAny ?_)
  wp_walk
  refine wpAt_of_wpAny ?_
  rw [F.owner]
  repeat (first | with_reducible refine wpAny_madeHere_exc F.canon hC ?_ | with_reducible refine wpAny_loadPart_at hC ?_ | (with_reducible refine wpAny_isSubtype_exc hC ?_; first | rw [hcB] | rw [hcA] | rw [hcN]) | wp_step)
  show R _ _
  rw [Heap.size_push]
  exact hq
open PySem.W in
/-- a class of the program below a class of the program with an own __init__, below a built-in exception -/
structure XK (K : Frag) (C fI : Addr) (bmB : List Value) (newId : String) : Prop where
  obj : ∃ nm q N bs U sn sub ab col dd k0 k1 k2 k3 k5, K.lookup C = some (excClassObj nm q C N bs (.ref U :: bmB) true sn sub ab col dd k0 k1 k2 k3 k5 newId)
  init : findIn K (.ref C) "__init__" = some (some (.ref fI))
  fn : typeIn K (.ref fI) = some (.type "function")
  set : findIn K (.ref C) "__setattr__" = some (some (.builtin "object.__setattr__"))
  told : findIn K (.ref C) "told" = some none
  get : findIn K (.ref C) "__getattribute__" = some (some (.builtin "BaseException.__getattribute__"))
  geta : findIn K (.ref C) "__getattr__" = some none
open PySem.W in
theorem type_call_U (F : ExcBaseFacts B newId initId bmB) {K : Frag} (X : K.In h) (Z : XK K C fI bmB newId) {rest : List Value} {Q : Fin → Shared → Prop} (hrest : rest.length ≤ sizeLine)
    (hq : ∀ h' e tp, (∀ b o, h.get? b = some o → h'.get? b = some o) → h.get? e = none → h'.get? e = some { cls := .ref C, data := .fields #[.ref tp, .none, .none, .none, .bool false, .none] } →
      wpAny (model prog w) A (call (.ref fI) (.ref e :: rest) []) (fun v s' => v = .none ∧ Q (.done (.ret (.ref e))) s') E ⟨h', g, d, t, os⟩) :
    wpAny (model prog w) A (Builtin.«type.__call__» ⟨.ref C :: rest, []⟩) Q E ⟨h, g, d, t, os⟩ := by
  obtain ⟨nm, q, N, bs, U, sn, sub, ab, col, dd, k0, k1, k2, k3, k5, hK⟩ := Z.obj
  have hC := X _ _ hK
  repeat (first | with_reducible refine wpAny_loadPart_at hC ?_ | with_reducible refine wpAny_madeBy_exc hC ?_ | wp_step)
  refine codeAny_call_builtin_code (Code.quiet_builtin _ F.quiet) (check_new_U F hC ?_)
  refine exc_new_U F hC ?_ hrest
  show wpAny _ _ _ _ _ _
  have hk : ∀ b o, h.get? b = some o → ((h.push { cls := .type "tuple", data := .seq rest.toArray }).push { cls := .ref C, data := .fields #[.ref h.objs.size, .none, .none, .none, .bool false, .none] }).get? b = some o :=
    fun b o e => Heap.get?_push_of_some _ (Heap.get?_push_of_some _ e)
  have hC₁ := hk _ _ hC
  have hget : ((h.push { cls := .type "tuple", data := .seq rest.toArray }).push
      { cls := .ref C, data := .fields #[.ref h.objs.size, .none, .none, .none, .bool false, .none] }).get? (h.objs.size + 1) = some
      { cls := .ref C, data := .fields #[.ref h.objs.size, .none, .none, .none, .bool false, .none] } := by heap_get
  have hcC : (Value.ref C :: .ref U :: bmB).contains (.ref C) = true := by simp
  have X₁ : K.In ((h.push { cls := .type "tuple", data := .seq rest.toArray }).push { cls := .ref C, data := .fields #[.ref h.objs.size, .none, .none, .none, .bool false, .none] }) := fun a o e => hk a o (X a o e)
  unfold isInstance
  repeat (first | with_reducible refine wpAny_loadPart_at hget ?_ | (with_reducible refine wpAny_isSubtype_exc hC₁ ?_; rw [hcC]) | wp_step)
  show wpAny _ _ (typeLookup (.ref C) _) _ _ _
  refine (looks_findIn X₁ Z.init).at (wpAny_holding (wpAny_bind ((bind_fn X₁ _ Z.fn).at (wpAny_bind (wpAny_mono (hq _ (h.objs.size + 1) h.objs.size hk (Heap.get?_none_of_le (Nat.le_succ _)) hget) (fun v s' hv => ?_) fun _ _ e => e)))))
  obtain ⟨rfl, hv⟩ := hv
  exact wpAny_pure (wpAny_pure hv)
end
end Mine
end
section
-- U27
set_option linter.unusedVariables false
set_option maxRecDepth 100000
set_option maxHeartbeats 1000000
namespace Mine
open PySem PySem.W PySem.Builtin PySem.Builtin.ObjectAttr
section
variable {prog : Program} {w : World} {A : Around} {E : Value → Shared → Prop} {h : Heap} {g : Array GenState} {d : Drawn} {t : Nat} {os : OsState}
variable {C fI x : Addr} {newId : String}
noncomputable abbrev bmE : List Value := [.type "Exception", .type "BaseException", .type "object"]
theorem osa_exc {K : Frag} (X : K.In h) (Z : XK K C fI bmE newId) {vs : Array Value} (hx : h.get? x = some { cls := .ref C, data := .fields vs }) {tk : Tok} {v : Value} {R : Result → Shared → Prop}
    (hq : ∀ h' tk' dx, (∀ b o, b ≠ x → h.get? b = some o → h'.get? b = some o) → h'.get? x = some { cls := .ref C, dict := some dx, data := .fields vs } → h.get? dx = none → h'.Ns dx (fun y => if y = "told" then some v else none) → R (.ok (.ret .none)) ⟨h', g, d, tk', os⟩) :
    codeAny (model prog w) A (.call (.builtin "object.__setattr__") ⟨[.ref x, .str "told" tk, v], []⟩) R ⟨h, g, d, t, os⟩ := by
  have SF := PySem.F.store_object
  have SE := PySem.F.store_Exception
  obtain ⟨nm, q, N, bs, U, sn, sub, ab, col, dd, k0, k1, k2, k3, k5, hK⟩ := Z.obj
  have hC := X _ _ hK
  have ty : Looks (model prog w) h (typeOf (.ref x)) (.ref C) := (Looks.ld hx).andThen .now
  have hm : Looks (model prog w) h (mroOf (.ref C)) (.ref C :: .ref U :: bmE) := ((Looks.ld (part := none) hC).andThen .now).andThen .now
  have hob : (Value.ref C :: .ref U :: bmE).contains (.type "object") = true := by simp
  have sub : Looks (model prog w) h (isInstance (.ref x) (.type "object")) true := ty.andThen (by
    unfold isSubtype
    refine hm.andThen ?_
    dsimp only
    rw [if_neg (by simp), hob]
    exact .now)
  refine codeAny_call_builtin SF.slot.plain SF.entry (@check_slot (model prog w) _ _ ⟨h, g, d, t, os⟩ "object.__setattr__" "object" "__setattr__" (.ref x) [.str "told" tk, v] [] _ SF.kind SF.split sub (SF.args (.ref x) (.str "told" tk) v) ?_)
  rw [osa_eq, refuse_eq]
  refine wpAny_bind (wpAny_bind (ty.at (wpAny_bind (hm.at ?_))))
  rw [refuseLoop_ref, refuseLoop_ref, SE.passes]
  refine wpAny_pure (wpAny_bind (ty.at (wpAny_bind ((looks_findIn X Z.told).at (wpAny_bind (wpAny_pure ?_))))))
  show wpAny _ _ (storeInOwnDict (.ref x) (.ref C) (.str "told" tk) "told" v _) _ _ _
  unfold storeInOwnDict
  refine wpAny_bind (wpAny_pure (wpAny_bind (wpAny_bind (wpAny_loadPart hx (wpAny_bind (wpAny_bind (wpAny_loadPart hC (wpAny_pure ?_))))))))
  have hx₁ : (h.push { cls := .type "dict", data := .dict #[] }).get? x = some { cls := .ref C, data := .fields vs } := Heap.get?_push_of_some _ hx
  have hxs : x ≠ h.objs.size := Nat.ne_of_lt (Heap.lt_size hx)
  rw [if_neg (by simp), if_neg (by simp [typeHasDict])]
  refine wpAny_bind (wpAny_alloc ?_)
  refine wpAny_bind (wpAny_update hx₁ ?_)
  refine wpAny_pure ?_
  have hgd : ((h.push { cls := .type "dict", data := .dict #[] }).update x fun o => { o with dict := some h.objs.size }).get? h.objs.size = some { cls := .type "dict", data := .dict #[] } :=
    (Heap.get?_update_other _ _ hxs).trans (Heap.get?_push_size _ rfl)
  have hnd : ((h.push { cls := .type "dict", data := .dict #[] }).update x fun o => { o with dict := some h.objs.size }).Ns h.objs.size (fun _ => none) :=
    ⟨_, #[], _, hgd, rfl, fun e he => absurd he (by simp), fun _ => rfl⟩
  show wpAny _ _ (storeInDict h.objs.size (.str "told" tk) "told" v) _ _ _
  unfold storeInDict newKeyGuard
  refine wpAny_bind (wpAny_pure (wpAny_bind (wpAny_nsSet1 (Heap.Ns1.of_empty hnd) fun h' hn' hs => ?_)))
  obtain ⟨oD, esD, epD, hoD, hdD, hcD⟩ := hn'.count (Within.cons "told" v Within.nil)
  refine wpAny_bind (wpAny_lookBehind hoD (by rw [hdD]; exact pastItsLine_dict (Nat.le_trans hcD (by rw [List.length_cons, List.length_nil, sizeLine_eq]; omega))) ?_)
  refine wpAny_pure (hq h' _ h.objs.size (fun b o nb e => ?_) ?_ (get_top h) ?_)
  · exact (hs.2 b (Nat.ne_of_lt (Heap.lt_size e))).trans ((Heap.get?_update_other _ _ (Ne.symm nb)).trans (Heap.get?_push_of_some _ e))
  · exact (hs.2 x hxs).trans (Heap.get?_update_self _ hx₁ rfl)
  · obtain ⟨o', es, ep, e1, e2, e3, eu, e4⟩ := hn'
    exact ⟨o', es, ep, e1, e2, e3, e4⟩
end
end Mine
end
section
-- U28
set_option linter.unusedVariables false
set_option maxRecDepth 100000
namespace Mine
open PySem PySem.Calls PyProof.Rows PySem.W
/-- how the arguments come to the locals -/
noncomputable def BindOk (W : Wd) (fd : FuncData) (ds : List D) (kds : List (Str × D)) (g : G) : Prop :=
  ∀ (s : Shared) (V : AP) (vs : List Value) (kvs : List (Str × Value)), Stays W.hb s.heap → (∀ a, V a → W.hb.get? a = none) → DenL s.heap V vs ds → Paired (fun p q => p.1 = q.1 ∧ Den s.heap V p.2 q.2) kvs kds →
    ∃ binds, BindsTo s fd ⟨vs, kvs⟩ binds ∧ (∀ x ∈ binds, fd.scope.names.lookup x.1 = some .local) ∧
      ∀ i l, g.get i = some l → i < 128 ∧ fd.scope.names.lookup (W.nm i) = some .local ∧ ∃ d v, l = .v d ∧ binds.reverse.lookup (W.nm i) = some v ∧ Den s.heap V v d
structure DefOk (W : Wd) (fa : Addr) (fd : FuncData) (body : List Stmt) : Prop where
  at_ : ∃ o, W.hb.get? fa = some o ∧ o.data = .func fd
  code : W.hb.CodeRec fd.code fd.qualname
  gl : fd.globals = mainGlobals
  bl : fd.builtins = builtinsNs
  kind : fd.scope.kind = .function
  co : fd.scope.isCoroutine = false
  gen : fd.scope.isGenerator = false
  body : fd.body = .stmts body
/-- the end of a body -/
noncomputable def flD : Fl → D | .nx => .none | .rt d => d
/-- the frame of a call -/
noncomputable def dFx (fd : FuncData) (fa L : Addr) (Y : AP) (frs : List Env) : Fx := { env := callEnv fd L fa, Z := (· = L), Y := Y, frs := callEnv fd L fa :: frs, cel := [] }
section
variable {W : Wd} {F : Fx} {r : Nat} {A : Around} {s s' : Shared} {Qs : Value → Shared → Prop} {Es : Value → Shared → Prop}
theorem ExcP.less {V V' : AP} {h : Heap} {a : Addr} {x : Exc} {tb : Option Addr} (v : ∀ a, V' a → V a) (p : ExcP W V h a x tb) : ExcP W V' h a x tb := by
  obtain ⟨oe, vs, d, md, tv, C, he, hC, hc, hd, h1, hv, ht, hdd, nd, hn, hm, dn⟩ := p
  exact ⟨oe, vs, d, md, tv, C, he, hC, hc, hd, h1, hv, ht, hdd, fun y => nd (v d y), hn, hm, Den.less v dn⟩
/-- an exception leaves its frame -/
theorem leaves {env : Env} {outer : List Env} {L : Addr} {V : AP} {h₀ : Heap} {e : Value} {x : Exc} {Qu : Unit → Shared → Prop} {E : Value → Shared → Prop} {M : Model} (hfr : A.frames = some (env :: outer)) (hf : env.frame = some L) (fr : FrAt (env :: outer) s.heap)
    (hv : ∀ b, FsOf (env :: outer) b → V b) (lv : Live V s.heap) (gr : Grow h₀ s.heap) (y : ExcAt W V h₀ s.heap e x) (h : ∀ h', XStep h₀ V (FsOf (env :: outer)) s.heap h' → ExcAt W V h₀ h' e x → Qu () { s with heap := h' }) :
    wpAny M A (leaving env e) Qu E s := by
  unfold leaving
  refine wpAny_bind (note hfr hf fr hv lv gr y fun h₁ k₁ y₁ => ?_)
  exact flight (Fs := FsOf (env :: outer)) (h₀ := h₀) y₁.at fun h₂ k₂ y₂ => h h₂ (k₁.trans k₂) y₂
theorem contract (B : W.Ok) {fa : Addr} {fd : FuncData} {body : List Stmt} (D₀ : DefOk W fa fd body) (hcell : ∀ x ∈ fd.scope.names, x.2 ≠ .cell) {sp : Spec}
    (hb : ∀ ds kds Qd Xd, sp ds kds Qd Xd → ∃ g, BindOk W fd ds kds g ∧ ∀ L Y frs, (dFx fd fa L Y frs).Ok W → WS W (dFx fd fa L Y frs) r g (execs body (callEnv fd L fa)) (fun fl _ => Qd (flD fl)) (fun x _ => Xd x)) : Contract W (r + 1) fa sp := by
  obtain ⟨o, ho, hdata⟩ := D₀.at_
  refine ⟨⟨o, fd, ho, hdata⟩, fun F A s V vs kvs ds kds Qs Es Qd Xd hA hst hfr hV lv hFV dv dk hsp hQ hE => ?_⟩
  obtain ⟨g, bo, body'⟩ := hb ds kds Qd Xd hsp
  obtain ⟨binds, b1, b2, b3⟩ := bo s V vs kvs hst hV dv dk
  refine wpAny_call (codeAny_call_def (by have := hA.2.2.1; omega) (hst _ _ ho) hdata (B.lim.keeps hst) (D₀.code.keeps hst) D₀.body b1 hcell b2 (fun h₀ hns hk => ?_) D₀.co D₀.gen D₀.kind)
  generalize hL : s.heap.objs.size = L at *
  have nL : s.heap.get? L = none := hL ▸ get_top _
  have vL : ¬ V L := fun y => let ⟨_, e⟩ := lv L y; nomatch nL.symm.trans e
  have fs : ∀ a, (dFx fd fa L V F.frs).Fs a → a = L ∨ F.Fs a := fun a y => by
    unfold Fx.Fs dFx at y
    rcases List.mem_cons.mp (show a ∈ L :: F.frs.filterMap (·.frame) from y) with q | q
    · exact .inl q
    · exact .inr q
  have O' : (dFx fd fa L V F.frs).Ok W := {
    kind := D₀.kind
    gl := D₀.gl
    bl := D₀.bl
    loc := rfl
    new := fun a y => y.elim (hV a) fun z => by
      have z' : a = L := z
      subst z'
      cases e : W.hb.get? a with
      | none => rfl
      | some o => exact nomatch nL.symm.trans (hst _ _ e)
    fs := fun a y => (fs a y).elim .inr fun q => .inl (hFV a q)
    apart := fun a z y => by
      have z' : a = L := z
      subst z'; exact vL y
    celk := fun _ _ e => nomatch e }
  have vf : ∀ a, Vf (dFx fd fa L V F.frs) (fun _ => none) a → V a ∨ a = L := fun a y => y.imp id fun y => y.elim id fun ⟨_, q⟩ => nomatch q
  have S : St W (dFx fd fa L V F.frs) (fun _ => none) g h₀ := by
    refine ⟨fun b o e => hk b o (hst b o e), ⟨_, hns, fun i l e => ?_⟩, fun a y => ?_, fun _ _ _ e => (nomatch e), fun _ _ e => (nomatch e), fun e he => ?_, fun _ _ e => (nomatch e)⟩
    · obtain ⟨hi, kl, d, v, rfl, lk, dn⟩ := b3 i l e
      exact ⟨hi, v, .inl ⟨kl, lk⟩, Den.keep' (Keep.of_stays hk noA noA) (fun _ f => f.elim) (fun _ f => f.elim) (fun a y => (vf a y).imp id fun q => by rw [q]; exact nL) dn⟩
    · rcases vf a y with q | q
      · obtain ⟨o, e⟩ := lv a q; exact ⟨o, hk _ _ e⟩
      · obtain ⟨o, _, _, e, _⟩ := hns; exact ⟨o, by rw [q]; exact e⟩
    · rcases List.mem_cons.mp he with q | q
      · subst q
        obtain ⟨o, es, ep, e, e', _⟩ := hns
        refine ⟨fun q => ?_, L, o, rfl, e, fun vs q => nomatch e'.symm.trans q⟩
        have kk := D₀.kind
        rw [show (callEnv fd L fa).scope = fd.scope from rfl] at q
        rw [q] at kk; cases kk
      · obtain ⟨a1, L', o, a2, a3, a4⟩ := hfr e q
        exact ⟨a1, L', o, a2, hk _ _ a3, a4⟩
  have hA' : AOk (dFx fd fa L V F.frs) r (A.deeper (callEnv fd L fa)) := ⟨hA.1, by show A.frames.map _ = _; rw [hA.2.1]; rfl, by have := hA.2.2.1; show A.depth + 1 + r < _; omega, by have := hA.2.2.2; show A.units + 3 + 16 * r + 100 < _; omega⟩
  have stp : ∀ {own' : Own} {s₂ : Shared}, SStep (dFx fd fa L V F.frs) (fun _ => none) own' { s with heap := h₀, toks := s.toks + binds.length } s₂ → Step F noA s s₂ := fun st => by
    obtain ⟨h₂, t₂, rfl, k₂⟩ := st.1
    refine ⟨h₂, t₂, rfl, fun a o _ e => ?_⟩
    have na : a ≠ L := fun q => by subst q; exact nomatch nL.symm.trans e
    obtain ⟨sl, e', q⟩ := k₂ a o (fun y => y.elim na fun ⟨_, z⟩ => nomatch z) (hk a o e)
    exact ⟨sl, e', fun nf => q fun y => (fs a y).elim na nf⟩
  have no : ∀ b, h₀.get? b = none → s.heap.get? b = none := fun b n => by
    cases e : s.heap.get? b with
    | none => rfl
    | some o => exact nomatch n.symm.trans (hk b o e)
  refine body' L V F.frs O' (A.deeper (callEnv fd L fa)) _ (fun _ => none) _ _ hA' S (fun f s₂ own' fl g' st S' fa' q => ?_) fun e s₂ own' x g' st S' y xa => ?_
  · cases fl with
    | nx => cases fa'; exact hQ .none _ .none (stp st) .none q
    | rt d => obtain ⟨v, rfl, dn⟩ := fa'; exact hQ v _ d (stp st) dn q
  · refine leaves (A := A.deeper (callEnv fd L fa)) (h₀ := h₀) (V := Vf (dFx fd fa L V F.frs) own') hA'.2.1 rfl S'.fr (fun b q => O'.fv b q) S'.live st.2.1 y fun h₃ k₃ y₃ => ?_
    have st' := stp (st.x (h₁ := h₃) k₃)
    obtain ⟨a, tb, rfl, n, p⟩ := y₃
    exact hE _ _ x st' ⟨a, tb, rfl, fun b q => ⟨no b (n b q).1, fun z => (n b q).2 (.inl z)⟩, p.less fun a z => .inl z⟩ xa
end
end Mine
end
section
-- U29
set_option linter.unusedVariables false
set_option maxRecDepth 100000
namespace Mine
open PySem PySem.W
section
variable {prog : Program} {w : World} {A : Around} {E : Value → Shared → Prop} {h : Heap} {g : Array GenState} {d : Drawn} {t : Nat} {os : OsState}
variable {C fI x : Addr} {newId : String}
theorem set_told {K : Frag} (X : K.In h) (Z : XK K C fI bmE newId) {vs : Array Value} (hx : h.get? x = some { cls := .ref C, data := .fields vs }) {v : Value} {Q : Unit → Shared → Prop}
    (hq : ∀ h' tk' dx, (∀ b o, b ≠ x → h.get? b = some o → h'.get? b = some o) → h'.get? x = some { cls := .ref C, dict := some dx, data := .fields vs } → h.get? dx = none → h'.Ns dx (fun y => if y = "told" then some v else none) → Q () ⟨h', g, d, tk', os⟩) :
    wpAny (model prog w) A (setAttr (.ref x) "told" v) Q E ⟨h, g, d, t, os⟩ := by
  have ty : Looks (model prog w) h (typeOf (.ref x)) (.ref C) := (Looks.ld hx).andThen .now
  unfold setAttr callSpecial? specialOf
  refine wpAny_bind (wpAny_mkText (wpAny_bind (wpAny_bind (wpAny_bind (ty.at ((looks_findIn X Z.set).at (wpAny_holding (wpAny_bind ?_))))))))
  rw [PySem.F.store_object.slot.bind]
  refine wpAny_pure (wpAny_bind (wpAny_call (osa_exc X Z hx fun h' tk' dx k e n ns => wpAny_pure (wpAny_pure (hq h' tk' dx k e n ns)))))
theorem raise_made {env : Env} {nm q : Str} {N U : Addr} {bs bmB : List Value} {hdct : Bool} {sn : List Str} {sub : List Value} {ab : Bool} {col : Option Bool} {dd : Option Addr} {k0 k1 k2 k3 k5 : Option Value} {M : Model} {s : Shared} {y : Sem Value} {Q : Flow → Shared → Prop} (hbase : bmB.contains (.type "BaseException") = true) (hh : A.handled = none)
    (hy : wpAny M A y (fun v s₁ => ∃ e tp dx, v = .ref e ∧ s₁.heap.get? C = some (excClassObj nm q C N bs (.ref U :: bmB) hdct sn sub ab col dd k0 k1 k2 k3 k5 newId) ∧
      s₁.heap.get? e = some { cls := .ref C, dict := some dx, data := .fields #[.ref tp, .none, .none, .none, .bool false, .none] } ∧ E (.ref e) s₁) E s) :
    wpAny M A (raiseStmt env (some y) none) Q E s := by
  have hcB : (Value.ref C :: .ref U :: bmB).contains (.type "BaseException") = true := hasU hbase
  unfold raiseStmt
  refine wpAny_bind (wpAny_mono hy (fun v s₁ h₁ => ?_) fun _ _ x => x)
  obtain ⟨e, tp, dx, rfl, hC, he, hE⟩ := h₁
  obtain ⟨hp, g, d, tk, os⟩ := s₁
  repeat (first | with_reducible refine wpAny_loadPart_at he ?_ | with_reducible refine wpAny_loadPart_at hC ?_ | (with_reducible refine wpAny_isSubtype_exc hC ?_; rw [hcB]) | wp_step)
  exact wpAny_raiseNew_none hh hE
theorem call_U {B initId : String} {bmB : List Value} (F : ExcBaseFacts B newId initId bmB) {K : Frag} (X : K.In h) (Z : XK K C fI bmB newId) {rest : List Value} {Q : Value → Shared → Prop} (hrest : rest.length ≤ sizeLine)
    (hq : ∀ h' e tp, (∀ b o, h.get? b = some o → h'.get? b = some o) → h.get? e = none → h'.get? e = some { cls := .ref C, data := .fields #[.ref tp, .none, .none, .none, .bool false, .none] } →
      wpAny (model prog w) (A.under (.builtin "type.__call__" ⟨.ref C :: rest, []⟩)) (call (.ref fI) (.ref e :: rest) []) (fun v s' => v = .none ∧ Q (.ref e) s') E ⟨h', g, d, t, os⟩) :
    wpAny (model prog w) A (call (.ref C) rest) Q E ⟨h, g, d, t, os⟩ := by
  obtain ⟨nm, q, N, bs, U, sn, sub, ab, col, dd, k0, k1, k2, k3, k5, hK⟩ := Z.obj
  have hC := X _ _ hK
  have f1 := tc_lookup
  have f2 := tc_bind (.ref C)
  have hT : (⟨h, g, d, t, os⟩ : Shared).TypeIs (.ref C) "type" := ⟨_, hC, rfl⟩
  refine wpAny_call (codeAny_of_tree ?_)
  show wpAny _ _ (callAny (.ref C) _) _ _ _
  repeat (any_goals (first | assumption | with_reducible refine wpAny_loadPart_at hC ?_ | wp_step))
  refine ⟨rfl, ?_⟩
  exact codeAny_call_builtin_at (Code.quiet_builtin _ (by decide +kernel)) entry_typeCall (wpAny_check_type_call_sub hC (type_call_U F X Z hrest fun h' e tp k n i => hq h' e tp k n i))
end
end Mine
end
section
-- U30
set_option linter.unusedVariables false
set_option maxRecDepth 100000
namespace Mine
open PySem PySem.Calls PyProof.Rows PySem.W
/-- a def that keeps its second argument under the name told -/
noncomputable def InitOk (W : Wd) (fI : Addr) : Prop := ∃ fd p1 p2 p3 p4, DefOk W fI fd [.Assign [.Attribute (.Name "self" p1) "told" p2] (.Name "told" p3) p4] ∧
  (∀ s v u, Stays W.hb s.heap → BindsTo s fd ⟨[v, u], []⟩ [("self", v), ("told", u)]) ∧ fd.scope.names.lookup ("self" : Str) = some NameKind.local ∧ fd.scope.names.lookup ("told" : Str) = some NameKind.local ∧ ∀ x ∈ fd.scope.names, x.2 ≠ .cell
noncomputable def XOk (W : Wd) (c : Str) (C : Addr) : Prop := (c == ("__debug__" : Str)) = false ∧ W.mg c = some (.ref C) ∧ ∃ K fI newId initId, K.In W.hb ∧ XK K C fI bmE newId ∧ ExcBaseFacts "Exception" newId initId bmE ∧ InitOk W fI
section
variable {W : Wd} {F : Fx} {r : Nat} {own : Own} {g : G} {A : Around} {s s' : Shared} {Qs : Value → Shared → Prop} {Es : Value → Shared → Prop}
theorem init_call (B : W.Ok) {K : Frag} {C fI e : Addr} {newId : String} (X : K.In W.hb) (Z : XK K C fI bmE newId) (I : InitOk W fI) (hA : A.depth < recursionLimit) (hst : Stays W.hb s.heap) {vs : Array Value} (hx : s.heap.get? e = some { cls := .ref C, data := .fields vs }) {v : Value}
    (hq : ∀ h' tk' dx, (∀ b o, b ≠ e → s.heap.get? b = some o → h'.get? b = some o) → h'.get? e = some { cls := .ref C, dict := some dx, data := .fields vs } → s.heap.get? dx = none → h'.Ns dx (fun y => if y = "told" then some v else none) → Qs .none { s with heap := h', toks := tk' }) :
    wpAny W.M A (call (.ref fI) [.ref e, v] []) Qs Es s := by
  obtain ⟨fd, p1, p2, p3, p4, D₀, bi, l1, l2, nc⟩ := I
  obtain ⟨o, ho, hdata⟩ := D₀.at_
  refine wpAny_call (codeAny_call_def hA (hst _ _ ho) hdata (B.lim.keeps hst) (D₀.code.keeps hst) D₀.body (bi s _ _ hst) nc (fun x hx => ?_) (fun h₀ hns hk => ?_) D₀.co D₀.gen D₀.kind)
  · rcases List.mem_cons.mp hx with q | hx
    · rw [q]; exact l1
    · rw [List.mem_singleton.mp hx]; exact l2
  · refine wpAny_execs_cons (plainObj_wpAny_Assign_Attribute (wpAny_Name (wpAny_loadName_local D₀.kind l2 hns rfl (wpAny_Name (wpAny_loadName_local D₀.kind l1 hns rfl ?_)))))
    refine set_told (fun a o q => hk _ _ (hst _ _ (X a o q))) Z (hk _ _ hx) fun h' tk' dx k e' n ns => wpAny_execs_nil ?_
    exact hq h' tk' dx (fun b o nb q => k b o nb (hk b o q)) e' (by
      cases q : s.heap.get? dx with
      | none => rfl
      | some o => exact nomatch (hk _ _ q).symm.trans n) ns
theorem under_depth (C : Addr) (rest : List Value) : (A.under (.builtin "type.__call__" ⟨.ref C :: rest, []⟩)).depth = A.depth + 1 := by
  unfold Around.under
  show A.depth + Code.weight _ = _
  congr 1
theorem WS_rais (B : W.Ok) (O : F.Ok W) {Q : Fl → G → Prop} {X : Exc → G → Prop} {c : Str} {np cpos pos : Pos} {e : Expr} {C : Addr} (he : notStar e = true) (hk : F.env.kindOf c = some .globalImplicit) (hr : 2 ≤ r) (hx : XOk W c C)
    (h : WE W F r g e (fun x => isC x fun d => X ⟨c, d⟩ g) fun x => X x g) : WS W F r g (exec (.Raise (some (.Call (.Name c np) [e] [] cpos)) none pos) F.env) Q X := fun A s own Qs Es hA S hQ hE => by
  obtain ⟨nd, hv, K, fI, newId, initId, XI, Z, FB, I⟩ := hx
  obtain ⟨nm, q, N, bs, U, sn, sub, ab, col, dd, k0, k1, k2, k3, k5, hK⟩ := Z.obj
  rw [arm_exec_Raise]
  refine wpAny_bind (wpAny_standAt (raise_made (C := C) (nm := nm) (q := q) (N := N) (U := U) (bs := bs) (bmB := bmE) (hdct := true) (sn := sn) (sub := sub) (ab := ab) (col := col) (dd := dd) (k0 := k0) (k1 := k1) (k2 := k2) (k3 := k3) (k5 := k5) (newId := newId) FB.hasBase hA.1 ?_))
  refine wpAny_bind (wpAny_mono (wpAny_Call_ofName (Name_function_global O.kind hk (loadGlobal_global (mg := W.mg) (by rw [O.gl]; exact B.nsg.keeps S.base) hv ?_) nd)) (fun v s₃ h₃ => wpAny_bind (wpAny_standAt (wpAny_pure h₃))) fun _ _ x => x)
  rw [back_cons he]
  unfold callWith
  refine wpAny_bind (wpAny_holding (wpAny_mono (evalArgs_plain (Q := fun a s₂ => ∃ v d, a = ⟨[v], []⟩ ∧ Step F noA s s₂ ∧ St W F own g s₂.heap ∧ Den s₂.heap (Vf F own) v d ∧ X ⟨c, d⟩ g) (spliced_cons (WX.inS O h hA S hE fun v s₁ x st S₁ rd q hE₁ => spliced_nil ?_))) (fun a s₂ h₂ => wpAny_bind (wpAny_standAt ?_)) fun _ _ x => x))
  · obtain ⟨d, rfl, q⟩ := isC_elim q
    exact ⟨v, d, rfl, st, S₁, rd, q⟩
  · obtain ⟨v, d, rfl, st, S₁, dn, xa⟩ := h₂
    obtain ⟨hp, gn, dr, tk, os⟩ := s₂
    have X₁ : K.In hp := fun a o e => S₁.base _ _ (XI a o e)
    have hC := X₁ _ _ hK
    simp only [List.any_cons]
    refine wpAny_bind (wpAny_keeperOf_exc hC ?_)
    have hd := hA.2.2.1
    refine wpAny_bind (call_U FB X₁ Z (by rw [sizeLine_eq]; exact (show 1 ≤ 16777216 by decide)) fun h₁ e₁ tp k₁ n₁ i₁ => ?_)
    have st₁ : Stays W.hb h₁ := fun a o e => k₁ a o (S₁.base a o e)
    refine init_call (s := ⟨h₁, gn, dr, tk, os⟩) B XI Z I (by rw [under_depth]; omega) st₁ i₁ fun h₂ tk₂ dx k₂ i₂ nx ns => ⟨rfl, wpAny_bind (wpAny_holding (wpAny_point (wpAny_pure ?_)))⟩
    have k : Stays hp h₂ := fun b o q => k₂ b o (fun y => by subst y; exact nomatch n₁.symm.trans q) (k₁ b o q)
    have st₂ : Step F noA s ⟨h₂, gn, dr, tk₂, os⟩ := st.trans (GStep.up (s := ⟨hp, gn, dr, tk, os⟩) ⟨h₂, tk₂, rfl, k⟩)
    refine ⟨e₁, tp, dx, rfl, k _ _ hC, i₂, hE _ _ own ⟨c, d⟩ g (.of st₂) (S.step O st₂) ⟨e₁, none, rfl, fun b q => ?_, ?_⟩ xa⟩
    · rcases q with rfl | q
      · exact ⟨st.none n₁, S₁.fresh n₁⟩
      · cases q
    · exact ⟨_, _, dx, _, v, C, i₂, hv, rfl, rfl, (show 1 < 6 by decide), rfl, (fun t q => nomatch q), rfl, S₁.fresh (by
        cases q : hp.get? dx with
        | none => rfl
        | some o => exact nomatch (k₁ _ _ q).symm.trans nx), ns, if_pos rfl, Den.stays k dn⟩
end
end Mine
end
section
-- U31
set_option linter.unusedVariables false
set_option maxRecDepth 100000
set_option maxHeartbeats 1000000
namespace Mine
open PySem PySem.W PySem.Builtin PySem.Builtin.ObjectAttr
section
variable {prog : Program} {w : World} {A : Around} {E : Value → Shared → Prop} {h : Heap} {g : Array GenState} {d : Drawn} {t : Nat} {os : OsState}
variable {C fI x dx : Addr} {newId : String}
theorem look_ns {h : Heap} {a : Addr} {m : Str → Option Value} {y : Str} {v : Value} (n : h.Ns a m) (e : m y = some v) : ∃ o, h.get? a = some o ∧ lookIn y o = some (some v) := by
  obtain ⟨o, es, ep, e1, e2, e3, e4⟩ := n
  refine ⟨o, e1, ?_⟩
  unfold lookIn
  rw [e2]
  have q := (e4 y).trans e
  unfold nsFind findBy at q
  rw [← Array.find?_toList] at q
  dsimp only
  cases hf : es.toList.find? (fun e => e.key.isStr y) with
  | none => rw [hf] at q; cases q
  | some en => rw [hf] at q; cases q; rfl
theorem get_told {K : Frag} (X : K.In h) (Z : XK K C fI bmE newId) {vs : Array Value} {ox : Obj} (hx : h.get? x = some ox) (hxc : ox.cls = .ref C) (hxd : ox.dict = some dx) (hxv : ox.data = .fields vs) {m : Str → Option Value} (n : h.Ns dx m) {v : Value} (hv : m "told" = some v) (hh : handedIn v = true) {expr : Bool} {Q : Value → Shared → Prop}
    (hq : Q v ⟨h, g, d, t + 1, os⟩) : wpAny (model prog w) A (getAttr (.ref x) "told" expr) Q E ⟨h, g, d, t, os⟩ := by
  obtain ⟨nm, q, N, bs, U, sn, sub, ab, col, dd, k0, k1, k2, k3, k5, hK⟩ := Z.obj
  have hC := X _ _ hK
  obtain ⟨od, eo, el⟩ := look_ns n hv
  have I : InstAt h x ox C (some od) := ⟨hx, hxc, by unfold notCls; rw [hxv], by rw [hxd]; exact eo⟩
  have hcl : clsIn K C = some { name := nm, bases := bs, mro := .ref C :: .ref U :: bmE, ns := N, qualname := q, hasDict := true, slotNames := sn, subclasses := sub, abstract := ab, collection := col, hasDel := false } := by unfold clsIn; rw [hK]
  have hf : findObj K C (some od) "told" = some (.value v) := by
    unfold findObj
    rw [hcl, Option.bind_some, Z.told, Option.bind_some, Option.bind_some, Option.bind_some]
    unfold ownOf
    simp only [if_true]
    rw [el]; rfl
  have FB := F.attrBase_Exception
  have L0 := I.type (M := model prog w)
  have L1 := looks_findIn (M := model prog w) X Z.get
  have L2 := looks_findIn (M := model prog w) X Z.geta
  have L3 := looks_find (M := model prog w) X I hf
  have f3 := FB.ga.bind (.ref x)
  have hx2 : (Value.builtin "BaseException.__getattribute__" == Value.builtin "object.__getattribute__") = false := by decide +kernel
  have hx1 : (onTheHeap (Value.ref C) && Value.builtin "BaseException.__getattribute__" == Value.builtin "object.__getattribute__") = false := by rw [hx2]; rfl
  have hx0 : (expr && onTheHeap (Value.builtin "BaseException.__getattribute__")) = false := by cases expr <;> rfl
  have go : ∀ {tk : Tok} {R : Result → Shared → Prop} {A : Around} {t : Nat}, R (.ok (.ret v)) ⟨h, g, d, t, os⟩ → codeAny (model prog w) A (.call (.builtin "BaseException.__getattribute__") ⟨[.ref x, .str "told" tk], []⟩) R ⟨h, g, d, t, os⟩ := fun {tk R A t} hr => by
    have hk : builtinKind "BaseException.__getattribute__" = some .slot := by decide +kernel
    have hsplit : splitId "BaseException.__getattribute__" = some ("BaseException", "__getattribute__") := by decide +kernel
    have sub : Looks (model prog w) h (isInstance (.ref x) (.type "BaseException")) true := L0.andThen (by
      unfold isSubtype
      refine (((Looks.ld (part := none) hC).andThen .now).andThen .now : Looks (model prog w) h (mroOf (.ref C)) (.ref C :: .ref U :: bmE)).andThen ?_
      dsimp only
      rw [if_neg (by simp), show (Value.ref C :: .ref U :: bmE).contains (.type "BaseException") = true from by simp]
      exact .now)
    refine codeAny_call_builtin FB.ga.plain F.entry_bexc_ga (@check_slot (model prog w) _ _ ⟨h, g, d, t, os⟩ "BaseException.__getattribute__" "BaseException" "__getattribute__" (.ref x) [.str "told" tk] [] _ hk hsplit sub (F.args_bexc_ga (.ref x) (.str "told" tk)) ?_)
    show wpAny _ _ ((do let tp ← typeOf (.ref x); _) : Sem Fin) _ _ _
    refine wpAny_bind (L0.at (wpAny_bind (L3.at ?_)))
    exact wpAny_pure hr
  unfold getAttr
  repeat (any_goals (first | assumption | with_reducible refine Looks.at L0 ?_ | with_reducible refine Looks.at L1 ?_ | with_reducible refine Looks.at L2 ?_ | wp_step))
  refine go ?_
  show wpAny _ _ (handedOut v) _ _ _
  rw [handedOut_of hh]
  exact wpAny_pure hq
end
end Mine
end
section
-- U32
set_option linter.unusedVariables false
set_option maxRecDepth 100000
namespace Mine
open PySem PySem.Calls PyProof.Rows PySem.W
section
variable {W : Wd} {F : Fx} {r : Nat} {own own' : Own} {g : G} {A : Around} {s s' : Shared} {Es : Value → Shared → Prop}
/-- what is known of the locals of g, under the names m -/
noncomputable def RdM (W : Wd) (F : Fx) (own : Own) (g : G) (m : Str → Option Value) (h : Heap) : Prop := ∀ i l, g.get i = some l → i < 128 ∧ ∃ v, RdAt W F.env m h i v ∧ LDen F own h i v l
/-- a name that g does not know is stored -/
theorem St.loc (O : F.Ok W) {h h' : Heap} (S : St W F own g h) {m m' : Str → Option Value} (n : h.Ns F.env.locals m) (rd : RdM W F own g m h) (n' : h'.Ns F.env.locals m') (sb : Heap.SameBut F.env.locals h h') (e : ∀ i l, g.get i = some l → m' (W.nm i) = m (W.nm i)) :
    St W F own g h' ∧ RdM W F own g m' h' := by
  have k : Keep (· = F.env.locals) F.Fs h h' := fun b o nb q => ⟨o.slots, (sb.2 b nb).trans q, fun _ => rfl⟩
  have kz : ∀ a, a = F.env.locals → Vf F own a := fun a q => .inr (.inl (by rw [q]; exact O.loc))
  have nz : ∀ c : Addr, ∀ v, h.IsCell c v → c ≠ F.env.locals := fun c v ⟨o, q, d⟩ e => by
    obtain ⟨o', es, ep, q', d', _⟩ := n
    rw [e, q'] at q; cases q; rw [d'] at d; cases d
  have rd' : RdM W F own g m' h' := fun i l eg => by
    obtain ⟨hi, v, ra, ld⟩ := rd i l eg
    refine ⟨hi, v, ?_, LDen.keep O k kz (fun a ea => ⟨fun q => (S.own2 i a ea).2.1 (by rw [q]; exact O.loc), O.nf (S.own2 i a ea).1 (S.own2 i a ea).2.1⟩) ld⟩
    rcases ra with ⟨q1, q2⟩ | ⟨q1, c, q2, q3⟩
    · exact .inl ⟨q1, (e i l eg).trans q2⟩
    · exact .inr ⟨q1, c, q2, cell_keep k (nz c _ q3) q3⟩
  have ln : ∃ o, h'.get? F.env.locals = some o := by obtain ⟨o, _, _, e, _⟩ := n'; exact ⟨o, e⟩
  refine ⟨⟨base_keep O S.base k (fun a q => by rw [q]; exact O.new _ (.inr O.loc)) (O.new _ (.inr O.loc)), ⟨m', n', rd'⟩, fun a y => ?_, S.own1, S.own2, fun e he => ?_, fun i c q => ?_⟩, rd'⟩
  · by_cases q : a = F.env.locals
    · rw [q]; exact ln
    · exact k.some q (S.live a y)
  · obtain ⟨a1, L, o, a2, a3, a4⟩ := S.fr e he
    by_cases q : L = F.env.locals
    · obtain ⟨o', es, ep, q1, q2, _⟩ := n'
      exact ⟨a1, L, o', a2, by rw [q]; exact q1, fun vs z => nomatch q2.symm.trans z⟩
    · exact ⟨a1, L, o, a2, (sb.2 L q).trans a3, a4⟩
  · obtain ⟨v, x⟩ := S.cel i c q
    exact ⟨v, cell_keep k (nz c _ x) x⟩
theorem SStep.loc (O : F.Ok W) {h' : Heap} {t : Nat} (a : SStep F own own' s s') {m' : Str → Option Value} (n' : h'.Ns F.env.locals m') (sb : Heap.SameBut F.env.locals s'.heap h') : SStep F own own' s { s' with heap := h', toks := t } := by
  refine a.trans ⟨⟨h', t, rfl, fun b o nb e => ⟨o.slots, (sb.2 b fun q => nb (.inl (by rw [q]; exact O.loc))).trans e, fun _ => rfl⟩⟩, fun b nb => ?_, fun _ x => .inl x⟩
  by_cases q : b = F.env.locals
  · obtain ⟨o, _, _, e, _⟩ := n'
    rw [q] at nb; exact nomatch e.symm.trans nb
  · exact (sb.2 b q).symm.trans nb
/-- e.told, or tuple(e.told) -/
inductive Told (W : Wd) (en : Nat) : Bool → Expr → Prop
  | one {q2 q3 : Pos} : Told W en false (.Attribute (.Name (W.nm en) q2) "told" q3)
  | two {q2 q3 q5 q6 : Pos} : Told W en true (.Call (.Name "tuple" q5) [.Attribute (.Name (W.nm en) q2) "told" q3] [] q6)
theorem handed_den {h : Heap} {V : AP} {v : Value} {d : D} (x : Den h V v d) : handedIn v = true := by cases x <;> rfl
theorem told_rhs (B : W.Ok) (O : F.Ok W) (S : St W F own g s.heap) {en : Nat} (hen : en < 128) (hk : F.env.kindOf (W.nm en) = some .local) {w : Bool} {rhs : Expr} (T : Told W en w rhs) (hkt : w = true → F.env.kindOf "tuple" = some .globalImplicit)
    {m : Str → Option Value} (n : s.heap.Ns F.env.locals m) {a : Addr} (em : m (W.nm en) = some (.ref a)) {K : Frag} {C fI : Addr} {newId : String} (X : K.In s.heap) (Z : XK K C fI bmE newId) {ox : Obj} (hx : s.heap.get? a = some ox) (hxc : ox.cls = .ref C)
    {dx : Addr} {vs : Array Value} (hxd : ox.dict = some dx) (hxv : ox.data = .fields vs) {md : Str → Option Value} (nd : s.heap.Ns dx md) {tv : Value} (hv : md "told" = some tv) {V : AP} {d : D} (dn : Den s.heap V tv d) (hw : w = true → ∃ l, d = .tuple l) {Qv : Value → Shared → Prop}
    (h : ∀ t, Qv tv { s with toks := t }) : wpAny W.M A (eval rhs F.env) Qv Es s := by
  have one : ∀ {q2 q3 : Pos} {Qv : Value → Shared → Prop}, (∀ t, Qv tv { s with toks := t }) → wpAny W.M A (eval (.Attribute (.Name (W.nm en) q2) "told" q3) F.env) Qv Es s := fun h => by
    refine Attribute_name (wpAny_Name (wpAny_loadName_local O.kind hk n em ?_) (B.dbg en hen).1)
    obtain ⟨hp, gn, dr, tk, os⟩ := s
    exact get_told X Z hx hxc hxd hxv nd hv (handed_den dn) (h _)
  cases T with
  | one => exact one h
  | two =>
    refine wpAny_Call_ofName (name_bi B O S (f := 3) (hkt rfl) ?_)
    rw [back_cons rfl]
    refine callWith_bi (f := 3) rfl (evalArgs_plain (spliced_cons (one fun t => spliced_nil ?_)))
    obtain ⟨l, rfl⟩ := hw rfl
    cases dn with
    | tup la _ _ =>
      obtain ⟨nn, la⟩ := la
      exact call_tuple_tup ⟨_, la, rfl, nn, rfl⟩ (h t)
end
end Mine
end
section
-- U33
set_option linter.unusedVariables false
set_option maxRecDepth 100000
namespace Mine
open PySem PySem.Calls PyProof.Rows PySem.W
theorem name_goes {M : Model} {A : Around} {E : Value → Shared → Prop} {s : Shared} {env : Env} {n : Str} {pos : Pos} {m : Str → Option Value} {Q : Unit → Shared → Prop} (hl : env.kindOf n = some .local) (hn : s.heap.Ns env.locals m)
    (hp : (env.scope.kind == .class || (env.scope.kind == .module && env.locals != env.globals)) = false)
    (h : ∀ h' m', h'.Ns env.locals m' → (∀ y, y ≠ n → m' y = m y) → Heap.SameBut env.locals s.heap h' → Q () { s with heap := h', toks := s.toks + 1 }) :
    wpAny M A (do bindName env n .none; unbindBehindTheSuite env n pos) Q E s := by
  refine wpAny_bind (wpAny_bindName (wpAny_storeName_local hl hn (fun h₁ hn₁ hs₁ => ?_) hp))
  unfold unbindBehindTheSuite
  refine wpAny_onRaise ?_
  unfold unbindName
  refine wpAny_bind (wpAny_point (wpAny_bind ?_))
  unfold deleteName
  simp only [hl, hp]
  rw [if_neg (by decide)]
  refine wpAny_bind (wpAny_nsDel_keeps hn₁ fun h₂ v₂ hn₂ hs₂ => ?_)
  simp only [if_true, Option.isSome_some, Bool.not_true, Bool.false_eq_true, if_false]
  exact wpAny_pure (wpAny_point (h h₂ _ hn₂ (fun y ny => (if_neg ny).trans (if_neg ny)) (hs₁.trans hs₂)))
section
variable {W : Wd} {F : Fx} {r : Nat} {own own' : Own} {g : G} {A : Around} {s s' : Shared} {Es : Value → Shared → Prop}
theorem WS_try (B : W.Ok) (O : F.Ok W) (TP : F.Top) {Q : Fl → G → Prop} {X : Exc → G → Prop} {b : List Stmt} {x en : Nat} {w : Bool} {c : Str} {C : Addr} {np q1 q4 hp p : Pos} {rhs : Expr} (hen : en < 128) (hk : F.env.kindOf (W.nm en) = some .local) (hkc : F.env.kindOf c = some .globalImplicit)
    (hkt : w = true → F.env.kindOf "tuple" = some .globalImplicit) (T : Told W en w rhs) (hs : swapsWith rhs (some (.Name (W.nm x) q1)) q4.line F.env = pure false) (kx : Sto W F x) (hx : XOk W c C) (ne : en ≠ x)
    (h : WS W F r g (execs b F.env) Q (fun ex g' => ex.cls = c ∧ g'.get en = none ∧ (w = true → ∃ l, ex.told = .tuple l) ∧ Q .nx (G.set g' x (.v ex.told)))) :
    WS W F r g (exec (.Try b [.ExceptHandler (some (.Name c np)) (some (W.nm en)) [.Assign [.Name (W.nm x) q1] rhs q4] hp] [] [] p) F.env) Q X := fun A s own Qs Es hA S hQ hE => by
  refine wpAny_Try_except (h A s own _ _ hA S (fun f s' own' fl g' st S' fa q => ?_) fun e s₁ own₁ ex g₁ st₁ S₁ y₁ xa => ?_)
  · cases fl with
    | nx => cases fa; exact wpAny_execs_nil (hQ _ _ own' .nx g' st S' rfl q)
    | rt d =>
      obtain ⟨v, rfl, fd⟩ := id fa
      exact hQ _ _ own' (.rt d) g' st S' ⟨v, rfl, fd⟩ q
  · obtain ⟨rfl, gn, hw, q⟩ := xa
    obtain ⟨nd, hv, K, fI, newId, initId, XI, Z, FB, I⟩ := hx
    obtain ⟨nm, qn, N, bs, U, sn, sub, ab, col, dd, k0, k1, k2, k3, k5, hK⟩ := Z.obj
    obtain ⟨outer, L, e1, e2⟩ := TP.top
    have fs : F.Fs = FsOf (F.env :: outer) := by unfold Fx.Fs; rw [e1]
    refine note (hA.2.1.trans (congrArg _ e1)) e2 (e1 ▸ S₁.fr) (fun b q => O.fv b (by rw [fs]; exact q)) S₁.live st₁.2.1 y₁ fun h₂ kk₂ y₂ => ?_
    refine flight (Fs := F.Fs) (h₀ := s.heap) y₂.at fun h₃ kk₃ y₃ => ?_
    have k₃ : XStep s.heap (Vf F own₁) F.Fs s₁.heap h₃ := XStep.trans (by rw [fs]; exact kk₂) kk₃
    have S₃ := S₁.xc O S.base k₃.1
    obtain ⟨a, tb, rfl, na, pa⟩ := id y₃
    refine wpAny_handleBy_cons (codeAny_handlers_test (Name_function_global O.kind hkc (loadGlobal_global (mg := W.mg) (by rw [O.gl]; exact B.nsg.keeps S₃.base) hv ?_) nd)) (by intro q; cases q)
    obtain ⟨oe, vs, d, md, tv, C', he, hC', hc, hda, h1, hvs, ht, hdd, ndv, hn, hm, dn⟩ := id pa
    rw [hv] at hC'
    cases hC'
    refine wpAny_excMatches_sub_self (S₃.base _ _ (XI _ _ hK)) he hc (by rw [List.contains_cons, FB.hasBase, Bool.or_true]) ?_
    refine codeAny_handlers_suite_as ?_
    refine flight (s := { s₁ with heap := h₃ }) (Fs := F.Fs) (h₀ := s.heap) y₃ fun h₄ kk₄ y₄ => ?_
    have k₄ := k₃.trans kk₄
    have S₄ := S₁.xc O S.base k₄.1
    have st₄ := st₁.x k₄
    obtain ⟨m, n, rd⟩ := id S₄.rd
    have hp' : (F.env.scope.kind == .class || (F.env.scope.kind == .module && F.env.locals != F.env.globals)) = false := by rw [O.kind]; rfl
    refine wpAny_storeName_local hk n (fun h₅ n₅ sb₅ => ?_) hp'
    have ng : ∀ i l, g₁.get i = some l → W.nm i ≠ W.nm en := fun i l e q => by
      have := B.inj i en (rd i l e).1 hen q
      subst this; rw [gn] at e; cases e
    obtain ⟨S₅, rd₅⟩ := S₄.loc O n rd n₅ sb₅ fun i l e => if_neg (ng i l e)
    have st₅ := st₄.loc (t := s₁.toks + 1) O n₅ sb₅
    obtain ⟨a', tb', ea, na', pa'⟩ := id y₄
    cases ea
    obtain ⟨oe, vs, dx, md, tv, C', he, hC', hc, hda, h1, hvs, ht, hdd, ndv, hn, hm, dn⟩ := id pa'
    rw [hv] at hC'
    cases hC'
    have lz : Vf F own₁ F.env.locals := .inr (.inl O.loc)
    have na5 : a ≠ F.env.locals := fun q => (na' a (.inl rfl)).2 (by rw [q]; exact lz)
    have nd5 : dx ≠ F.env.locals := fun q => ndv (by rw [q]; exact lz)
    have dn5 : Den h₅ (Vf F own₁) tv ex.told := Den.keep (F := F.Fs) (X := (· = F.env.locals)) (fun b o nb e => ⟨o.slots, (sb₅.2 b nb).trans e, fun _ => rfl⟩) (fun a q => by rw [q]; exact lz) O.fv dn
    refine wpAny_execs_cons (wpAny_Assign_Name (told_rhs (s := { s₁ with heap := h₅, toks := s₁.toks + 1 }) B O S₅ hen hk T hkt n₅ (if_pos rfl) (fun a o e => S₅.base _ _ (XI a o e)) Z ((sb₅.2 a na5).trans he) hc hdd hda (hn.sameBut sb₅ nd5) hm dn5 hw fun t => ?_) hs)
    refine storeD (s := { s₁ with heap := h₅, toks := t }) B O kx S₅ dn5 fun s₆ st₆ S₆ => wpAny_execs_nil ?_
    have st₆' : SStep F own (own₁.put x none) s s₆ := SStep.trans (s' := { s₁ with heap := h₅, toks := t }) (st₄.loc (t := t) O n₅ sb₅) st₆
    obtain ⟨m₆, n₆, rd₆⟩ := id S₆.rd
    refine name_goes hk n₆ hp' fun h₇ m₇ n₇ e₇ sb₇ => ?_
    have gx : (G.set g₁ x (.v ex.told)).get en = none := by
      rw [G.get_set_ne _ (by cases hq : Nat.beq en x with | false => rfl | true => exact absurd (Nat.eq_of_beq_eq_true hq) ne)]; exact gn
    obtain ⟨S₇, _⟩ := S₆.loc O n₆ rd₆ n₇ sb₇ fun i l e => e₇ _ fun q => by
      have := B.inj i en (rd₆ i l e).1 hen q
      subst this; rw [gx] at e; cases e
    exact hQ .next _ _ .nx _ (st₆'.loc (t := s₆.toks + 1) O n₇ sb₇) S₇ rfl q
end
end Mine
end
section
-- U34
set_option linter.unusedVariables false
set_option maxRecDepth 100000
namespace Mine
open PySem PySem.Calls PyProof.Rows PySem.W
section
variable {W : Wd} {F : Fx} {r : Nat} {own own' : Own} {g : G} {A : Around} {s s' : Shared}
theorem WE_cmp2 (O : F.Ok W) {Q : R → Prop} {X : Exc → Prop} {l m n : Expr} {op op' : CmpOp} {p : Pos} (hm : lastMarks [op, op'] [m, n] = false)
    (h : WE W F r g l (fun x => WE W F r g m (fun y => pCmp op x.d y.d fun t => (t = true → WE W F r g n (fun z => pCmp op' y.d z.d fun t => Q (.cl (.bool t))) X) ∧ (t = false → Q (.cl (.bool false)))) X) X) : WE W F r g (.Compare l [op, op'] [m, n] p) Q X :=
  fun A s own Qs Es hA S hQ hE => Compare_chain (WX.seq O h hA S hE fun v s₁ x st₁ S₁ rx q₁ hE₁ => chain_link (WX.seq O q₁ hA S₁ hE₁ fun u s₂ y st₂ S₂ ry q₂ hE₂ =>
    p_cmp hA.u (RDen.t (RDen.step O S₁ st₂ rx)) (RDen.t ry) q₂ fun b k => wpAny_truthy_bool (by
      cases b with
      | true => exact chain_last (WX.seq O (k.1 rfl) hA S₂ hE₂ fun w s₃ z st₃ S₃ rz q₃ hE₃ => p_cmp hA.u (RDen.t (RDen.step O S₂ st₃ ry)) (RDen.t rz) q₃ fun b k => hQ _ _ (.cl (.bool b)) (st₁.trans (st₂.trans st₃)) (.bool _) k)
      | false => exact hQ _ _ (.cl (.bool false)) (st₁.trans st₂) (.bool _) (k.2 rfl)))) hm
theorem WT_cmp2 (O : F.Ok W) {QB : Bool → Prop} {X : Exc → Prop} {l m n : Expr} {op op' : CmpOp} {p : Pos} (hm : lastMarks [op, op'] [m, n] = false)
    (h : WE W F r g l (fun x => WE W F r g m (fun y => pCmp op x.d y.d fun t => (t = true → WE W F r g n (fun z => pCmp op' y.d z.d QB) X) ∧ (t = false → QB false)) X) X) : WT W F r g (.Compare l [op, op'] [m, n] p) QB X :=
  fun A s own Qs Es hA S hQ hE => isTrue_chain (WX.seq O h hA S hE fun v s₁ x st₁ S₁ rx q₁ hE₁ => test_link (WX.seq O q₁ hA S₁ hE₁ fun u s₂ y st₂ S₂ ry q₂ hE₂ =>
    p_cmp hA.u (RDen.t (RDen.step O S₁ st₂ rx)) (RDen.t ry) q₂ fun b k => wpAny_truthy_bool (by
      cases b with
      | true => exact test_last (WX.seq O (k.1 rfl) hA S₂ hE₂ fun w s₃ z st₃ S₃ rz q₃ hE₃ => p_cmp hA.u (RDen.t (RDen.step O S₂ st₃ ry)) (RDen.t rz) q₃ fun b k => wpAny_truthy_bool (hQ _ _ b (st₁.trans (st₂.trans st₃)) rfl k))
      | false => exact hQ _ _ false (st₁.trans st₂) rfl (k.2 rfl)))) hm
/-- x = list(octets), to be held alone -/
theorem WS_asgN (B : W.Ok) (O : F.Ok W) {Q : Fl → G → Prop} {X : Exc → G → Prop} {i : Nat} {p p' np pp : Pos} {e : Expr} (he : notStar e = true) (hk : F.env.kindOf "list" = some .globalImplicit) (k : Sto W F i)
    (h : WE W F r g e (fun x => isB x.d fun l => l.length ≤ 4096 ∧ Q .nx (G.set g i (.o (l.map fun c => .int c.toNat)))) fun x => X x g) : WS W F r g (exec (.Assign [.Name (W.nm i) p'] (.Call (.Name "list" np) [e] [] pp) p) F.env) Q X :=
  fun A s own Qs Es hA S hQ hE => wpAny_Assign_Name (by
    refine wpAny_Call_ofName (name_bi B O S (f := 2) hk ?_)
    rw [back_cons he]
    refine callWith_bi (f := 2) rfl (evalArgs_plain (spliced_cons (WX.inS O h hA S hE fun v s₁ x st S₁ rd q hE₁ => spliced_nil ?_)))
    obtain ⟨l, el, z, q⟩ := isB_elim q
    have t := RDen.t rd
    rw [el] at t
    obtain ⟨t, rfl⟩ := t
    refine list_bytes hA.1 z fun h' vs k' n kp la i' => ?_
    have dd := den_ints (V := Vf F own) (h := s₁.heap) i'
    rw [List.map_map] at dd
    exact storeL B O k S₁ (s₀ := s₁) ⟨h', k', rfl, kp⟩ (get_top _) ⟨n, la⟩ dd fun s' st' S' => hQ _ _ _ .nx _ ((SStep.of st).trans st') S' rfl q) rfl
end
end Mine
end
section
-- U35
set_option linter.unusedVariables false
set_option maxRecDepth 100000
namespace Mine
open PySem PySem.Calls PyProof.Rows PySem.W
section
variable {W : Wd} {F : Fx} {r : Nat} {own own' : Own} {g g' : G} {A : Around} {s s' : Shared}
theorem set_ne {i j : Nat} {l : L} {g : G} (h : i ≠ j) : (G.set g j l).get i = g.get i := G.get_set_ne l (by cases hq : Nat.beq i j with | false => rfl | true => exact absurd (Nat.eq_of_beq_eq_true hq) h) g
theorem St.puts (O : F.Ok W) {h h' : Heap} (S : St W F own g h) (k : Keep (· = F.env.locals) F.Fs h h') (bk : ∀ i a, own' i = some a → own i = some a ∨ (h.get? a = none ∧ ∃ o, h'.get? a = some o)) (inj : ∀ i j a, own' i = some a → own' j = some a → i = j)
    (rd : ∃ m', h'.Ns F.env.locals m' ∧ ∀ i l, g'.get i = some l → i < 128 ∧ ∃ v, RdAt W F.env m' h' i v ∧ LDen F own' h' i v l) : St W F own' g' h' := by
  obtain ⟨m', n', rd'⟩ := rd
  have ln : ∃ o, h'.get? F.env.locals = some o := by obtain ⟨o, _, _, e, _⟩ := n'; exact ⟨o, e⟩
  have hb : ∀ a, h.get? a = none → W.hb.get? a = none := fun a n => by
    cases e : W.hb.get? a with
    | none => rfl
    | some o => exact nomatch n.symm.trans (S.base a o e)
  have lv : ∀ a, Vf F own a → ∃ o, h'.get? a = some o := fun a y => by
    by_cases q : a = F.env.locals
    · rw [q]; exact ln
    · exact k.some q (S.live a y)
  refine ⟨base_keep O S.base k (fun a q => by rw [q]; exact O.new _ (.inr O.loc)) (O.new _ (.inr O.loc)), ⟨m', n', rd'⟩, fun a y => ?_, inj, fun i a e => ?_, fun e he => ?_, fun i c q => ?_⟩
  · rcases y with y | y | ⟨i, y⟩
    · exact lv a (.inl y)
    · exact lv a (.inr (.inl y))
    · exact (bk i a y).elim (fun q => lv a (.inr (.inr ⟨i, q⟩))) fun q => q.2
  · exact (bk i a e).elim (S.own2 i a) fun q => ⟨fun y => S.fresh q.1 (.inl y), fun y => S.fresh q.1 (.inr (.inl y)), hb a q.1⟩
  · obtain ⟨a1, L, o, a2, a3, a4⟩ := S.fr e he
    by_cases q : L = F.env.locals
    · obtain ⟨o', es, ep, q1, q2, _⟩ := n'
      exact ⟨a1, L, o', a2, by rw [q]; exact q1, fun vs z => nomatch q2.symm.trans z⟩
    · obtain ⟨sl, e', _⟩ := k L o q a3
      exact ⟨a1, L, _, a2, e', a4⟩
  · obtain ⟨v, x⟩ := S.cel i c q
    refine ⟨v, cell_keep k (fun e => ?_) x⟩
    obtain ⟨o, q, d⟩ := x
    obtain ⟨_, ⟨o', es, ep, q', d', _⟩, _⟩ := S.rd
    rw [e, q'] at q; cases q; rw [d'] at d; cases d
/-- a, b, c, d = e, [], [], k -/
theorem WS_asg4 (B : W.Ok) (O : F.Ok W) {Q : Fl → G → Prop} {X : Exc → G → Prop} {a b c d : Nat} {k k' kk : Nat} {kn : Int} {p p' p'' q1 q2 q3 q4 p2 p3 p4 : Pos} {e : Expr} (he : notStar e = true)
    (ks : ∀ i ∈ [a, b, c, d], i < 128 ∧ F.env.kindOf (W.nm i) = some .local) (nd : a ≠ b ∧ a ≠ c ∧ a ≠ d ∧ b ≠ c ∧ b ≠ d ∧ c ≠ d)
    (hw : swappedStores [.Tuple [.Name (W.nm a) q1, .Name (W.nm b) q2, .Name (W.nm c) q3, .Name (W.nm d) q4] k p'] (.Tuple [e, .List [] p2, .List [] p3, .Constant (.int kn) kk p4] k' p'') F.env = pure none)
    (h : WE W F r g e (fun x => isC x fun v => Q .nx (G.set (G.set (G.set (G.set g a (.v v)) b (.o [])) c (.o [])) d (.v (.int kn)))) fun x => X x g) :
    WS W F r g (exec (.Assign [.Tuple [.Name (W.nm a) q1, .Name (W.nm b) q2, .Name (W.nm c) q3, .Name (W.nm d) q4] k p'] (.Tuple [e, .List [] p2, .List [] p3, .Constant (.int kn) kk p4] k' p'') p) F.env) Q X := fun A s own Qs Es hA S hQ hE => by
  refine Assign_Tuple ?_ rfl hw
  refine wpAny_Tuple ?_
  refine wpAny_items_cons ?_ (star_cons he _ _)
  refine WX.inS O h hA S hE fun v s₁ x st S₁ rd q hE₁ => ?_
  obtain ⟨v', rfl, q⟩ := isC_elim q
  refine wpAny_items_cons (wpAny_List (wpAny_items_nil ⟨Nat.zero_le _, ?_⟩)) (star_cons rfl _ _)
  refine wpAny_items_cons (wpAny_List (wpAny_items_nil ⟨Nat.zero_le _, ?_⟩)) (star_cons rfl _ _)
  refine wpAny_items_cons (wpAny_Constant_int (wpAny_items_nil ⟨(show 4 ≤ 16777216 by decide), ?_⟩)) (star_cons rfl _ _)
  generalize hA1 : s₁.heap.objs.size = A1 at *
  have n1 : s₁.heap.get? A1 = none := hA1 ▸ get_top _
  generalize hh1 : s₁.heap.push { cls := .type "list", data := .seq ([] : List Value).toArray } = h1 at *
  have z1 : h1.objs.size = A1 + 1 := by rw [← hh1, Heap.size_push, hA1]
  generalize hA2 : h1.objs.size = A2 at *
  generalize hh2 : h1.push { cls := .type "list", data := .seq ([] : List Value).toArray } = h2 at *
  have l1 : LsA h1 A1 [] := ⟨0, by rw [← hh1, ← hA1]; exact Heap.get?_push_size _ rfl⟩
  have l2 : LsA h2 A2 [] := ⟨0, by rw [← hh2, ← hA2]; exact Heap.get?_push_size _ rfl⟩
  have k1 : Stays s₁.heap h1 := fun b o e => hh1 ▸ Heap.get?_push_of_some _ e
  have k2 : Stays h1 h2 := fun b o e => hh2 ▸ Heap.get?_push_of_some _ e
  have n2 : s₁.heap.get? A2 = none := Heap.get?_none_of_le (by rw [hA1, z1]; exact Nat.le_succ _)
  have ne12 : A1 ≠ A2 := by rw [z1]; exact Nat.ne_of_lt (Nat.lt_succ_self _)
  refine wpAny_assign_Tuple hA.1 (tup_at (vs := [v, .ref A1, .ref A2, .int kn s₁.toks]) ⟨0, Heap.get?_push_size h2 rfl⟩) rfl rfl fun h4 k4 => ?_
  have k14 : Stays h2 h4 := fun b o e => ext_stays k4 b o (Heap.get?_push_of_some _ e)
  obtain ⟨m, n, rd₁⟩ := id S₁.rd
  have hp : (F.env.scope.kind == .class || (F.env.scope.kind == .module && F.env.locals != F.env.globals)) = false := by rw [O.kind]; rfl
  have n4 : h4.Ns F.env.locals m := ((n.keeps k1).keeps k2).keeps k14
  have ka := ks a List.mem_cons_self
  have kb := ks b (List.mem_cons_of_mem _ List.mem_cons_self)
  have kc := ks c (List.mem_cons_of_mem _ (List.mem_cons_of_mem _ List.mem_cons_self))
  have kd := ks d (List.mem_cons_of_mem _ (List.mem_cons_of_mem _ (List.mem_cons_of_mem _ List.mem_cons_self)))
  show wpAny W.M A (assignInOrder [assign (.Name (W.nm a) q1) F.env, assign (.Name (W.nm b) q2) F.env, assign (.Name (W.nm c) q3) F.env, assign (.Name (W.nm d) q4) F.env] [v, .ref A1, .ref A2, .int kn s₁.toks]) _ _ _
  refine wpAny_bind (wpAny_holding (PySem.wpAny_assign_Name (wpAny_storeName_local ka.2 n4 (fun h5 n5 s5 => ?_) hp)))
  refine wpAny_bind (wpAny_holding (PySem.wpAny_assign_Name (wpAny_storeName_local kb.2 n5 (fun h6 n6 s6 => ?_) hp)))
  refine wpAny_bind (wpAny_holding (PySem.wpAny_assign_Name (wpAny_storeName_local kc.2 n6 (fun h7 n7 s7 => ?_) hp)))
  refine wpAny_bind (wpAny_holding (PySem.wpAny_assign_Name (wpAny_storeName_local kd.2 n7 (fun h8 n8 s8 => wpAny_pure ?_) hp)))
  have sb : Heap.SameBut F.env.locals h4 h8 := ((Heap.SameBut.trans s5 s6).trans s7).trans s8
  have fl : ∀ x, s₁.heap.get? x = none → x ≠ F.env.locals := fun x q y => S₁.fresh q (.inr (.inl (by rw [y]; exact O.loc)))
  have kk : Keep (· = F.env.locals) F.Fs s₁.heap h8 := fun b o nb e => ⟨o.slots, (sb.2 b nb).trans (k14 _ _ (k2 _ _ (k1 _ _ e))), fun _ => rfl⟩
  have ls1 : LsA h8 A1 [] := l1.imp fun _ e => (sb.2 _ (fl _ n1)).trans (k14 _ _ (k2 _ _ e))
  have ls2 : LsA h8 A2 [] := l2.imp fun _ e => (sb.2 _ (fl _ n2)).trans (k14 _ _ e)
  have own' : ∃ own' : Own, own' = (((own.put a none).put b (some A1)).put c (some A2)).put d none := ⟨_, rfl⟩
  obtain ⟨own', eo⟩ := own'
  have od : own' d = none := by rw [eo]; exact if_pos rfl
  have oc : own' c = some A2 := by rw [eo]; exact (if_neg nd.2.2.2.2.2).trans (if_pos rfl)
  have ob : own' b = some A1 := by rw [eo]; exact (if_neg nd.2.2.2.2.1).trans ((if_neg nd.2.2.2.1).trans (if_pos rfl))
  have oa : own' a = none := by rw [eo]; exact (if_neg nd.2.2.1).trans ((if_neg nd.2.1).trans ((if_neg nd.1).trans (if_pos rfl)))
  have oo : ∀ i, i ≠ a → i ≠ b → i ≠ c → i ≠ d → own' i = own i := fun i i1 i2 i3 i4 => by rw [eo]; exact (if_neg i4).trans ((if_neg i3).trans ((if_neg i2).trans (if_neg i1)))
  have ow : ∀ i x, own' i = some x → (i = b ∧ x = A1) ∨ (i = c ∧ x = A2) ∨ (i ≠ a ∧ i ≠ b ∧ i ≠ c ∧ i ≠ d ∧ own i = some x) := fun i x e => by
    by_cases i1 : i = a
    · rw [i1, oa] at e; cases e
    · by_cases i2 : i = b
      · rw [i2, ob] at e; cases e; exact .inl ⟨i2, rfl⟩
      · by_cases i3 : i = c
        · rw [i3, oc] at e; cases e; exact .inr (.inl ⟨i3, rfl⟩)
        · by_cases i4 : i = d
          · rw [i4, od] at e; cases e
          · exact .inr (.inr ⟨i1, i2, i3, i4, (oo i i1 i2 i3 i4).symm.trans e⟩)
  have lv : ∀ i x, own i = some x → ∃ o, s₁.heap.get? x = some o := fun i x e => S₁.live x (.inr (.inr ⟨i, e⟩))
  have bk : ∀ x, Vf F own' x → Vf F own x ∨ s₁.heap.get? x = none := fun x y => by
    rcases y with y | y | ⟨i, y⟩
    · exact .inl (.inl y)
    · exact .inl (.inr (.inl y))
    · rcases ow i x y with ⟨_, q⟩ | ⟨_, q⟩ | ⟨_, _, _, _, q⟩
      · rw [q]; exact .inr n1
      · rw [q]; exact .inr n2
      · exact .inl (.inr (.inr ⟨i, q⟩))
  have dk : ∀ v d, Den s₁.heap (Vf F own) v d → Den h8 (Vf F own') v d := fun v d x => Den.keep' kk (fun a q => by rw [q]; exact .inr (.inl O.loc)) O.fv bk x
  have S8 : St W F own' (G.set (G.set (G.set (G.set g a (.v v')) b (.o [])) c (.o [])) d (.v (.int kn))) h8 := by
    refine S₁.puts O kk (fun i x e => ?_) (fun i j x e e' => ?_) ⟨_, n8, fun i l e => ?_⟩
    · rcases ow i x e with ⟨_, q⟩ | ⟨_, q⟩ | ⟨_, _, _, _, q⟩
      · rw [q]; exact .inr ⟨n1, ls1.elim fun _ e => ⟨_, e⟩⟩
      · rw [q]; exact .inr ⟨n2, ls2.elim fun _ e => ⟨_, e⟩⟩
      · exact .inl q
    · rcases ow i x e with ⟨i1, q⟩ | ⟨i1, q⟩ | ⟨_, _, _, _, q⟩ <;> rcases ow j x e' with ⟨j1, q'⟩ | ⟨j1, q'⟩ | ⟨_, _, _, _, q'⟩
      · rw [i1, j1]
      · exact (ne12 (q.symm.trans q')).elim
      · obtain ⟨o, z⟩ := lv j x q'; rw [q, n1] at z; cases z
      · exact (ne12 (q'.symm.trans q)).elim
      · rw [i1, j1]
      · obtain ⟨o, z⟩ := lv j x q'; rw [q, n2] at z; cases z
      · obtain ⟨o, z⟩ := lv i x q; rw [q', n1] at z; cases z
      · obtain ⟨o, z⟩ := lv i x q; rw [q', n2] at z; cases z
      · exact S₁.own1 i j x q q'
    · have inj : ∀ {i j : Nat}, i < 128 → j < 128 → i ≠ j → W.nm i ≠ W.nm j := fun hi hj q e => q (B.inj _ _ hi hj e)
      by_cases i4 : i = d
      · subst i4
        rw [G.get_set_self] at e; cases e
        exact ⟨kd.1, .int kn s₁.toks, .inl ⟨kd.2, if_pos rfl⟩, .int _ _⟩
      · rw [set_ne i4] at e
        by_cases i3 : i = c
        · subst i3
          rw [G.get_set_self] at e; cases e
          exact ⟨kc.1, .ref A2, .inl ⟨kc.2, (if_neg (inj kc.1 kd.1 i4)).trans (if_pos rfl)⟩, A2, [], oc, rfl, ls2, .nil⟩
        · rw [set_ne i3] at e
          by_cases i2 : i = b
          · subst i2
            rw [G.get_set_self] at e; cases e
            exact ⟨kb.1, .ref A1, .inl ⟨kb.2, (if_neg (inj kb.1 kd.1 i4)).trans ((if_neg (inj kb.1 kc.1 i3)).trans (if_pos rfl))⟩, A1, [], ob, rfl, ls1, .nil⟩
          · rw [set_ne i2] at e
            by_cases i1 : i = a
            · subst i1
              rw [G.get_set_self] at e; cases e
              exact ⟨ka.1, v, .inl ⟨ka.2, (if_neg (inj ka.1 kd.1 i4)).trans ((if_neg (inj ka.1 kc.1 i3)).trans ((if_neg (inj ka.1 kb.1 i2)).trans (if_pos rfl)))⟩, dk _ _ rd⟩
            · rw [set_ne i1] at e
              obtain ⟨hi, u, ra, ld⟩ := rd₁ i l e
              refine ⟨hi, u, ?_, ?_⟩
              · rcases ra with ⟨q1, q2⟩ | ⟨q1, c', q2, q3⟩
                · exact .inl ⟨q1, (if_neg (inj hi kd.1 i4)).trans ((if_neg (inj hi kc.1 i3)).trans ((if_neg (inj hi kb.1 i2)).trans ((if_neg (inj hi ka.1 i1)).trans q2)))⟩
                · refine .inr ⟨q1, c', q2, cell_keep kk (fun y => ?_) q3⟩
                  obtain ⟨o, z, z'⟩ := q3
                  obtain ⟨o', es, ep, y1, y2, _⟩ := n
                  rw [y, y1] at z; cases z; rw [y2] at z'; cases z'
              · cases l with
                | v d => exact dk _ _ ld
                | o l =>
                  obtain ⟨x, vs, e1, e2, e3, e4⟩ := ld
                  exact ⟨x, vs, (oo i i1 i2 i3 i4).trans e1, e2, kk.ex (fun y => (S₁.own2 i x e1).2.1 (by rw [y]; exact O.loc)) (O.nf (S₁.own2 i x e1).1 (S₁.own2 i x e1).2.1) e3, Mine.Paired.imp dk e4⟩
  refine hQ .next _ own' .nx _ ((SStep.of st).trans ⟨⟨h8, _, rfl, kk.mono (fun b q => .inl (by rw [q]; exact O.loc)) fun _ q => q⟩, fun b nb => ?_, fun x y => ?_⟩) S8 rfl q
  · by_cases q : b = F.env.locals
    · obtain ⟨o, _, _, e, _⟩ := n8
      rw [q] at nb; exact nomatch e.symm.trans nb
    · cases e : s₁.heap.get? b with
      | none => rfl
      | some o => obtain ⟨_, e', _⟩ := kk b o q e; exact nomatch e'.symm.trans nb
  · rcases y with y | ⟨i, y⟩
    · exact .inl (.inl y)
    · rcases ow i x y with ⟨_, q⟩ | ⟨_, q⟩ | ⟨_, _, _, _, q⟩
      · rw [q]; exact .inr n1
      · rw [q]; exact .inr n2
      · exact .inl (.inr ⟨i, q⟩)
end
end Mine
end
section
-- U36
set_option linter.unusedVariables false
set_option maxRecDepth 100000
namespace Mine
open PySem PySem.Calls PyProof.Rows PySem.W
/-- the frame of a call of a def with cells of its own -/
noncomputable def eFx (fd : FuncData) (fa L : Addr) (Y : AP) (frs : List Env) (cs : Addr → List (Nat × Addr)) : Fx := { env := callEnvC fd L fa, Z := fun a => a = L ∨ ∃ p ∈ cs L, p.2 = a, Y := Y, frs := callEnvC fd L fa :: frs, cel := cs L }
/-- a def of one argument, its cells by number -/
structure CelOk (W : Wd) (fd : FuncData) (x : Nat) (cs : Addr → List (Nat × Addr)) : Prop where
  clo : fd.closure = []
  bind : ∀ v, bindArgs fd ⟨[v], []⟩ = pure [(W.nm x, v)]
  hx : x < 128
  kx : fd.scope.names.lookup (W.nm x) = some .local ∨ (fd.scope.names.lookup (W.nm x) = some .cell ∧ ∀ L, ((cellsFrom (L + 1) fd.scope.names []).lookup (W.nm x)).isSome = true)
  cel : ∀ L p, p ∈ cs L → fd.scope.names.lookup (W.nm p.1) = some .cell ∧ p.1 < 128 ∧ (cellsFrom (L + 1) fd.scope.names []).lookup (W.nm p.1) = some p.2
section
variable {W : Wd} {r : Nat} {A : Around} {s : Shared} {V : AP} {frs : List Env} {v : Value}
theorem none_ge {h : Heap} {a : Addr} (e : h.objs.size ≤ a) : h.get? a = none := by
  cases q : h.get? a with
  | none => rfl
  | some o => exact absurd (Heap.lt_size q) (Nat.not_lt.mpr e)
theorem entryC (B : W.Ok) {fa : Addr} {fd : FuncData} {body : List Stmt} (D₀ : DefOk W fa fd body) {x : Nat} {cs : Addr → List (Nat × Addr)} (K : CelOk W fd x cs) (hA : A.depth < recursionLimit)
    (hst : Stays W.hb s.heap) (hfr : FrAt frs s.heap) (hV : ∀ a, V a → W.hb.get? a = none) (lv : Live V s.heap) (hFV : ∀ a, a ∈ frs.filterMap (·.frame) → V a) {R : Result → Shared → Prop}
    (h : ∀ L h₀ tk, (∀ a, (eFx fd fa L V frs cs).Z a → s.heap.get? a = none) → Stays s.heap h₀ → (eFx fd fa L V frs cs).Ok W → (∀ d, Den s.heap V v d → St W (eFx fd fa L V frs cs) (fun _ => none) [(x, .v d)] h₀) → St W (eFx fd fa L V frs cs) (fun _ => none) [] h₀ →
      (fd.scope.names.lookup (W.nm x) = some .local → ∃ m, h₀.Ns L m ∧ m (W.nm x) = some v) → (∀ b, h₀.get? b = none → s.heap.get? b = none) →
      wpAny W.M (A.deeper (callEnvC fd L fa)) (execs body (callEnvC fd L fa)) (fun f s' => R (.ok (.ret (match f with | .ret v => v | _ => .none))) s') (fun _ _ => False) { s with heap := h₀, toks := tk }) :
    codeAny W.M A (.call (.ref fa) ⟨[v], []⟩) R s := by
  obtain ⟨o, ho, hdata⟩ := D₀.at_
  refine codeAny_call_cells hA (hst _ _ ho) hdata (B.lim.keeps hst) (D₀.code.keeps hst) D₀.body (K.bind v) K.clo (fun y hy => ?_) (fun s₁ X => ?_) D₀.co D₀.gen D₀.kind
  · rw [List.mem_singleton.mp hy]
    exact K.kx.imp id fun q => ⟨q.1, q.2 _⟩
  generalize hL : s.heap.objs.size = L at *
  have nL : s.heap.get? L = none := hL ▸ get_top _
  obtain ⟨IC, cell, apart, above⟩ := X
  obtain ⟨⟨h₀, tk, rfl⟩, ns, hk, _⟩ := IC
  have cab : ∀ p ∈ cs L, L < p.2 := fun p hp => above _ _ (mem_of_lookup (K.cel L p hp).2.2)
  have cno : ∀ p ∈ cs L, s.heap.get? p.2 = none := fun p hp => none_ge (by rw [hL]; exact Nat.le_of_lt (cab p hp))
  have zno : ∀ a, (eFx fd fa L V frs cs).Z a → s.heap.get? a = none := fun a z => by
    rcases z with rfl | ⟨p, hp, rfl⟩
    · exact nL
    · exact cno p hp
  have bno : ∀ a, s.heap.get? a = none → W.hb.get? a = none := fun a n => by
    cases e : W.hb.get? a with
    | none => rfl
    | some o => exact nomatch n.symm.trans (hst _ _ e)
  have lvn : ∀ a, s.heap.get? a = none → ¬ V a := fun a n y => let ⟨_, e⟩ := lv a y; nomatch n.symm.trans e
  have O' : (eFx fd fa L V frs cs).Ok W := {
    kind := D₀.kind
    gl := D₀.gl
    bl := D₀.bl
    loc := .inl rfl
    new := fun a y => y.elim (hV a) fun z => bno a (zno a z)
    fs := fun a y => by
      rcases List.mem_cons.mp (show a ∈ L :: frs.filterMap (·.frame) from y) with q | q
      · exact .inr q
      · exact .inl (hFV a q)
    apart := fun a z => lvn a (zno a z)
    celk := fun i c e => by
      obtain ⟨k1, k2, k3⟩ := K.cel L (i, c) e
      exact ⟨k1, k3, .inr ⟨_, e, rfl⟩, fun j hj q => B.inj j i hj k2 (name_of_addr apart (mem_of_lookup q) (mem_of_lookup k3))⟩ }
  have vf : ∀ a, Vf (eFx fd fa L V frs cs) (fun _ => none) a → V a ∨ s.heap.get? a = none := fun a y => y.imp id fun y => y.elim (zno a) fun ⟨_, q⟩ => nomatch q
  have mk : ∀ g : G, (∀ i l, g.get i = some l → i < 128 ∧ ∃ u, RdAt W (callEnvC fd L fa) (bindL (callEnvC fd L fa).kindOf [(W.nm x, v)] fun _ => none) h₀ i u ∧ LDen (eFx fd fa L V frs cs) (fun _ => none) h₀ i u l) → St W (eFx fd fa L V frs cs) (fun _ => none) g h₀ := fun g hg => by
    refine ⟨fun b o e => hk b o (hst b o e), ⟨_, ns, hg⟩, fun a y => ?_, fun _ _ _ e => (nomatch e), fun _ _ e => (nomatch e), fun e he => ?_, fun i c e => ?_⟩
    · rcases y with y | y | ⟨_, y⟩
      · obtain ⟨o, e⟩ := lv a y; exact ⟨o, hk _ _ e⟩
      · rcases y with rfl | ⟨p, hp, rfl⟩
        · obtain ⟨o, _, _, e, _⟩ := ns; exact ⟨o, e⟩
        · obtain ⟨o, e, _⟩ := cell _ _ (K.cel L p hp).2.2; exact ⟨o, e⟩
      · cases y
    · rcases List.mem_cons.mp he with q | q
      · subst q
        obtain ⟨o, es, ep, e, e', _⟩ := ns
        refine ⟨fun q => ?_, L, o, rfl, e, fun vs q => nomatch e'.symm.trans q⟩
        have kk := D₀.kind
        rw [show (callEnvC fd L fa).scope = fd.scope from rfl] at q
        rw [q] at kk; cases kk
      · obtain ⟨a1, L', o, a2, a3, a4⟩ := hfr e q
        exact ⟨a1, L', o, a2, hk _ _ a3, a4⟩
    · exact ⟨_, cell _ _ (K.cel L (i, c) e).2.2⟩
  refine wpAny_mono (h L h₀ tk zno hk O' (fun d dv => mk _ fun i l e => ?_) (mk [] fun _ _ e => nomatch e) (fun kl => ⟨_, ns, ?_⟩) fun b n => ?_) (fun _ _ q => q) fun _ _ f => f.elim
  · unfold G.get at e
    cases hb : Nat.beq i x with
    | false => rw [hb] at e; cases e
    | true =>
      rw [hb] at e; cases e
      have ei := Nat.eq_of_beq_eq_true hb
      subst ei
      refine ⟨K.hx, v, ?_, Den.keep' (Keep.of_stays hk noA noA) (fun _ f => f.elim) (fun _ f => f.elim) vf dv⟩
      rcases K.kx with q | ⟨q, q'⟩
      · refine .inl ⟨q, ?_⟩
        unfold bindL bindL
        rw [if_pos (show (callEnvC fd L fa).kindOf (W.nm i) = some .local from q)]
        exact if_pos rfl
      · refine .inr ⟨.inl q, ?_⟩
        obtain ⟨c, hc⟩ := Option.isSome_iff_exists.mp (q' L)
        have := cell _ _ hc
        unfold bindC bindC at this
        rw [if_neg (show ¬ (callEnvC fd L fa).kindOf (W.nm i) = some .local from fun z => by rw [show (callEnvC fd L fa).kindOf (W.nm i) = some .cell from q] at z; cases z), if_pos rfl] at this
        exact ⟨c, hc, this⟩
  · unfold bindL bindL
    rw [if_pos (show (callEnvC fd L fa).kindOf (W.nm x) = some .local from kl)]
    exact if_pos rfl
  · cases e : s.heap.get? b with
    | none => rfl
    | some o => exact nomatch n.symm.trans (hk b o e)
theorem contractC (B : W.Ok) {fa : Addr} {fd : FuncData} {body : List Stmt} (D₀ : DefOk W fa fd body) {x : Nat} {cs : Addr → List (Nat × Addr)} (K : CelOk W fd x cs) {sp : Spec}
    (hb : ∀ ds kds Qd Xd, sp ds kds Qd Xd → kds = [] ∧ ∃ d, ds = [d] ∧ ∀ L Y frs, (eFx fd fa L Y frs cs).Ok W → WS W (eFx fd fa L Y frs cs) r [(x, .v d)] (execs body (callEnvC fd L fa)) (fun fl _ => Qd (flD fl)) (fun _ _ => False)) : Contract W (r + 1) fa sp := by
  obtain ⟨o, ho, hdata⟩ := D₀.at_
  refine ⟨⟨o, fd, ho, hdata⟩, fun F A s V vs kvs ds kds Qs Es Qd Xd hA hst hfr hV lv hFV dv dk hsp hQ hE => ?_⟩
  obtain ⟨rfl, d, rfl, body'⟩ := hb ds kds Qd Xd hsp
  cases dk
  cases dv with
  | cons dv r' =>
    cases r'
    refine wpAny_call (entryC B D₀ K (by have := hA.2.2.1; omega) hst hfr hV lv hFV fun L h₀ tk nL hk O' S _ _ no => ?_)
    have hA' : AOk (eFx fd fa L V F.frs cs) r (A.deeper (callEnvC fd L fa)) := ⟨hA.1, by show A.frames.map _ = _; rw [hA.2.1]; rfl, by have := hA.2.2.1; show A.depth + 1 + r < _; omega, by have := hA.2.2.2; show A.units + 3 + 16 * r + 100 < _; omega⟩
    refine body' L V F.frs O' (A.deeper (callEnvC fd L fa)) _ (fun _ => none) _ _ hA' (S d dv) (fun f s₂ own' fl g' st S' fa' q => ?_) fun e s₂ own' x g' st S' y xa => xa.elim
    have stp : Step F noA s s₂ := by
      obtain ⟨h₂, t₂, rfl, k₂⟩ := st.1
      refine ⟨h₂, t₂, rfl, fun a o _ e => ?_⟩
      have nz : ¬ Xf (eFx fd fa L V F.frs cs) (fun _ => none) a := fun y => by
        rcases y with y | ⟨_, y⟩
        · exact nomatch (nL a y).symm.trans e
        · cases y
      obtain ⟨sl, e', q⟩ := k₂ a o nz (hk a o e)
      exact ⟨sl, e', fun nf => q fun y => by
        rcases List.mem_cons.mp (show a ∈ L :: F.frs.filterMap (·.frame) from y) with z | z
        · subst z; exact nomatch (nL _ (.inl rfl)).symm.trans e
        · exact nf z⟩
    cases fl with
    | nx => cases fa'; exact hQ .none _ .none stp .none q
    | rt d => obtain ⟨v, rfl, dn⟩ := fa'; exact hQ v _ d stp dn q
end
end Mine
end
section
-- U37
set_option linter.unusedVariables false
set_option maxRecDepth 100000
namespace Mine
open PySem PySem.Calls PyProof.Rows PySem.W
section
variable {W : Wd} {F : Fx} {r : Nat} {own own' : Own} {g : G} {A : Around} {s s' s₁ : Shared}
/-- x = a + b, two lists: to be held alone -/
theorem WS_asgA (B : W.Ok) (O : F.Ok W) {Q : Fl → G → Prop} {X : Exc → G → Prop} {i : Nat} {p p' pp : Pos} {l m : Expr} (k : Sto W F i) (hs : swapsWith (.BinOp l .Add m pp) (some (.Name (W.nm i) p')) p.line F.env = pure false)
    (h : WE W F r g l (fun x => WE W F r g m (fun y => isL x.d fun a => isL y.d fun b => a.length + b.length ≤ 4096 ∧ Q .nx (G.set g i (.o (a ++ b)))) fun x => X x g) fun x => X x g) : WS W F r g (exec (.Assign [.Name (W.nm i) p'] (.BinOp l .Add m pp) p) F.env) Q X :=
  fun A s own Qs Es hA S hQ hE => wpAny_Assign_Name (PySem.wpAny_BinOp (WX.inS O h hA S hE fun v s₁ x st₁ S₁ rx q₁ hE₁ => WX.inS O q₁ hA S₁ hE₁ fun u s₂ y st₂ S₂ ry q₂ hE₂ => by
    obtain ⟨a, ea, q⟩ := isL_elim q₂
    obtain ⟨b, eb, z, q⟩ := isL_elim q
    have tx := RDen.t (RDen.step O S₁ st₂ rx)
    have ty := RDen.t ry
    rw [ea] at tx
    rw [eb] at ty
    obtain ⟨a1, vs, rfl, ⟨n, l1⟩, r1⟩ := tx
    obtain ⟨b1, ws, rfl, ⟨n', l2⟩, r2⟩ := ty
    refine P.add_list l1 l2 ?_ ?_
    · rw [List.append_toArray]
      exact storeL B O k S₂ (GStep.push _ _ _) (get_top _) ⟨0, Heap.get?_push_size _ rfl⟩ (Mine.Paired.app r1 r2) fun s' st' S' => hQ _ _ _ .nx _ ((SStep.of (st₁.trans st₂)).trans st') S' rfl q
    · rw [sizeLine_eq]; have := Paired.length r1; have := Paired.length r2; simp only [List.size_toArray]; omega)) hs
end
end Mine
end
section
-- P1
set_option linter.unusedVariables false
set_option maxRecDepth 100000
namespace Mine
open PySem PySem.Calls PyProof.Rows PySem.W
theorem nm_inj : ∀ i j, i < 128 → j < 128 → nmOf i = nmOf j → i = j := by
  have h : (List.range 128).all (fun i => (List.range 128).all fun j => !(nmOf i == nmOf j) || Nat.beq i j) = true := by decide +kernel
  intro i j hi hj e
  have h1 := List.all_eq_true.mp h i (List.mem_range.mpr hi)
  have h2 := List.all_eq_true.mp h1 j (List.mem_range.mpr hj)
  rw [e, beq_self_eq_true] at h2
  exact Nat.eq_of_beq_eq_true (by simpa using h2)
theorem nm_dbg : ∀ i, i < 128 → (nmOf i == ("__debug__" : Str)) = false ∧ (nmOf i == ("__classdict__" : Str)) = false := by
  have h : (List.range 128).all (fun i => !(nmOf i == ("__debug__" : Str)) && !(nmOf i == ("__classdict__" : Str))) = true := by decide +kernel
  intro i hi
  have h1 := List.all_eq_true.mp h i (List.mem_range.mpr hi)
  simpa using h1
/-- what is known behind the head -/
structure Bh (W : Wd) : Prop where
  ok : W.Ok
  K : (myK W.w.params).In W.hb
theorem Bh.nm {W : Wd} (H : Bh W) : W.nm = nmOf := rfl
theorem Bh.n {W : Wd} (H : Bh W) (i : Nat) : W.nm i = nmOf i := rfl
section
variable {W : Wd} {F : Fx} {r : Nat} {g : G} {Q : R → Prop} {X : Exc → Prop}
theorem WE_vd (H : Bh W) (O : F.Ok W) (i : Nat) {x : Str} {p : Pos} {d : D} (hx : W.nm i = x) (e : g.get i = some (.v d)) (q : Q (.cl d)) : WE W F r g (.Name x p) Q X := by subst hx; exact WE_v H.ok O (by rw [e]; exact q)
theorem WE_vo (H : Bh W) (O : F.Ok W) (i : Nat) {x : Str} {p : Pos} {l : List D} (hx : W.nm i = x) (e : g.get i = some (.o l)) (q : Q (.ow i l)) : WE W F r g (.Name x p) Q X := by subst hx; exact WE_v H.ok O (by rw [e]; exact q)
theorem WE_gi (H : Bh W) (O : F.Ok W) {x : Str} {p : Pos} {n : Int} {t : Tok} (e : nsIn (myK W.w.params) mainGlobals x = some (some (.int n t))) (hk : F.env.kindOf x = some .globalImplicit) (hd : (x == ("__debug__" : Str)) = false) (q : Q (.cl (.int n))) : WE W F r g (.Name x p) Q X :=
  WE_g H.ok O hk ⟨.int n, ⟨hd, _, mg_of H.K H.ok.nsg e, .int _ _⟩, q⟩
theorem WE_gs (H : Bh W) (O : F.Ok W) {x : Str} {p : Pos} {n : Str} {t : Tok} (e : nsIn (myK W.w.params) mainGlobals x = some (some (.str n t))) (hk : F.env.kindOf x = some .globalImplicit) (hd : (x == ("__debug__" : Str)) = false) (q : Q (.cl (.str n))) : WE W F r g (.Name x p) Q X :=
  WE_g H.ok O hk ⟨.str n, ⟨hd, _, mg_of H.K H.ok.nsg e, .str _ _⟩, q⟩
theorem WX.cut {α ρ : Type} {P : Own → Heap → α → ρ → Prop} {t : Sem α} {Q Q' : ρ → Prop} {X X' : Exc → Prop} (h : WX W F r g P t Q' X') (k : ∀ x, Q' x → Q x) (k' : ∀ x, X' x → X x) : WX W F r g P t Q X :=
  fun A s own Qs Es hA S hQ hE => h A s own Qs Es hA S (fun v s' x st p q => hQ v s' x st p (k x q)) fun e s' x st y q => hE e s' x st y (k' x q)
end
theorem Bh.mg {W : Wd} (H : Bh W) {x : Str} {v : Value} (e : nsIn (myK W.w.params) mainGlobals x = some (some v)) : W.mg x = some v := mg_of H.K H.ok.nsg e
theorem Bh.def {W : Wd} (H : Bh W) {fa c : Addr} {st : Stmt} {n q : Str} {dfl m : Value} {vs : Array Value} {t : Tok} (e : (myK W.w.params).lookup fa = some ⟨.type "function", none, .func (mkF st n q dfl m (.ref c)), #[]⟩)
    (ec : (myK W.w.params).lookup c = some ⟨.type "code", none, .fields vs, #[]⟩) (ev : vs[1]? = some (.str q t)) (h1 : (stScope st).kind = .function) (h2 : (stScope st).isCoroutine = false) (h3 : (stScope st).isGenerator = false) :
    DefOk W fa (mkF st n q dfl m (.ref c)) (stBody st) :=
  ⟨⟨_, H.K _ _ e, rfl⟩, ⟨c, _, vs, t, rfl, H.K _ _ ec, rfl, ev⟩, rfl, rfl, h1, h2, h3, rfl⟩
section
variable {W : Wd} (H : Bh W)
include H
theorem d_is_code : ∃ c m, DefOk W 66 (mkF (stAt 12) "is_code" "is_code" .none m (.ref c)) (stBody (stAt 12)) := ⟨65, _, H.def (by rfl) (by rfl) (by rfl) (by rfl) (by rfl) (by rfl)⟩
theorem m_is_code : W.mg "is_code" = some (.ref 66) := H.mg (by rfl)
end
end Mine
end
section
-- P2
set_option linter.unusedVariables false
set_option maxRecDepth 100000
namespace Mine
open PySem PySem.Calls PyProof.Rows PySem.W
section
variable {W : Wd}
theorem bind1 (hn : W.nm = nmOf) {fd : FuncData} {a : Nat} {d : D} (ha : a < 128) (hl : fd.scope.names.lookup (nmOf a) = some .local) (hb : ∀ v, bindArgs fd ⟨[v], []⟩ = pure [(nmOf a, v)]) : BindOk W fd [d] [] [(a, .v d)] := by
  intro s V vs kvs _ _ dv dk
  cases dk
  cases dv with
  | cons x dv =>
    cases dv
    refine ⟨_, .of_eq (hb _), fun y hy => by rw [List.mem_singleton.mp hy]; exact hl, fun i l e => ?_⟩
    rw [hn]
    unfold G.get at e
    cases h : Nat.beq i a with
    | false => rw [h] at e; cases e
    | true =>
      rw [h] at e; cases e
      have := Nat.eq_of_beq_eq_true h
      subst this
      exact ⟨ha, hl, d, _, rfl, by simp, x⟩
end
noncomputable def sp_is_code : Spec := fun ds kds Q X => ∃ n, ds = [.int n] ∧ kds = [] ∧ Q (.bool (decide (0 ≤ n) && decide (n ≤ 1114111)))
section
variable {W : Wd} (H : Bh W)
include H
theorem gl_int {x : Str} {n : Int} {t : Tok} (h : (x == ("__debug__" : Str)) = false) (e : nsIn (myK W.w.params) mainGlobals x = some (some (.int n t))) : GlobOk W x (.int n) := ⟨h, _, H.mg e, .int _ _⟩
theorem c_is_code (r : Nat) : FnOk W (r + 1) "is_code" sp_is_code := by
  obtain ⟨c, m, D₀⟩ := d_is_code H
  refine ⟨by decide +kernel, 66, m_is_code H, contract H.ok D₀ (show ∀ x ∈ (stScope (stAt 12)).names, x.2 ≠ NameKind.cell by decide +kernel) fun ds kds Q X h => ?_⟩
  obtain ⟨n, rfl, rfl, q⟩ := h
  refine ⟨_, bind1 (a := 0) H.nm (by decide) (by rfl) (fun v => by rfl), fun L Y frs O => ?_⟩
  refine WSs_cons O (WS_ret O ?_)
  refine WE_cmp2 O (by rfl) (WE_i ?_)
  refine WE_vd H O 0 (H.n 0) rfl ?_
  refine And.intro (fun h => ?_) fun h => ?_
  · refine WE_gi H O (by rfl) (by rfl) (by decide +kernel) ?_
    show Q (.bool (decide (n ≤ 1114111)))
    rw [h] at q; exact q
  · show Q (.bool false)
    rw [h] at q; exact q
end
end Mine
end
section
-- P3
set_option linter.unusedVariables false
set_option maxRecDepth 100000
namespace Mine
open PySem PySem.Calls PyProof.Rows PySem.W
theorem lookup_mem {k : Str} {v : Value} : ∀ {l : List (Str × Value)}, (l.map (·.1)).Nodup → (k, v) ∈ l → l.lookup k = some v
  | [], _, h => nomatch h
  | (a, b) :: l, nd, h => by
    rw [List.lookup_cons]
    have nd' := List.nodup_cons.mp nd
    rcases List.mem_cons.mp h with q | q
    · cases q; rw [beq_self_eq_true]
    · have : (k == a) = false := by
        cases e : k == a with
        | false => rfl
        | true => rw [eq_of_beq e] at q; exact absurd (List.mem_map.mpr ⟨_, q, rfl⟩) nd'.1
      rw [this]
      exact lookup_mem nd'.2 q
theorem nodup_map {α β : Type} {f : α → β} : ∀ {l : List α}, (∀ a b, a ∈ l → b ∈ l → f a = f b → a = b) → l.Nodup → (l.map f).Nodup
  | [], _, _ => List.nodup_nil
  | a :: l, h, nd => by
    have nd' := List.nodup_cons.mp nd
    refine List.nodup_cons.mpr ⟨fun q => ?_, nodup_map (fun x y hx hy => h x y (List.mem_cons_of_mem _ hx) (List.mem_cons_of_mem _ hy)) nd'.2⟩
    obtain ⟨b, hb, e⟩ := List.mem_map.mp q
    have := h b a (List.mem_cons_of_mem _ hb) List.mem_cons_self e
    exact nd'.1 (this ▸ hb)
theorem two {P : List Value → Prop} (h : ∀ x y, P [x, y]) : ∀ vs : List Value, vs.length = 2 → P vs
  | [x, y], _ => h x y
theorem three {P : List Value → Prop} (h : ∀ x y z, P [x, y, z]) : ∀ vs : List Value, vs.length = 3 → P vs
  | [x, y, z], _ => h x y z
theorem den1 {h : Heap} {V : AP} {vs : List Value} {d : D} (x : DenL h V vs [d]) : ∃ v, vs = [v] ∧ Den h V v d := by
  cases x with
  | cons a r => cases r; exact ⟨_, rfl, a⟩
theorem den2 {h : Heap} {V : AP} {vs : List Value} {d e : D} (x : DenL h V vs [d, e]) : ∃ v w, vs = [v, w] ∧ Den h V v d ∧ Den h V w e := by
  cases x with
  | cons a r => obtain ⟨w, rfl, b⟩ := den1 r; exact ⟨_, _, rfl, a, b⟩
theorem kwd1 {h : Heap} {V : AP} {kvs : List (Str × Value)} {k : Str} {d : D} (x : Paired (fun (p : Str × Value) (q : Str × D) => p.1 = q.1 ∧ Den h V p.2 q.2) kvs [(k, d)]) : ∃ v, kvs = [(k, v)] ∧ Den h V v d := by
  cases x with
  | cons a r =>
    cases r
    rename_i p
    obtain ⟨p1, p2⟩ := p
    exact ⟨p2, by rw [show p1 = k from a.1], a.2⟩
section
variable {W : Wd}
/-- arguments given by place, each under its own name -/
theorem bindG {fd : FuncData} {xs : List Nat} {ds ds' : List D} {kds : List (Str × D)} (hx : ∀ i ∈ xs, i < 128 ∧ fd.scope.names.lookup (nmOf i) = some .local) (nd : xs.Nodup) (el : ds'.length = xs.length)
    (hb : ∀ (s : Shared) (V : AP) (vs : List Value) (kvs : List (Str × Value)), Stays W.hb s.heap → DenL s.heap V vs ds → Paired (fun p q => p.1 = q.1 ∧ Den s.heap V p.2 q.2) kvs kds → ∃ us, BindsTo s fd ⟨vs, kvs⟩ ((xs.map nmOf).zip us) ∧ DenL s.heap V us ds') : BindOk W fd ds kds ((xs.zip ds').map fun p => (p.1, .v p.2)) := by
  intro s V vs₀ kvs hs _ dv₀ dk
  obtain ⟨vs, bt, dv⟩ := hb s V vs₀ kvs hs dv₀ dk
  have lv : vs.length = xs.length := (Paired.length dv).trans el
  refine ⟨_, bt, fun y hy => ?_, ?_⟩
  · obtain ⟨i, hi, e⟩ := List.mem_map.mp (List.of_mem_zip hy).1
    rw [← e]; exact (hx i hi).2
  clear hb bt dv₀
  have key : ∀ (xs : List Nat) (ds : List D) (vs : List Value), (∀ i ∈ xs, i < 128) → xs.Nodup → DenL s.heap V vs ds → ds.length = xs.length → ∀ i l, G.get ((xs.zip ds).map fun p => (p.1, L.v p.2)) i = some l →
      i ∈ xs ∧ ∃ d v, l = .v d ∧ (nmOf i, v) ∈ (xs.map nmOf).zip vs ∧ Den s.heap V v d := by
    intro xs
    induction xs with
    | nil => intro ds vs _ _ _ _ i l e; cases e
    | cons x xs ih =>
      intro ds vs hx nd dv el i l e
      cases dv with
      | nil => cases el
      | cons a dv =>
        rename_i v d vs ds
        simp only [List.zip_cons_cons, List.map_cons] at e ⊢
        unfold G.get at e
        cases h : Nat.beq i x with
        | true =>
          rw [h] at e; cases e
          have := Nat.eq_of_beq_eq_true h
          subst this
          exact ⟨List.mem_cons_self, d, v, rfl, List.mem_cons_self, a⟩
        | false =>
          rw [h] at e
          obtain ⟨q1, d', v', q2, q3, q4⟩ := ih ds vs (fun i hi => hx i (List.mem_cons_of_mem _ hi)) (List.nodup_cons.mp nd).2 dv (Nat.succ.inj el) i l e
          exact ⟨List.mem_cons_of_mem _ q1, d', v', q2, List.mem_cons_of_mem _ q3, q4⟩
  intro i l e
  obtain ⟨q1, d, v, q2, q3, q4⟩ := key xs ds' vs (fun i hi => (hx i hi).1) nd dv el i l e
  refine ⟨(hx i q1).1, (hx i q1).2, d, v, q2, ?_, q4⟩
  have ndk : (((xs.map nmOf).zip vs).map (·.1)).Nodup := by
    rw [List.map_fst_zip (by rw [List.length_map, lv]; exact Nat.le_refl _)]
    exact nodup_map (fun a b ha hb e => nm_inj a b (hx a ha).1 (hx b hb).1 e) nd
  exact lookup_mem (by rw [List.map_reverse]; exact List.pairwise_reverse.mpr (List.Pairwise.imp (fun h => Ne.symm h) ndk)) (List.mem_reverse.mpr q3)
theorem bindN (hn : W.nm = nmOf) {fd : FuncData} {xs : List Nat} {ds : List D} (hx : ∀ i ∈ xs, i < 128 ∧ fd.scope.names.lookup (nmOf i) = some .local) (nd : xs.Nodup) (el : ds.length = xs.length)
    (hb : ∀ vs : List Value, vs.length = xs.length → bindArgs fd ⟨vs, []⟩ = pure ((xs.map nmOf).zip vs)) : BindOk W fd ds [] ((xs.zip ds).map fun p => (p.1, .v p.2)) :=
  bindG hx nd el fun s V vs kvs _ dv dk => ⟨vs, by cases dk; exact .of_eq (hb vs ((Paired.length dv).trans el)), dv⟩
end
end Mine
namespace Mine
open PySem PySem.Calls PyProof.Rows PySem.W
noncomputable def sp_range (lo hi : Int) : Spec := fun ds kds Q X => ∃ n, ds = [.int n] ∧ kds = [] ∧ Q (.bool (decide (lo ≤ n) && decide (n ≤ hi)))
section
variable {W : Wd} (H : Bh W)
include H
theorem d_is_high : ∃ c m, DefOk W 73 (mkF (stAt 13) "is_high" "is_high" .none m (.ref c)) (stBody (stAt 13)) := ⟨72, _, H.def (by rfl) (by rfl) (by rfl) (by rfl) (by rfl) (by rfl)⟩
theorem c_is_high (r : Nat) : FnOk W (r + 1) "is_high" (sp_range 55296 56319) := by
  obtain ⟨c, m, D₀⟩ := d_is_high H
  refine ⟨by decide +kernel, 73, H.mg (by rfl), contract H.ok D₀ (show ∀ x ∈ (stScope (stAt 13)).names, x.2 ≠ NameKind.cell by decide +kernel) fun ds kds Q X h => ?_⟩
  obtain ⟨n, rfl, rfl, q⟩ := h
  refine ⟨_, bind1 (a := 1) H.nm (by decide) (by rfl) (fun v => by rfl), fun L Y frs O => ?_⟩
  refine WSs_cons O (WS_ret O ?_)
  refine WE_cmp2 O (by rfl) (WE_gi H O (by rfl) (by rfl) (by decide +kernel) ?_)
  refine WE_vd H O 1 (H.n 1) rfl ?_
  refine And.intro (fun h => ?_) fun h => ?_
  · refine WE_gi H O (by rfl) (by rfl) (by decide +kernel) ?_
    show Q (.bool (decide (n ≤ 56319)))
    rw [h] at q; exact q
  · show Q (.bool false)
    rw [h] at q; exact q
theorem d_utf16_joined : ∃ c m, DefOk W 115 (mkF (stAt 23) "utf16_joined" "utf16_joined" .none m (.ref c)) (stBody (stAt 23)) := ⟨114, _, H.def (by rfl) (by rfl) (by rfl) (by rfl) (by rfl) (by rfl)⟩
noncomputable def sp_joined : Spec := fun ds kds Q X => ∃ h l, ds = [.int h, .int l] ∧ kds = [] ∧ 55296 ≤ h ∧ h ≤ 56319 ∧ Q (.int (65536 + (h - 55296) * 1024 + (l - 56320)))
theorem c_utf16_joined (r : Nat) : FnOk W (r + 1) "utf16_joined" sp_joined := by
  obtain ⟨c, m, D₀⟩ := d_utf16_joined H
  refine ⟨by decide +kernel, 115, H.mg (by rfl), contract H.ok D₀ (show ∀ x ∈ (stScope (stAt 23)).names, x.2 ≠ NameKind.cell by decide +kernel) fun ds kds Q X h => ?_⟩
  obtain ⟨a, b, rfl, rfl, h1, h2, q⟩ := h
  refine ⟨_, bindN (xs := [5, 6]) H.nm (show ∀ i ∈ [5, 6], i < 128 ∧ (stScope (stAt 23)).names.lookup (nmOf i) = some .local by decide +kernel) (by decide) rfl (two fun x y => by rfl), fun L Y frs O => ?_⟩
  refine WSs_cons O (WS_ret O ?_)
  refine WE_bin O (WE_bin O (WE_gi H O (by rfl) (by rfl) (by decide +kernel) ?_))
  refine WE_bin O (WE_bin O (WE_vd H O 5 (H.n 5) rfl ?_))
  refine WE_gi H O (by rfl) (by rfl) (by decide +kernel) ?_
  refine WE_gi H O (by rfl) (by rfl) (by decide +kernel) ?_
  refine ⟨by decide, by decide, ?_, ?_⟩
  · show (a - 55296).natAbs < 2 ^ 64
    omega
  refine WE_bin O (WE_vd H O 6 (H.n 6) rfl ?_)
  refine WE_gi H O (by rfl) (by rfl) (by decide +kernel) ?_
  show Q (.int (65536 + (a - 55296) * 2 ^ (10 : Int).toNat + (b - 56320)))
  exact q
end
end Mine
end
section
-- P4
set_option linter.unusedVariables false
set_option maxRecDepth 100000
namespace Mine
open PySem PySem.Calls PyProof.Rows PySem.W
section
variable {W : Wd} (H : Bh W)
include H
/-- a def of the text, from its rows -/
theorem fnC {i fa c : Nat} {n : Str} {dfl m : Value} {vs : Array Value} {t : Tok} {sp : Spec} {r : Nat} (e : (myK W.w.params).lookup fa = some ⟨.type "function", none, .func (mkF (stAt i) n n dfl m (.ref c)), #[]⟩)
    (ec : (myK W.w.params).lookup c = some ⟨.type "code", none, .fields vs, #[]⟩) (ev : vs[1]? = some (.str n t)) (h1 : (stScope (stAt i)).kind = .function) (h2 : (stScope (stAt i)).isCoroutine = false) (h3 : (stScope (stAt i)).isGenerator = false)
    (hd : (n == ("__debug__" : Str)) = false) (hm : nsIn (myK W.w.params) mainGlobals n = some (some (.ref fa))) (hc : ∀ x ∈ (stScope (stAt i)).names, x.2 ≠ NameKind.cell)
    (h : ∀ ds kds Qd Xd, sp ds kds Qd Xd → ∃ g, BindOk W (mkF (stAt i) n n dfl m (.ref c)) ds kds g ∧ ∀ L Y frs, (dFx (mkF (stAt i) n n dfl m (.ref c)) fa L Y frs).Ok W →
      WS W (dFx (mkF (stAt i) n n dfl m (.ref c)) fa L Y frs) r g (execs (stBody (stAt i)) (callEnv (mkF (stAt i) n n dfl m (.ref c)) L fa)) (fun fl _ => Qd (flD fl)) (fun x _ => Xd x)) : FnOk W (r + 1) n sp :=
  ⟨hd, fa, H.mg hm, contract H.ok (H.def e ec ev h1 h2 h3) hc h⟩
theorem c_is_low (r : Nat) : FnOk W (r + 1) "is_low" (sp_range 56320 57343) := by
  refine fnC H (i := 14) (fa := 80) (c := 79) (by rfl) (by rfl) (by rfl) (by rfl) (by rfl) (by rfl) (by decide +kernel) (by rfl) (by decide +kernel) fun ds kds Q X h => ?_
  obtain ⟨n, rfl, rfl, q⟩ := h
  refine ⟨_, bind1 (a := 1) H.nm (by decide) (by rfl) (fun v => by rfl), fun L Y frs O => ?_⟩
  refine WSs_cons O (WS_ret O ?_)
  refine WE_cmp2 O (by rfl) (WE_gi H O (by rfl) (by rfl) (by decide +kernel) ?_)
  refine WE_vd H O 1 (H.n 1) rfl ?_
  refine And.intro (fun h => ?_) fun h => ?_
  · refine WE_gi H O (by rfl) (by rfl) (by decide +kernel) ?_
    show Q (.bool (decide (n ≤ 57343)))
    rw [h] at q; exact q
  · show Q (.bool false)
    rw [h] at q; exact q
theorem c_is_surrogate (r : Nat) : FnOk W (r + 1) "is_surrogate" (sp_range 55296 57343) := by
  refine fnC H (i := 15) (fa := 87) (c := 86) (by rfl) (by rfl) (by rfl) (by rfl) (by rfl) (by rfl) (by decide +kernel) (by rfl) (by decide +kernel) fun ds kds Q X h => ?_
  obtain ⟨n, rfl, rfl, q⟩ := h
  refine ⟨_, bind1 (a := 1) H.nm (by decide) (by rfl) (fun v => by rfl), fun L Y frs O => ?_⟩
  refine WSs_cons O (WS_ret O ?_)
  refine WE_cmp2 O (by rfl) (WE_gi H O (by rfl) (by rfl) (by decide +kernel) ?_)
  refine WE_vd H O 1 (H.n 1) rfl ?_
  refine And.intro (fun h => ?_) fun h => ?_
  · refine WE_gi H O (by rfl) (by rfl) (by decide +kernel) ?_
    show Q (.bool (decide (n ≤ 57343)))
    rw [h] at q; exact q
  · show Q (.bool false)
    rw [h] at q; exact q
end
/-- a scalar -/
noncomputable def scal (n : Int) : Bool := (decide (0 ≤ n) && decide (n ≤ 1114111)) && !(decide (55296 ≤ n) && decide (n ≤ 57343))
noncomputable def sp_pred (f : Int → Bool) : Spec := fun ds kds Q X => ∃ n, ds = [.int n] ∧ kds = [] ∧ Q (.bool (f n))
section
variable {W : Wd} (H : Bh W)
include H
theorem c_is_scalar (r : Nat) : FnOk W (r + 2) "is_scalar" (sp_pred scal) := by
  refine fnC H (i := 16) (fa := 94) (c := 93) (by rfl) (by rfl) (by rfl) (by rfl) (by rfl) (by rfl) (by decide +kernel) (by rfl) (by decide +kernel) fun ds kds Q X h => ?_
  obtain ⟨n, rfl, rfl, q⟩ := h
  refine ⟨_, bind1 (a := 0) H.nm (by decide) (by rfl) (fun v => by rfl), fun L Y frs O => ?_⟩
  refine WSs_cons O (WS_ret O ?_)
  refine WE_bo (u := true) (WBO_cons O ?_)
  refine WX_call H.ok O (by rfl) (by rfl) ⟨_, c_is_code H r, WEs_cons O (by rfl) (WE_vd H O 0 (H.n 0) rfl (WEs_nil ?_))⟩
  refine ⟨n, rfl, rfl, And.intro (fun h => ?_) fun h => ?_⟩
  · refine WBO_one (WE_not O (WX_call H.ok O (by rfl) (by rfl) ⟨_, c_is_surrogate H r, WEs_cons O (by rfl) (WE_vd H O 0 (H.n 0) rfl (WEs_nil ?_))⟩))
    refine ⟨n, rfl, rfl, ?_⟩
    show Q (.bool (!(decide (55296 ≤ n) && decide (n ≤ 57343))))
    unfold scal at q
    rw [h] at q; exact q
  · show Q (.bool false)
    unfold scal at q
    rw [h] at q; exact q
end
end Mine
end
section
-- P5
set_option linter.unusedVariables false
set_option maxRecDepth 100000
namespace Mine
open PySem PySem.Calls PyProof.Rows PySem.W
section
variable {W : Wd} (H : Bh W)
include H
theorem init_ok : InitOk W 29 := by
  refine ⟨mkF (clAt 9 0) "__init__" "UniError.__init__" (.ref 22) (.str "unicore.base" 187) (.ref 28), _, _, _, _, ⟨⟨_, H.K _ _ (show (myK W.w.params).lookup 29 = some _ from rfl), rfl⟩, ⟨28, _, _, _, rfl, H.K _ _ (show (myK W.w.params).lookup 28 = some _ from rfl), rfl, rfl⟩, rfl, rfl, rfl, rfl, rfl, rfl⟩, fun s v u hs => ?_, by rfl, by rfl, show ∀ x ∈ (stScope (clAt 9 0)).names, x.2 ≠ NameKind.cell by decide +kernel⟩
  exact BindsTo.of_defaults rfl (hs _ _ (H.K _ _ (show (myK W.w.params).lookup 22 = some _ from rfl))) rfl (by rfl) (by rfl)
theorem x_BadCode : XOk W "BadCode" 57 := by
  refine ⟨by decide +kernel, H.mg (by rfl), myK W.w.params, 29, _, _, H.K, ⟨⟨_, _, _, _, _, _, _, _, _, _, _, _, _, _, _, rfl⟩, by rfl, by rfl, by rfl, by rfl, by rfl, by rfl⟩, F.excBase_Exception, init_ok H⟩
theorem x_BadEncoding : XOk W "BadEncoding" 45 := by
  refine ⟨by decide +kernel, H.mg (by rfl), myK W.w.params, 29, _, _, H.K, ⟨⟨_, _, _, _, _, _, _, _, _, _, _, _, _, _, _, rfl⟩, by rfl, by rfl, by rfl, by rfl, by rfl, by rfl⟩, F.excBase_Exception, init_ok H⟩
end
end Mine
end
section
-- P6
set_option linter.unusedVariables false
set_option maxRecDepth 100000
namespace Mine
open PySem PySem.Calls PyProof.Rows PySem.W
theorem dFx_top {fd : FuncData} {fa L : Addr} {Y : AP} {frs : List Env} : (dFx fd fa L Y frs).Top := ⟨frs, L, rfl, rfl⟩
theorem sto {W : Wd} {F : Fx} (i : Nat) (hi : i < 128) (hl : F.env.kindOf (nmOf i) = some .local) : Sto W F i := ⟨hi, .inl hl⟩
theorem sto1 {W : Wd} {F : Fx} (i : Nat) (hi : i < 128) (hl : F.env.kindOf (nmOf i) = some .local) : ∀ j ∈ [i], Sto W F j := fun j h => by rw [List.mem_singleton.mp h]; exact sto i hi hl
/-- the first that is no scalar -/
noncomputable def bad (ns : List Int) : Option Int := ns.find? fun n => !scal n
noncomputable def sp_check : Spec := fun ds kds Q X => ∃ ns : List Int, ds = [.list (ns.map .int)] ∧ kds = [] ∧ match bad ns with | none => Q .none | some n => X ⟨"BadCode", .int n⟩
section
variable {W : Wd} (H : Bh W)
include H
theorem c_check (r : Nat) : FnOk W (r + 4) "check_scalars" sp_check := by
  refine fnC H (i := 17) (fa := 101) (c := 100) (by rfl) (by rfl) (by rfl) (by rfl) (by rfl) (by rfl) (by decide +kernel) (by rfl) (by decide +kernel) fun ds kds Q X h => ?_
  obtain ⟨ns, rfl, rfl, q⟩ := h
  refine ⟨_, bind1 (a := 2) H.nm (by decide) (by rfl) (fun v => by rfl), fun L Y frs O => ?_⟩
  refine WSs_cons O (WS_for H.ok O dFx_top (Tgt.one (i := 1)) (sto1 1 (by decide) (by rfl)) (fun _ => rfl) (WIt_seq (i := 1) O (WE_vd H O 2 (H.n 2) rfl ?_)))
  refine ⟨fun rest g => g = [] ∧ ∃ ms, rest = ms.map .int ∧ bad ms = bad ns, ⟨[], trivial, rfl, ns, rfl, rfl⟩, fun d rest g ⟨hg, ms, e, b⟩ => ?_, fun g ⟨hg, ms, e, b⟩ => ?_⟩
  · subst hg
    cases ms with
    | nil => cases e
    | cons m ms =>
      cases e
      refine ⟨_, rfl, rfl, WSs_cons O (WS_ite O (WT_not O (WT_val O (WX_call H.ok O (by rfl) (by rfl) ⟨_, c_is_scalar H (r + 1), WEs_cons O (by rfl) (WE_vd H O 1 (H.n 1) rfl (WEs_nil ?_))⟩) (by rfl))))⟩
      refine ⟨m, rfl, rfl, And.intro (fun h => ?_) fun h => ?_⟩
      · refine WSs_cons O (WS_rais H.ok O (by rfl) (by rfl) (by omega) (x_BadCode H) (WE_vd H O 1 (H.n 1) rfl ?_))
        show X ⟨"BadCode", .int m⟩
        have : bad ns = some m := by rw [← b]; unfold bad; rw [List.find?_cons, h]
        rw [this] at q; exact q
      · refine WSs_nil (WSs_nil ?_)
        refine ⟨[], trivial, rfl, ms, rfl, ?_⟩
        rw [← b]; unfold bad; rw [List.find?_cons, h]
  · cases ms with
    | cons _ _ => cases e
    | nil =>
      refine WSs_nil ?_
      have : bad ns = none := by rw [← b]; rfl
      rw [this] at q; exact q
end
end Mine
end
section
-- P7
set_option linter.unusedVariables false
set_option maxRecDepth 100000
namespace Mine
open PySem PySem.Calls PyProof.Rows PySem.W
/-- two octets of a unit -/
noncomputable def oct16 (u : Int) (be : Bool) : List Int := bif be then [u.fdiv (2 ^ (8 : Int).toNat), Builtin.bitAnd u 255] else [Builtin.bitAnd u 255, u.fdiv (2 ^ (8 : Int).toNat)]
noncomputable def sp_octets : Spec := fun ds kds Q X => ∃ u o, ds = [.int u, .str o] ∧ kds = [] ∧ Q (.list ((oct16 u (o == "be")).map .int))
/-- the unit at a place -/
noncomputable def at8 (l : List UInt8) (i : Int) : Int := ((l.getD i.toNat 0).toNat : Int)
noncomputable def unit16 (l : List UInt8) (a : Int) (be : Bool) : Int := bif be then Builtin.bitOr (at8 l a * 2 ^ (8 : Int).toNat) (at8 l (a + 1)) else Builtin.bitOr (at8 l (a + 1) * 2 ^ (8 : Int).toNat) (at8 l a)
noncomputable def sp_unit : Spec := fun ds kds Q X => ∃ l a o, ds = [.bytes l, .int a, .str o] ∧ kds = [] ∧ 0 ≤ a ∧ a + 1 < l.length ∧ l.length ≤ 4096 ∧ Q (.int (unit16 l a (o == "be")))
theorem at8_lt (l : List UInt8) (i : Int) : (at8 l i).natAbs < 2 ^ 64 := by
  unfold at8
  have := (l.getD i.toNat 0).toNat_lt
  omega
section
variable {W : Wd} (H : Bh W)
include H
theorem c_utf16_octets (r : Nat) : FnOk W (r + 1) "utf16_octets" sp_octets := by
  refine fnC H (i := 26) (fa := 136) (c := 135) (by rfl) (by rfl) (by rfl) (by rfl) (by rfl) (by rfl) (by decide +kernel) (by rfl) (by decide +kernel) fun ds kds Q X h => ?_
  obtain ⟨u, o, rfl, rfl, q⟩ := h
  refine ⟨_, bindN (xs := [10, 11]) H.nm (show ∀ i ∈ [10, 11], i < 128 ∧ (stScope (stAt 26)).names.lookup (nmOf i) = some .local by decide +kernel) (by decide) rfl (two fun x y => by rfl), fun L Y frs O => ?_⟩
  refine WSs_cons O (WS_ret O (WE_ife O (WT_cmp O (by rfl) (WE_vd H O 11 (H.n 11) rfl (WE_gs H O (by rfl) (by rfl) (by decide +kernel) ?_)))))
  refine And.intro (fun h => ?_) fun h => ?_ <;> (rw [h] at q)
  · refine WE_lst O (by rfl) (WEs_cons O (by rfl) (WE_bin O (WE_vd H O 10 (H.n 10) rfl (WE_i ⟨by decide, ?_⟩))))
    exact WEs_cons O (by rfl) (WE_bin O (WE_vd H O 10 (H.n 10) rfl (WE_i (WEs_nil q))))
  · refine WE_lst O (by rfl) (WEs_cons O (by rfl) (WE_bin O (WE_vd H O 10 (H.n 10) rfl (WE_i ?_))))
    exact WEs_cons O (by rfl) (WE_bin O (WE_vd H O 10 (H.n 10) rfl (WE_i ⟨by decide, WEs_nil q⟩)))
theorem c_utf16_unit (r : Nat) : FnOk W (r + 1) "utf16_unit" sp_unit := by
  refine fnC H (i := 27) (fa := 143) (c := 142) (by rfl) (by rfl) (by rfl) (by rfl) (by rfl) (by rfl) (by decide +kernel) (by rfl) (by decide +kernel) fun ds kds Q X h => ?_
  obtain ⟨l, a, o, rfl, rfl, h0, h1, h2, q⟩ := h
  refine ⟨_, bindN (xs := [12, 13, 11]) H.nm (show ∀ i ∈ [12, 13, 11], i < 128 ∧ (stScope (stAt 27)).names.lookup (nmOf i) = some .local by decide +kernel) (by decide) rfl (three fun x y z => by rfl), fun L Y frs O => ?_⟩
  refine WSs_cons O (WS_ret O (WE_ife O (WT_cmp O (by rfl) (WE_vd H O 11 (H.n 11) rfl (WE_gs H O (by rfl) (by rfl) (by decide +kernel) ?_)))))
  refine And.intro (fun h => ?_) fun h => ?_ <;> (rw [h] at q)
  · refine WE_bin O (WE_bin O (WE_idx O (WE_vd H O 12 (H.n 12) rfl (WE_vd H O 13 (H.n 13) rfl ⟨h0, by omega, h2, ?_⟩))))
    refine WE_i ⟨by decide, by decide, at8_lt l a, ?_⟩
    exact WE_idx O (WE_vd H O 12 (H.n 12) rfl (WE_bin O (WE_vd H O 13 (H.n 13) rfl (WE_i ⟨by omega, by omega, h2, q⟩))))
  · refine WE_bin O (WE_bin O (WE_idx O (WE_vd H O 12 (H.n 12) rfl (WE_bin O (WE_vd H O 13 (H.n 13) rfl (WE_i ⟨by omega, by omega, h2, ?_⟩))))))
    refine WE_i ⟨by decide, by decide, at8_lt l (a + 1), ?_⟩
    exact WE_idx O (WE_vd H O 12 (H.n 12) rfl (WE_vd H O 13 (H.n 13) rfl ⟨h0, by omega, h2, q⟩))
end
end Mine
end
section
-- P8
set_option linter.unusedVariables false
set_option maxRecDepth 100000
namespace Mine
open PySem PySem.Calls PyProof.Rows PySem.W
/-- the order told, and where the text starts -/
noncomputable def start16 (l : List UInt8) (o : D) : Str × Int := match o with
  | .str s => (s, 0)
  | _ => bif cut l none (some 2) == [255, 254] then ("le", 2) else ("be", bif cut l none (some 2) == [254, 255] then 2 else 0)
noncomputable def isOrd (o : D) : Prop := o = .none ∨ ∃ s, o = .str s
noncomputable def sp_start16 : Spec := fun ds kds Q X => ∃ l o, ds = [.bytes l, o] ∧ kds = [] ∧ isOrd o ∧ l.length ≤ 4096 ∧ Q (.tuple [.str (start16 l o).1, .int (start16 l o).2])
section
variable {W : Wd} (H : Bh W)
include H
theorem c_utf16_start (r : Nat) : FnOk W (r + 1) "utf16_start" sp_start16 := by
  refine fnC H (i := 30) (fa := 165) (c := 164) (by rfl) (by rfl) (by rfl) (by rfl) (by rfl) (by rfl) (by decide +kernel) (by rfl) (by decide +kernel) fun ds kds Q X h => ?_
  obtain ⟨l, o, rfl, rfl, ho, hl, q⟩ := h
  refine ⟨_, bindN (xs := [12, 11]) H.nm (show ∀ i ∈ [12, 11], i < 128 ∧ (stScope (stAt 30)).names.lookup (nmOf i) = some .local by decide +kernel) (by decide) rfl (two fun x y => by rfl), fun L Y frs O => ?_⟩
  refine WSs_cons O (WS_ite O (WT_cmp O (by rfl) (WE_vd H O 11 (H.n 11) rfl (WE_n ⟨rfl, ?_⟩))))
  rcases ho with rfl | ⟨s, rfl⟩
  · refine And.intro (fun h => by cases h) fun _ => WSs_nil ?_
    refine WSs_cons O (WS_ite O (WT_cmp O (by rfl) (WE_slT O (WE_vd H O 12 (H.n 12) rfl (WE_i ⟨rfl, rfl, hl, WE_by ?_⟩)))))
    refine And.intro (fun h => ?_) fun h => WSs_nil ?_
    · refine WSs_cons O (WS_ret O (WE_tup O (by rfl) (WEs_cons O (by rfl) (WE_s (WEs_cons O (by rfl) (WE_i (WEs_nil ?_)))))))
      unfold start16 at q
      dsimp only at q
      rw [show (cut l none (some 2) == [255, 254]) = true from h] at q
      exact q
    · refine WSs_cons O (WS_ret O (WE_tup O (by rfl) (WEs_cons O (by rfl) (WE_gs H O (by rfl) (by rfl) (by decide +kernel) (WEs_cons O (by rfl) (WE_ife O (WT_cmp O (by rfl) (WE_slT O (WE_vd H O 12 (H.n 12) rfl (WE_i ⟨rfl, rfl, hl, WE_by ?_⟩))))))))))
      unfold start16 at q
      dsimp only at q
      rw [show (cut l none (some 2) == [255, 254]) = false from h] at q
      refine And.intro (fun h' => WE_i (WEs_nil ?_)) fun h' => WE_i (WEs_nil ?_)
      · rw [show (cut l none (some 2) == [254, 255]) = true from h'] at q; exact q
      · rw [show (cut l none (some 2) == [254, 255]) = false from h'] at q; exact q
  · refine And.intro (fun _ => ?_) fun h => by cases h
    exact WSs_cons O (WS_ret O (WE_tup O (by rfl) (WEs_cons O (by rfl) (WE_vd H O 11 (H.n 11) rfl (WEs_cons O (by rfl) (WE_i (WEs_nil q)))))))
end
end Mine
end
section
-- P9
set_option linter.unusedVariables false
set_option maxRecDepth 100000
namespace Mine
open PySem PySem.Calls PyProof.Rows PySem.W
noncomputable def isLow (u : Int) : Bool := decide (56320 ≤ u) && decide (u ≤ 57343)
noncomputable def isHigh (u : Int) : Bool := decide (55296 ≤ u) && decide (u ≤ 56319)
noncomputable def joined (u b : Int) : Int := 65536 + (u - 55296) * 1024 + (b - 56320)
noncomputable def step16 (l : List UInt8) (a : Int) (be : Bool) : D × Int × Str :=
  bif decide ((l.length : Int) < a + 2) then (.none, l.length, "odd end") else
  bif isLow (unit16 l a be) then (.none, a + 2, "low") else
  bif !isHigh (unit16 l a be) then (.int (unit16 l a be), a + 2, "") else
  bif decide (a + 4 ≤ l.length) then (bif isLow (unit16 l (a + 2) be) then (.int (joined (unit16 l a be) (unit16 l (a + 2) be)), a + 4, "") else (.none, a + 2, "high")) else (.none, a + 2, "high")
noncomputable abbrev tri (x : D × Int × Str) : D := .tuple [x.1, .int x.2.1, .str x.2.2]
noncomputable def sp_step (f : List UInt8 → Int → Bool → D × Int × Str) : Spec := fun ds kds Q X => ∃ l a o, ds = [.bytes l, .int a, .str o] ∧ kds = [] ∧ 0 ≤ a ∧ l.length ≤ 4096 ∧ Q (tri (f l a (o == "be")))
section
variable {W : Wd} (H : Bh W)
include H
theorem c_utf16_step (r : Nat) : FnOk W (r + 2) "utf16_step" (sp_step step16) := by
  refine fnC H (i := 29) (fa := 158) (c := 157) (by rfl) (by rfl) (by rfl) (by rfl) (by rfl) (by rfl) (by decide +kernel) (by rfl) (by decide +kernel) fun ds kds Q X h => ?_
  obtain ⟨l, a, o, rfl, rfl, h0, hl, q⟩ := h
  refine ⟨_, bindN (xs := [12, 13, 11]) H.nm (show ∀ i ∈ [12, 13, 11], i < 128 ∧ (stScope (stAt 29)).names.lookup (nmOf i) = some .local by decide +kernel) (by decide) rfl (three fun x y z => by rfl), fun L Y frs O => ?_⟩
  refine WSs_cons O (WS_ite O (WT_cmp O (by rfl) (WE_bin O (WE_vd H O 13 (H.n 13) rfl (WE_i (WE_bi H.ok O (f := 0) (by rfl) (by rfl) (WE_vd H O 12 (H.n 12) rfl ⟨hl, ?_⟩)))))))
  unfold step16 at q
  refine And.intro (fun h => ?_) fun h => WSs_nil ?_ <;> (replace h : decide ((l.length : Int) < a + 2) = _ := h; rw [h] at q)
  · refine WSs_cons O (WS_ret O (WE_tup O (by rfl) (WEs_cons O (by rfl) (WE_n (WEs_cons O (by rfl) (WE_bi H.ok O (f := 0) (by rfl) (by rfl) (WE_vd H O 12 (H.n 12) rfl ⟨hl, WEs_cons O (by rfl) (WE_s (WEs_nil q))⟩)))))))
  · have h2 : a + 1 < l.length := by have := of_decide_eq_false h; omega
    refine WSs_cons O (WS_asg H.ok O (i := 10) (sto 10 (by decide) (by rfl)) (by rfl) (WX_call H.ok O (by rfl) (by rfl) ⟨_, c_utf16_unit H r, WEs_cons O (by rfl) (WE_vd H O 12 (H.n 12) rfl (WEs_cons O (by rfl) (WE_vd H O 13 (H.n 13) rfl (WEs_cons O (by rfl) (WE_vd H O 11 (H.n 11) rfl (WEs_nil ⟨l, a, o, rfl, rfl, h0, h2, hl, ?_⟩))))))⟩))
    refine WSs_cons O (WS_ite O (WT_val O (WX_call H.ok O (by rfl) (by rfl) ⟨_, c_is_low H r, WEs_cons O (by rfl) (WE_vd H O 10 (H.n 10) rfl (WEs_nil ⟨_, rfl, rfl, ?_⟩))⟩) (by rfl)))
    refine And.intro (fun h => ?_) fun h => WSs_nil ?_ <;> (replace h : isLow (unit16 l a (o == "be")) = _ := h; rw [h] at q)
    · exact WSs_cons O (WS_ret O (WE_tup O (by rfl) (WEs_cons O (by rfl) (WE_n (WEs_cons O (by rfl) (WE_bin O (WE_vd H O 13 (H.n 13) rfl (WE_i (WEs_cons O (by rfl) (WE_s (WEs_nil q)))))))))))
    refine WSs_cons O (WS_ite O (WT_not O (WT_val O (WX_call H.ok O (by rfl) (by rfl) ⟨_, c_is_high H r, WEs_cons O (by rfl) (WE_vd H O 10 (H.n 10) rfl (WEs_nil ⟨_, rfl, rfl, ?_⟩))⟩) (by rfl))))
    refine And.intro (fun h => ?_) fun h => WSs_nil ?_ <;> (replace h : (!isHigh (unit16 l a (o == "be"))) = _ := h; rw [h] at q)
    · exact WSs_cons O (WS_ret O (WE_tup O (by rfl) (WEs_cons O (by rfl) (WE_vd H O 10 (H.n 10) rfl (WEs_cons O (by rfl) (WE_bin O (WE_vd H O 13 (H.n 13) rfl (WE_i (WEs_cons O (by rfl) (WE_s (WEs_nil q)))))))))))
    refine WSs_cons O (WS_ite O (WT_cmp O (by rfl) (WE_bin O (WE_vd H O 13 (H.n 13) rfl (WE_i (WE_bi H.ok O (f := 0) (by rfl) (by rfl) (WE_vd H O 12 (H.n 12) rfl ⟨hl, ?_⟩)))))))
    have hh : isHigh (unit16 l a (o == "be")) = true := by simpa using h
    unfold isHigh at hh
    simp only [Bool.and_eq_true, decide_eq_true_eq] at hh
    refine And.intro (fun h => ?_) fun h => WSs_nil ?_ <;> (replace h : decide (a + 4 ≤ l.length) = _ := h; rw [h] at q)
    · have h4 := of_decide_eq_true h
      refine WSs_cons O (WS_asg H.ok O (i := 15) (sto 15 (by decide) (by rfl)) (by rfl) (WX_call H.ok O (by rfl) (by rfl) ⟨_, c_utf16_unit H r, WEs_cons O (by rfl) (WE_vd H O 12 (H.n 12) rfl (WEs_cons O (by rfl) (WE_bin O (WE_vd H O 13 (H.n 13) rfl (WE_i (WEs_cons O (by rfl) (WE_vd H O 11 (H.n 11) rfl (WEs_nil ⟨l, a + 2, o, rfl, rfl, by omega, by omega, hl, ?_⟩))))))))⟩))
      refine WSs_cons O (WS_ite O (WT_val O (WX_call H.ok O (by rfl) (by rfl) ⟨_, c_is_low H r, WEs_cons O (by rfl) (WE_vd H O 15 (H.n 15) rfl (WEs_nil ⟨_, rfl, rfl, ?_⟩))⟩) (by rfl)))
      refine And.intro (fun h => ?_) fun h => WSs_nil (WSs_nil ?_) <;> (replace h : isLow (unit16 l (a + 2) (o == "be")) = _ := h; rw [h] at q)
      · exact WSs_cons O (WS_ret O (WE_tup O (by rfl) (WEs_cons O (by rfl) (WX_call H.ok O (by rfl) (by rfl) ⟨_, c_utf16_joined H r, WEs_cons O (by rfl) (WE_vd H O 10 (H.n 10) rfl (WEs_cons O (by rfl) (WE_vd H O 15 (H.n 15) rfl (WEs_nil ⟨_, _, rfl, rfl, hh.1, hh.2,
          WEs_cons O (by rfl) (WE_bin O (WE_vd H O 13 (H.n 13) rfl (WE_i (WEs_cons O (by rfl) (WE_s (WEs_nil q))))))⟩))))⟩))))
      · exact WSs_cons O (WS_ret O (WE_tup O (by rfl) (WEs_cons O (by rfl) (WE_n (WEs_cons O (by rfl) (WE_bin O (WE_vd H O 13 (H.n 13) rfl (WE_i (WEs_cons O (by rfl) (WE_s (WEs_nil q)))))))))))
    · exact WSs_cons O (WS_ret O (WE_tup O (by rfl) (WEs_cons O (by rfl) (WE_n (WEs_cons O (by rfl) (WE_bin O (WE_vd H O 13 (H.n 13) rfl (WE_i (WEs_cons O (by rfl) (WE_s (WEs_nil q)))))))))))
end
end Mine
end
section
-- P10
set_option linter.unusedVariables false
set_option maxRecDepth 100000
namespace Mine
open PySem PySem.Calls PyProof.Rows PySem.W
/-- what the loop of a decoder gathers from a place on -/
noncomputable def orRep (d : D) : D := match d with | .none => .int 65533 | d => d
noncomputable def decR (f : List UInt8 → Int → Bool → D × Int × Str) (l : List UInt8) (be : Bool) : Nat → Int → List D
  | 0, _ => []
  | n + 1, a => bif decide (a < l.length) then orRep (f l a be).1 :: decR f l be n (f l a be).2.1 else []
theorem decR_end (f : List UInt8 → Int → Bool → D × Int × Str) (l : List UInt8) (be : Bool) {a : Int} (h : ¬ a < l.length) : ∀ n, decR f l be n a = []
  | 0 => rfl
  | n + 1 => by unfold decR; rw [decide_eq_false h]; rfl
theorem decR_len (f : List UInt8 → Int → Bool → D × Int × Str) (l : List UInt8) (be : Bool) : ∀ n a, (decR f l be n a).length ≤ n
  | 0, _ => Nat.le_refl _
  | n + 1, a => by
    unfold decR
    cases decide (a < l.length) with
    | true => exact Nat.succ_le_succ (decR_len f l be n _)
    | false => exact Nat.zero_le _
/-- a step goes on, and stays within -/
noncomputable def Goes (f : List UInt8 → Int → Bool → D × Int × Str) : Prop := ∀ l a be, 0 ≤ a → a < l.length → a < (f l a be).2.1 ∧ ((f l a be).1 = .none ∨ ∃ n, (f l a be).1 = .int n)
theorem goes16 : Goes step16 := fun l a be h0 h1 => by
  unfold step16
  cases decide ((l.length : Int) < a + 2) with
  | true => exact ⟨h1, .inl rfl⟩
  | false =>
    cases isLow (unit16 l a be) with
    | true => exact ⟨show a < a + 2 by omega, .inl rfl⟩
    | false =>
      cases !isHigh (unit16 l a be) with
      | true => exact ⟨show a < a + 2 by omega, .inr ⟨_, rfl⟩⟩
      | false =>
        cases decide (a + 4 ≤ l.length) with
        | true =>
          cases isLow (unit16 l (a + 2) be) with
          | true => exact ⟨show a < a + 4 by omega, .inr ⟨_, rfl⟩⟩
          | false => exact ⟨show a < a + 2 by omega, .inl rfl⟩
        | false => exact ⟨show a < a + 2 by omega, .inl rfl⟩
noncomputable def decAll (st : List UInt8 → D → Str × Int) (f : List UInt8 → Int → Bool → D × Int × Str) (l : List UInt8) (o : D) : List D := decR f l ((st l o).1 == "be") l.length (st l o).2
noncomputable def sp_decR (st : List UInt8 → D → Str × Int) (f : List UInt8 → Int → Bool → D × Int × Str) : Spec := fun ds kds Q X => ∃ l o, ds = [.bytes l, o] ∧ kds = [] ∧ isOrd o ∧ l.length ≤ 4096 ∧ Q (.list (decAll st f l o))
theorem start16_ge (l : List UInt8) (o : D) : 0 ≤ (start16 l o).2 := by
  unfold start16
  split
  · exact Int.le_refl 0
  · cases cut l none (some 2) == [255, 254] with
    | true => exact (show (0 : Int) ≤ 2 by decide)
    | false => cases cut l none (some 2) == [254, 255] with
      | true => exact (show (0 : Int) ≤ 2 by decide)
      | false => exact (show (0 : Int) ≤ 0 by decide)
section
variable {W : Wd} (H : Bh W)
include H
theorem c_decode_utf16_replaced (r : Nat) : FnOk W (r + 3) "decode_utf16_replaced" (sp_decR start16 step16) := by
  refine fnC H (i := 32) (fa := 181) (c := 180) (by rfl) (by rfl) (by rfl) (by rfl) (by rfl) (by rfl) (by decide +kernel) (by rfl) (by decide +kernel) fun ds kds Q X h => ?_
  obtain ⟨l, o, rfl, rfl, ho, hl, q⟩ := h
  refine ⟨_, bindG (xs := [12, 11]) (ds' := [.bytes l, o]) (show ∀ i ∈ [12, 11], i < 128 ∧ (stScope (stAt 32)).names.lookup (nmOf i) = some .local by decide +kernel) (by decide) rfl (fun s V vs kvs hs dv dk => ⟨vs, ?_, dv⟩), fun L Y frs O => ?_⟩
  · cases dk
    obtain ⟨x, y, rfl, _⟩ := den2 dv
    exact BindsTo.of_defaults rfl (hs _ _ (H.K _ _ (show (myK W.w.params).lookup 174 = some _ from rfl))) rfl (by rfl) (by rfl)
  refine WSs_cons O (WS_asgT (xs := [11, 13]) H.ok O (.cons (i := 11) (.cons (i := 13) .nil)) (fun i hi => ?_) (by rfl) (by rfl) (WX_call H.ok O (by rfl) (by rfl) ⟨_, c_utf16_start H (r + 1), WEs_cons O (by rfl) (WE_vd H O 12 (H.n 12) rfl (WEs_cons O (by rfl) (WE_vd H O 11 (H.n 11) rfl (WEs_nil ⟨l, o, rfl, rfl, ho, hl, rfl, ?_⟩))))⟩))
  · rcases List.mem_cons.mp hi with rfl | hi
    · exact sto 11 (by decide) (by rfl)
    · rw [List.mem_singleton.mp hi]; exact sto 13 (by decide) (by rfl)
  refine WSs_cons O (WS_asgL H.ok O (i := 3) (sto 3 (by decide) (by rfl)) (by rfl) (WEs_nil ?_))
  have hs0 := start16_ge l o
  generalize hbe : ((start16 l o).1 == ("be" : Str)) = be
  have q' : Q (.list (decR step16 l be l.length (start16 l o).2)) := by rw [← hbe]; exact q
  generalize ha : (start16 l o).2 = a₀ at q' hs0
  refine WSs_cons O (WS_whl O dFx_top ⟨fun m g => ∃ a fs, g = [(12, .v (.bytes l)), (11, .v (.str (start16 l o).1)), (13, .v (.int a)), (3, .o fs)] ∧ 0 ≤ a ∧ (l.length : Int) - a ≤ m ∧ fs.length + m ≤ l.length ∧ fs ++ decR step16 l be m a = decR step16 l be l.length a₀, ⟨l.length, _, ?_, a₀, [], rfl, hs0, by omega, by simp, rfl⟩, fun m g hi => ?_⟩)
  · rw [← ha]; exact ⟨rfl, rfl, rfl, rfl, trivial⟩
  obtain ⟨a, fs, rfl, h0, hm, hf, he⟩ := hi
  refine WT_cmp O (by rfl) (WE_vd H O 13 (H.n 13) rfl (WE_bi H.ok O (f := 0) (by rfl) (by rfl) (WE_vd H O 12 (H.n 12) rfl ⟨hl, ?_⟩)))
  refine And.intro (fun h => ?_) fun h => ?_
  · have h1 := of_decide_eq_true h
    obtain ⟨g1, g2⟩ := goes16 l a be h0 h1
    cases m with
    | zero => omega
    | succ m =>
      refine WSs_cons O (WS_asgT (xs := [1, 13, 16]) H.ok O (.cons (i := 1) (.cons (i := 13) (.cons (i := 16) .nil))) (fun i hi => ?_) (by rfl) (by rfl) (WX_call H.ok O (by rfl) (by rfl) ⟨_, c_utf16_step H r, WEs_cons O (by rfl) (WE_vd H O 12 (H.n 12) rfl (WEs_cons O (by rfl) (WE_vd H O 13 (H.n 13) rfl (WEs_cons O (by rfl) (WE_vd H O 11 (H.n 11) rfl (WEs_nil ⟨l, a, _, rfl, rfl, h0, hl, rfl, ?_⟩))))))⟩))
      · rcases List.mem_cons.mp hi with rfl | hi
        · exact sto 1 (by decide) (by rfl)
        · rcases List.mem_cons.mp hi with rfl | hi
          · exact sto 13 (by decide) (by rfl)
          · rw [List.mem_singleton.mp hi]; exact sto 16 (by decide) (by rfl)
      rw [hbe]
      have he' : (fs ++ [orRep (step16 l a be).1]) ++ decR step16 l be m (step16 l a be).2.1 = decR step16 l be l.length a₀ := by
        rw [← he, List.append_assoc]
        congr 1
        conv => rhs; unfold decR
        rw [h]; rfl
      refine WSs_cons O (WS_app H.ok O (i := 3) (by rfl) (by rfl) (show isOw (some (.o fs)) _ from ?_))
      refine WE_ife O (WT_cmp O (by rfl) (WE_vd H O 1 (H.n 1) rfl (WE_n ⟨rfl, ?_⟩)))
      have fin : ∀ d, d = orRep (step16 l a be).1 → (fs.length ≤ 4096 ∧ ∃ g₁, Sub g₁ (G.set (G.set (G.set (G.set [(12, .v (.bytes l)), (11, .v (.str (start16 l o).1)), (13, .v (.int a)), (3, .o fs)] 1 (.v (step16 l a be).1)) 13 (.v (.int (step16 l a be).2.1))) 16 (.v (.str (step16 l a be).2.2))) 3 (.o (fs ++ [d]))) ∧ ∃ m', m' < m + 1 ∧ ∃ a' fs', g₁ = [(12, .v (.bytes l)), (11, .v (.str (start16 l o).1)), (13, .v (.int a')), (3, .o fs')] ∧ 0 ≤ a' ∧ (l.length : Int) - a' ≤ m' ∧ fs'.length + m' ≤ l.length ∧ fs' ++ decR step16 l be m' a' = decR step16 l be l.length a₀) := fun d hd => by
        subst hd
        refine ⟨by omega, [(12, .v (.bytes l)), (11, .v (.str (start16 l o).1)), (13, .v (.int (step16 l a be).2.1)), (3, .o (fs ++ [orRep (step16 l a be).1]))], ⟨rfl, rfl, rfl, rfl, trivial⟩, m, Nat.lt_succ_self _, _, _, rfl, by omega, by omega, by rw [List.length_append]; show fs.length + 1 + m ≤ _; omega, he'⟩
      refine And.intro (fun hn => WE_gi H O (by rfl) (by rfl) (by decide +kernel) ?_) fun hn => WE_vd H O 1 (H.n 1) rfl ?_
      · obtain ⟨z, g₁, s₁, r₁⟩ := fin (.int 65533) (by
          have : isN (step16 l a be).1 = true := hn
          rcases g2 with g2 | ⟨n, g2⟩ <;> rw [g2] at this ⊢
          · rfl
          · cases this)
        exact ⟨z, WSs_nil ⟨g₁, s₁, r₁⟩⟩
      · obtain ⟨z, g₁, s₁, r₁⟩ := fin (step16 l a be).1 (by
          have : isN (step16 l a be).1 = false := hn
          rcases g2 with g2 | ⟨n, g2⟩ <;> rw [g2] at this ⊢
          · cases this
          · rfl)
        exact ⟨z, WSs_nil ⟨g₁, s₁, r₁⟩⟩
  · refine WSs_cons O (WS_ret O (WE_vd H O 3 (H.n 3) rfl ?_))
    have := decR_end step16 l be (of_decide_eq_false h) m
    rw [this, List.append_nil] at he
    rw [he]; exact q'
end
end Mine
end
section
-- P11
set_option linter.unusedVariables false
set_option maxRecDepth 100000
namespace Mine
open PySem PySem.Calls PyProof.Rows PySem.W
theorem WS.cut {W : Wd} {F : Fx} {r : Nat} {g : G} {t : Sem Flow} {Q Q' : Fl → G → Prop} {X : Exc → G → Prop} (h : WS W F r g t Q' X) (k : ∀ fl g', Q' fl g' → Q fl g') : WS W F r g t Q X :=
  fun A s own Qs Es hA S hQ hE => h A s own Qs Es hA S (fun f s' own' fl g' st S' fa q => hQ f s' own' fl g' st S' fa (k fl g' q)) hE
noncomputable def bi (b : UInt8) : Int := (b.toNat : Int)
/-- the number of four octets -/
noncomputable def num4 (b0 b1 b2 b3 : UInt8) : Int := Builtin.bitOr (Builtin.bitOr (Builtin.bitOr (bi b0 * 2 ^ (24 : Int).toNat) (bi b1 * 2 ^ (16 : Int).toNat)) (bi b2 * 2 ^ (8 : Int).toNat)) (bi b3)
theorem num4_eq (a b c d : UInt8) : num4 a b c d = Builtin.bitOr (Builtin.bitOr (Builtin.bitOr (bi a * 2 ^ (24 : Int).toNat) (bi b * 2 ^ (16 : Int).toNat)) (bi c * 2 ^ (8 : Int).toNat)) (bi d) := by unfold num4; rfl
theorem pOr {a b n : Int} {Q : D → Prop} (e : n = Builtin.bitOr a b) (h : Q (.int n)) : pBin .BitOr (.int a) (.int b) Q := by subst e; exact h
noncomputable def out32 (c a : Int) : D × Int × Str := bif scal c then (.int c, a + 4, "") else (.none, a + 4, bif decide (55296 ≤ c) && decide (c ≤ 57343) then "surrogate" else "beyond")
noncomputable def step32 (l : List UInt8) (a : Int) (be : Bool) : D × Int × Str := match cut l (some a) (some (a + 4)) with
  | [b0, b1, b2, b3] => bif be then out32 (num4 b0 b1 b2 b3) a else out32 (num4 b3 b2 b1 b0) a
  | _ => (.none, l.length, "odd end")
theorem cut_len (l : List UInt8) (a : Int) (h : 0 ≤ a) : (cut l (some a) (some (a + 4))).length ≤ 4 := by
  unfold cut
  rw [List.length_drop, List.length_take]
  show min (a + 4).toNat l.length - a.toNat ≤ 4
  omega
theorem bi_lt (b : UInt8) : (bi b).natAbs < 2 ^ 64 := by unfold bi; have := b.toNat_lt; omega
section
variable {W : Wd} (H : Bh W)
include H
theorem c_utf32_step (r : Nat) : FnOk W (r + 3) "utf32_step" (sp_step step32) := by
  refine fnC H (i := 34) (fa := 196) (c := 195) (by rfl) (by rfl) (by rfl) (by rfl) (by rfl) (by rfl) (by decide +kernel) (by rfl) (by decide +kernel) fun ds kds Q X h => ?_
  obtain ⟨l, a, o, rfl, rfl, h0, hl, q⟩ := h
  refine ⟨_, bindN (xs := [12, 13, 11]) H.nm (show ∀ i ∈ [12, 13, 11], i < 128 ∧ (stScope (stAt 34)).names.lookup (nmOf i) = some .local by decide +kernel) (by decide) rfl (three fun x y z => by rfl), fun L Y frs O => ?_⟩
  have hc := cut_len l a h0
  refine WSs_cons O (WS_asgN H.ok O (i := 17) (by rfl) (by rfl) (sto 17 (by decide) (by rfl)) (WE_slB O (WE_vd H O 12 (H.n 12) rfl (WE_vd H O 13 (H.n 13) rfl (WE_bin O (WE_vd H O 13 (H.n 13) rfl (WE_i ⟨decide_eq_true h0, decide_eq_true (show 0 ≤ a + 4 by omega), hl, show (cut l (some a) (some (a + 4))).length ≤ 4096 by omega, ?_⟩)))))))
  unfold step32 at q
  generalize cut l (some a) (some (a + 4)) = row at q hc ⊢
  refine WSs_cons O (WS_ite O (WT_cmp O (by rfl) (WE_bi H.ok O (f := 0) (by rfl) (by rfl) (WE_vo H O 17 (H.n 17) rfl ⟨by rw [List.length_map]; omega, WE_i ?_⟩))))
  refine And.intro (fun h => ?_) fun h => ?_
  · have h' : ((row.map fun c => (.int c.toNat : D)).length : Int) < 4 := of_decide_eq_true h
    rw [List.length_map] at h'
    have q' : Q (tri (.none, (l.length : Int), "odd end")) := by
      match row, h', q with
      | [], _, q => exact q
      | [_], _, q => exact q
      | [_, _], _, q => exact q
      | [_, _, _], _, q => exact q
      | _ :: _ :: _ :: _ :: _, h', _ => simp at h'; omega
    exact WSs_cons O (WS_ret O (WE_tup O (by rfl) (WEs_cons O (by rfl) (WE_n (WEs_cons O (by rfl) (WE_bi H.ok O (f := 0) (by rfl) (by rfl) (WE_vd H O 12 (H.n 12) rfl ⟨hl, WEs_cons O (by rfl) (WE_s (WEs_nil q'))⟩)))))))
  refine WSs_nil ?_
  have h' : ¬ ((row.map fun c => (.int c.toNat : D)).length : Int) < 4 := of_decide_eq_false h
  rw [List.length_map] at h'
  match row, h', hc, q with
  | [], h', _, _ => exact absurd (by decide) h'
  | [_], h', _, _ => exact absurd (by simp) h'
  | [_, _], h', _, _ => exact absurd (by simp) h'
  | [_, _, _], h', _, _ => exact absurd (by simp) h'
  | _ :: _ :: _ :: _ :: _ :: _, _, hc, _ => simp at hc
  | [b0, b1, b2, b3], _, _, q =>
    dsimp only at q
    refine WSs_cons O (WS.cut (Q' := fun fl g => fl = .nx ∧ ∃ c0 c1 c2 c3, g.get 17 = some (.o [.int (bi c0), .int (bi c1), .int (bi c2), .int (bi c3)]) ∧ g.get 13 = some (.v (.int a)) ∧ Q (tri (out32 (num4 c0 c1 c2 c3) a)))
      (WS_ite O (WT_cmp O (by rfl) (WE_vd H O 11 (H.n 11) rfl (WE_gs H O (by rfl) (by rfl) (by decide +kernel) (Or.inl ?_))))) fun fl g hg => ?_)
    · refine And.intro (fun h => ?_) fun h => ?_
      · have hb : (o == ("be" : Str)) = false := by have : (!(o == ("be" : Str))) = true := h; simpa using this
        rw [hb, cond_false] at q
        exact WSs_cons O (WS_rvs H.ok O (i := 17) (by rfl) (show isOw (some (.o [.int (bi b0), .int (bi b1), .int (bi b2), .int (bi b3)])) _ from ⟨show 4 ≤ 4096 by decide, WSs_nil ⟨rfl, b3, b2, b1, b0, rfl, rfl, q⟩⟩))
      · have hb : (o == ("be" : Str)) = true := by have : (!(o == ("be" : Str))) = false := h; simpa using this
        rw [hb, cond_true] at q
        exact WSs_nil ⟨rfl, b0, b1, b2, b3, rfl, rfl, q⟩
    obtain ⟨rfl, c0, c1, c2, c3, g17, g13, q⟩ := hg
    refine WSs_cons O (WS_asg H.ok O (i := 1) (sto 1 (by decide) (by rfl)) (by rfl) (WE_bin O (WE_bin O (WE_bin O (WE_bin O (WE_idx O (WE_vo H O 17 (H.n 17) g17 (WE_i ⟨show (0:Int) ≤ 0 by decide, show (0:Int) < 4 by decide, show 4 ≤ 4096 by decide, WE_i ⟨by decide, by decide, bi_lt c0, ?_⟩⟩))))))))
    refine WE_bin O (WE_idx O (WE_vo H O 17 (H.n 17) g17 (WE_i ⟨show (0:Int) ≤ 1 by decide, show (1:Int) < 4 by decide, show 4 ≤ 4096 by decide, WE_i ⟨by decide, by decide, bi_lt c1, ?_⟩⟩)))
    refine WE_bin O (WE_idx O (WE_vo H O 17 (H.n 17) g17 (WE_i ⟨show (0:Int) ≤ 2 by decide, show (2:Int) < 4 by decide, show 4 ≤ 4096 by decide, WE_i ⟨by decide, by decide, bi_lt c2, ?_⟩⟩)))
    refine WE_idx O (WE_vo H O 17 (H.n 17) g17 (WE_i ⟨show (0:Int) ≤ 3 by decide, show (3:Int) < 4 by decide, show 4 ≤ 4096 by decide, ?_⟩))
    refine pOr (num4_eq c0 c1 c2 c3) ?_
    generalize num4 c0 c1 c2 c3 = n at q ⊢
    have gc : ∀ d, (G.set g 1 (.v d)).get 1 = some (.v d) := fun d => G.get_set_self 1 _ g
    have ga : ∀ d, (G.set g 1 (.v d)).get 13 = some (.v (.int a)) := fun d => (set_ne (by decide)).trans g13
    have fa : ∀ d, (G.set g 1 (.v d)).frz.get 13 = some (.v (.int a)) := fun d => by rw [frz_get, ga]; rfl
    have fc : ∀ d, (G.set g 1 (.v d)).frz.get 1 = some (.v d) := fun d => by rw [frz_get, gc]; rfl
    refine WSs_cons O (WS_ite O (WT_val O (WX_call H.ok O (by rfl) (by rfl) ⟨_, c_is_scalar H r, WEs_cons O (by rfl) (WE_vd H O 1 (H.n 1) (gc _) (WEs_nil ⟨n, rfl, rfl, ?_⟩))⟩) (by rfl)))
    unfold out32 at q
    refine And.intro (fun h => ?_) fun h => WSs_nil ?_ <;> (replace h : scal (n) = _ := h; rw [h] at q)
    · exact WSs_cons O (WS_ret O (WE_tup O (by rfl) (WEs_cons O (by rfl) (WE_vd H O 1 (H.n 1) (fc _) (WEs_cons O (by rfl) (WE_bin O (WE_vd H O 13 (H.n 13) (fa _) (WE_i (WEs_cons O (by rfl) (WE_s (WEs_nil q)))))))))))
    · refine WSs_cons O (WS_ret O (WE_tup O (by rfl) (WEs_cons O (by rfl) (WE_n (WEs_cons O (by rfl) (WE_bin O (WE_vd H O 13 (H.n 13) (fa _) (WE_i ?_))))))))
      refine WEs_cons O (by rfl) (WE_ife O (WT_val O (WX_call H.ok O (by rfl) (by rfl) ⟨_, c_is_surrogate H (r + 1), WEs_cons O (by rfl) (WE_vd H O 1 (H.n 1) (fc _) (WEs_nil ⟨n, rfl, rfl, ?_⟩))⟩) (by rfl)))
      refine And.intro (fun h => WE_s (WEs_nil ?_)) fun h => WE_s (WEs_nil ?_) <;> (replace h : (decide (55296 ≤ n) && decide (n ≤ 57343)) = _ := h; rw [h] at q; exact q)
end
end Mine
end
section
-- P12
set_option linter.unusedVariables false
set_option maxRecDepth 100000
namespace Mine
open PySem PySem.Calls PyProof.Rows PySem.W
/-- the order told, and where the text starts -/
noncomputable def start32 (l : List UInt8) (o : D) : Str × Int := match o with
  | .str s => (s, 0)
  | _ => bif cut l none (some 4) == [255, 254, 0, 0] then ("le", 4) else ("be", bif cut l none (some 4) == [0, 0, 254, 255] then 4 else 0)
noncomputable def sp_start32 : Spec := fun ds kds Q X => ∃ l o, ds = [.bytes l, o] ∧ kds = [] ∧ isOrd o ∧ l.length ≤ 4096 ∧ Q (.tuple [.str (start32 l o).1, .int (start32 l o).2])
section
variable {W : Wd} (H : Bh W)
include H
theorem c_utf32_start (r : Nat) : FnOk W (r + 1) "utf32_start" sp_start32 := by
  refine fnC H (i := 35) (fa := 203) (c := 202) (by rfl) (by rfl) (by rfl) (by rfl) (by rfl) (by rfl) (by decide +kernel) (by rfl) (by decide +kernel) fun ds kds Q X h => ?_
  obtain ⟨l, o, rfl, rfl, ho, hl, q⟩ := h
  refine ⟨_, bindN (xs := [12, 11]) H.nm (show ∀ i ∈ [12, 11], i < 128 ∧ (stScope (stAt 35)).names.lookup (nmOf i) = some .local by decide +kernel) (by decide) rfl (two fun x y => by rfl), fun L Y frs O => ?_⟩
  refine WSs_cons O (WS_ite O (WT_cmp O (by rfl) (WE_vd H O 11 (H.n 11) rfl (WE_n ⟨rfl, ?_⟩))))
  rcases ho with rfl | ⟨s, rfl⟩
  · refine And.intro (fun h => by cases h) fun _ => WSs_nil ?_
    refine WSs_cons O (WS_ite O (WT_cmp O (by rfl) (WE_slT O (WE_vd H O 12 (H.n 12) rfl (WE_i ⟨rfl, rfl, hl, WE_by ?_⟩)))))
    refine And.intro (fun h => ?_) fun h => WSs_nil ?_
    · refine WSs_cons O (WS_ret O (WE_tup O (by rfl) (WEs_cons O (by rfl) (WE_s (WEs_cons O (by rfl) (WE_i (WEs_nil ?_)))))))
      unfold start32 at q
      dsimp only at q
      rw [show (cut l none (some 4) == [255, 254, 0, 0]) = true from h] at q
      exact q
    · refine WSs_cons O (WS_ret O (WE_tup O (by rfl) (WEs_cons O (by rfl) (WE_gs H O (by rfl) (by rfl) (by decide +kernel) (WEs_cons O (by rfl) (WE_ife O (WT_cmp O (by rfl) (WE_slT O (WE_vd H O 12 (H.n 12) rfl (WE_i ⟨rfl, rfl, hl, WE_by ?_⟩))))))))))
      unfold start32 at q
      dsimp only at q
      rw [show (cut l none (some 4) == [255, 254, 0, 0]) = false from h] at q
      refine And.intro (fun h' => WE_i (WEs_nil ?_)) fun h' => WE_i (WEs_nil ?_)
      · rw [show (cut l none (some 4) == [0, 0, 254, 255]) = true from h'] at q; exact q
      · rw [show (cut l none (some 4) == [0, 0, 254, 255]) = false from h'] at q; exact q
  · refine And.intro (fun _ => ?_) fun h => by cases h
    exact WSs_cons O (WS_ret O (WE_tup O (by rfl) (WEs_cons O (by rfl) (WE_vd H O 11 (H.n 11) rfl (WEs_cons O (by rfl) (WE_i (WEs_nil q)))))))
end
end Mine
end
section
-- P13
set_option linter.unusedVariables false
set_option maxRecDepth 100000
namespace Mine
open PySem PySem.Calls PyProof.Rows PySem.W
theorem out32_ok (n a : Int) : (out32 n a).2.1 = a + 4 ∧ ((out32 n a).1 = .none ∨ ∃ m, (out32 n a).1 = .int m) := by
  unfold out32
  cases scal n with
  | true => exact ⟨rfl, .inr ⟨_, rfl⟩⟩
  | false => exact ⟨rfl, .inl rfl⟩
theorem goes32 : Goes step32 := fun l a be h0 h1 => by
  unfold step32
  split
  · cases be with
    | true =>
      rw [cond_true]
      exact ⟨by rw [(out32_ok _ a).1]; omega, (out32_ok _ a).2⟩
    | false =>
      rw [cond_false]
      exact ⟨by rw [(out32_ok _ a).1]; omega, (out32_ok _ a).2⟩
  · exact ⟨h1, .inl rfl⟩
theorem start32_ge (l : List UInt8) (o : D) : 0 ≤ (start32 l o).2 := by
  unfold start32
  split
  · exact Int.le_refl 0
  · cases cut l none (some 4) == [255, 254, 0, 0] with
    | true => exact (show (0 : Int) ≤ 4 by decide)
    | false => cases cut l none (some 4) == [0, 0, 254, 255] with
      | true => exact (show (0 : Int) ≤ 4 by decide)
      | false => exact (show (0 : Int) ≤ 0 by decide)
section
variable {W : Wd} (H : Bh W)
include H
theorem c_decode_utf32_replaced (r : Nat) : FnOk W (r + 4) "decode_utf32_replaced" (sp_decR start32 step32) := by
  refine fnC H (i := 37) (fa := 219) (c := 218) (by rfl) (by rfl) (by rfl) (by rfl) (by rfl) (by rfl) (by decide +kernel) (by rfl) (by decide +kernel) fun ds kds Q X h => ?_
  obtain ⟨l, o, rfl, rfl, ho, hl, q⟩ := h
  refine ⟨_, bindG (xs := [12, 11]) (ds' := [.bytes l, o]) (show ∀ i ∈ [12, 11], i < 128 ∧ (stScope (stAt 37)).names.lookup (nmOf i) = some .local by decide +kernel) (by decide) rfl (fun s V vs kvs hs dv dk => ⟨vs, ?_, dv⟩), fun L Y frs O => ?_⟩
  · cases dk
    obtain ⟨x, y, rfl, _⟩ := den2 dv
    exact BindsTo.of_defaults rfl (hs _ _ (H.K _ _ (show (myK W.w.params).lookup 212 = some _ from rfl))) rfl (by rfl) (by rfl)
  refine WSs_cons O (WS_asgT (xs := [11, 13]) H.ok O (.cons (i := 11) (.cons (i := 13) .nil)) (fun i hi => ?_) (by rfl) (by rfl) (WX_call H.ok O (by rfl) (by rfl) ⟨_, c_utf32_start H (r + 2), WEs_cons O (by rfl) (WE_vd H O 12 (H.n 12) rfl (WEs_cons O (by rfl) (WE_vd H O 11 (H.n 11) rfl (WEs_nil ⟨l, o, rfl, rfl, ho, hl, rfl, ?_⟩))))⟩))
  · rcases List.mem_cons.mp hi with rfl | hi
    · exact sto 11 (by decide) (by rfl)
    · rw [List.mem_singleton.mp hi]; exact sto 13 (by decide) (by rfl)
  refine WSs_cons O (WS_asgL H.ok O (i := 3) (sto 3 (by decide) (by rfl)) (by rfl) (WEs_nil ?_))
  have hs0 := start32_ge l o
  generalize hbe : ((start32 l o).1 == ("be" : Str)) = be
  have q' : Q (.list (decR step32 l be l.length (start32 l o).2)) := by rw [← hbe]; exact q
  generalize ha : (start32 l o).2 = a₀ at q' hs0
  refine WSs_cons O (WS_whl O dFx_top ⟨fun m g => ∃ a fs, g = [(12, .v (.bytes l)), (11, .v (.str (start32 l o).1)), (13, .v (.int a)), (3, .o fs)] ∧ 0 ≤ a ∧ (l.length : Int) - a ≤ m ∧ fs.length + m ≤ l.length ∧ fs ++ decR step32 l be m a = decR step32 l be l.length a₀, ⟨l.length, _, ?_, a₀, [], rfl, hs0, by omega, by simp, rfl⟩, fun m g hi => ?_⟩)
  · rw [← ha]; exact ⟨rfl, rfl, rfl, rfl, trivial⟩
  obtain ⟨a, fs, rfl, h0, hm, hf, he⟩ := hi
  refine WT_cmp O (by rfl) (WE_vd H O 13 (H.n 13) rfl (WE_bi H.ok O (f := 0) (by rfl) (by rfl) (WE_vd H O 12 (H.n 12) rfl ⟨hl, ?_⟩)))
  refine And.intro (fun h => ?_) fun h => ?_
  · have h1 := of_decide_eq_true h
    obtain ⟨g1, g2⟩ := goes32 l a be h0 h1
    cases m with
    | zero => omega
    | succ m =>
      refine WSs_cons O (WS_asgT (xs := [1, 13, 16]) H.ok O (.cons (i := 1) (.cons (i := 13) (.cons (i := 16) .nil))) (fun i hi => ?_) (by rfl) (by rfl) (WX_call H.ok O (by rfl) (by rfl) ⟨_, c_utf32_step H r, WEs_cons O (by rfl) (WE_vd H O 12 (H.n 12) rfl (WEs_cons O (by rfl) (WE_vd H O 13 (H.n 13) rfl (WEs_cons O (by rfl) (WE_vd H O 11 (H.n 11) rfl (WEs_nil ⟨l, a, _, rfl, rfl, h0, hl, rfl, ?_⟩))))))⟩))
      · rcases List.mem_cons.mp hi with rfl | hi
        · exact sto 1 (by decide) (by rfl)
        · rcases List.mem_cons.mp hi with rfl | hi
          · exact sto 13 (by decide) (by rfl)
          · rw [List.mem_singleton.mp hi]; exact sto 16 (by decide) (by rfl)
      rw [hbe]
      have he' : (fs ++ [orRep (step32 l a be).1]) ++ decR step32 l be m (step32 l a be).2.1 = decR step32 l be l.length a₀ := by
        rw [← he, List.append_assoc]
        congr 1
        conv => rhs; unfold decR
        rw [h]; rfl
      refine WSs_cons O (WS_app H.ok O (i := 3) (by rfl) (by rfl) (show isOw (some (.o fs)) _ from ?_))
      refine WE_ife O (WT_cmp O (by rfl) (WE_vd H O 1 (H.n 1) rfl (WE_n ⟨rfl, ?_⟩)))
      have fin : ∀ d, d = orRep (step32 l a be).1 → (fs.length ≤ 4096 ∧ ∃ g₁, Sub g₁ (G.set (G.set (G.set (G.set [(12, .v (.bytes l)), (11, .v (.str (start32 l o).1)), (13, .v (.int a)), (3, .o fs)] 1 (.v (step32 l a be).1)) 13 (.v (.int (step32 l a be).2.1))) 16 (.v (.str (step32 l a be).2.2))) 3 (.o (fs ++ [d]))) ∧ ∃ m', m' < m + 1 ∧ ∃ a' fs', g₁ = [(12, .v (.bytes l)), (11, .v (.str (start32 l o).1)), (13, .v (.int a')), (3, .o fs')] ∧ 0 ≤ a' ∧ (l.length : Int) - a' ≤ m' ∧ fs'.length + m' ≤ l.length ∧ fs' ++ decR step32 l be m' a' = decR step32 l be l.length a₀) := fun d hd => by
        subst hd
        refine ⟨by omega, [(12, .v (.bytes l)), (11, .v (.str (start32 l o).1)), (13, .v (.int (step32 l a be).2.1)), (3, .o (fs ++ [orRep (step32 l a be).1]))], ⟨rfl, rfl, rfl, rfl, trivial⟩, m, Nat.lt_succ_self _, _, _, rfl, by omega, by omega, by rw [List.length_append]; show fs.length + 1 + m ≤ _; omega, he'⟩
      refine And.intro (fun hn => WE_gi H O (by rfl) (by rfl) (by decide +kernel) ?_) fun hn => WE_vd H O 1 (H.n 1) rfl ?_
      · obtain ⟨z, g₁, s₁, r₁⟩ := fin (.int 65533) (by
          have : isN (step32 l a be).1 = true := hn
          rcases g2 with g2 | ⟨n, g2⟩ <;> rw [g2] at this ⊢
          · rfl
          · cases this)
        exact ⟨z, WSs_nil ⟨g₁, s₁, r₁⟩⟩
      · obtain ⟨z, g₁, s₁, r₁⟩ := fin (step32 l a be).1 (by
          have : isN (step32 l a be).1 = false := hn
          rcases g2 with g2 | ⟨n, g2⟩ <;> rw [g2] at this ⊢
          · cases this
          · rfl)
        exact ⟨z, WSs_nil ⟨g₁, s₁, r₁⟩⟩
  · refine WSs_cons O (WS_ret O (WE_vd H O 3 (H.n 3) rfl ?_))
    have := decR_end step32 l be (of_decide_eq_false h) m
    rw [this, List.append_nil] at he
    rw [he]; exact q'
end
end Mine
end
section
-- P14
set_option linter.unusedVariables false
set_option maxRecDepth 100000
namespace Mine
open PySem PySem.Calls PyProof.Rows PySem.W
/-- what a strict decoder tells from a place on: the text, or where and what is ill -/
noncomputable def tel (fs : List D) : Sum (List D) (Int × Str) → Sum (List D) (Int × Str) | .inl ds => .inl (fs ++ ds) | .inr x => .inr x
noncomputable def decS (f : List UInt8 → Int → Bool → D × Int × Str) (l : List UInt8) (be : Bool) : Nat → Int → Sum (List D) (Int × Str)
  | 0, _ => .inl []
  | n + 1, a => bif decide (a < l.length) then (bif isN (f l a be).1 then .inr (a, (f l a be).2.2) else tel [(f l a be).1] (decS f l be n (f l a be).2.1)) else .inl []
theorem decS_end (f : List UInt8 → Int → Bool → D × Int × Str) (l : List UInt8) (be : Bool) {a : Int} (h : ¬ a < l.length) : ∀ n, decS f l be n a = .inl []
  | 0 => rfl
  | n + 1 => by unfold decS; rw [decide_eq_false h]; rfl
theorem tel_tel (a b : List D) (x : Sum (List D) (Int × Str)) : tel (a ++ b) x = tel a (tel b x) := by
  cases x with
  | inl d => show Sum.inl _ = Sum.inl _; rw [List.append_assoc]
  | inr _ => rfl
noncomputable def decT (st : List UInt8 → D → Str × Int) (f : List UInt8 → Int → Bool → D × Int × Str) (l : List UInt8) (o : D) : Sum (List D) (Int × Str) := decS f l ((st l o).1 == "be") l.length (st l o).2
noncomputable def telQ (Q : D → Prop) (X : Exc → Prop) : Sum (List D) (Int × Str) → Prop | .inl ds => Q (.list ds) | .inr x => X ⟨"BadEncoding", .tuple [.int x.1, .str x.2]⟩
noncomputable def sp_decT (st : List UInt8 → D → Str × Int) (f : List UInt8 → Int → Bool → D × Int × Str) : Spec := fun ds kds Q X => ∃ l o, ds = [.bytes l, o] ∧ kds = [] ∧ isOrd o ∧ l.length ≤ 4096 ∧ telQ Q X (decT st f l o)
section
variable {W : Wd} (H : Bh W)
include H
theorem c_decode_utf16 (r : Nat) : FnOk W (r + 3) "decode_utf16" (sp_decT start16 step16) := by
  refine fnC H (i := 31) (fa := 173) (c := 172) (by rfl) (by rfl) (by rfl) (by rfl) (by rfl) (by rfl) (by decide +kernel) (by rfl) (by decide +kernel) fun ds kds Q X h => ?_
  obtain ⟨l, o, rfl, rfl, ho, hl, q⟩ := h
  refine ⟨_, bindG (xs := [12, 11]) (ds' := [.bytes l, o]) (show ∀ i ∈ [12, 11], i < 128 ∧ (stScope (stAt 31)).names.lookup (nmOf i) = some .local by decide +kernel) (by decide) rfl (fun s V vs kvs hs dv dk => ⟨vs, ?_, dv⟩), fun L Y frs O => ?_⟩
  · cases dk
    obtain ⟨x, y, rfl, _⟩ := den2 dv
    exact BindsTo.of_defaults rfl (hs _ _ (H.K _ _ (show (myK W.w.params).lookup 166 = some _ from rfl))) rfl (by rfl) (by rfl)
  refine WSs_cons O (WS_asgT (xs := [11, 13]) H.ok O (.cons (i := 11) (.cons (i := 13) .nil)) (fun i hi => ?_) (by rfl) (by rfl) (WX_call H.ok O (by rfl) (by rfl) ⟨_, c_utf16_start H (r + 1), WEs_cons O (by rfl) (WE_vd H O 12 (H.n 12) rfl (WEs_cons O (by rfl) (WE_vd H O 11 (H.n 11) rfl (WEs_nil ⟨l, o, rfl, rfl, ho, hl, rfl, ?_⟩))))⟩))
  · rcases List.mem_cons.mp hi with rfl | hi
    · exact sto 11 (by decide) (by rfl)
    · rw [List.mem_singleton.mp hi]; exact sto 13 (by decide) (by rfl)
  refine WSs_cons O (WS_asgL H.ok O (i := 3) (sto 3 (by decide) (by rfl)) (by rfl) (WEs_nil ?_))
  have hs0 := start16_ge l o
  generalize hbe : ((start16 l o).1 == ("be" : Str)) = be
  have q' : telQ Q X (decS step16 l be l.length (start16 l o).2) := by rw [← hbe]; exact q
  generalize ha : (start16 l o).2 = a₀ at q' hs0
  refine WSs_cons O (WS_whl O dFx_top ⟨fun m g => ∃ a fs, g = [(12, .v (.bytes l)), (11, .v (.str (start16 l o).1)), (13, .v (.int a)), (3, .o fs)] ∧ 0 ≤ a ∧ (l.length : Int) - a ≤ m ∧ fs.length + m ≤ l.length ∧ tel fs (decS step16 l be m a) = decS step16 l be l.length a₀, ⟨l.length, _, ?_, a₀, [], rfl, hs0, by omega, by simp, ?_⟩, fun m g hi => ?_⟩)
  · rw [← ha]; exact ⟨rfl, rfl, rfl, rfl, trivial⟩
  · cases decS step16 l be l.length a₀ <;> rfl
  obtain ⟨a, fs, rfl, h0, hm, hf, he⟩ := hi
  refine WT_cmp O (by rfl) (WE_vd H O 13 (H.n 13) rfl (WE_bi H.ok O (f := 0) (by rfl) (by rfl) (WE_vd H O 12 (H.n 12) rfl ⟨hl, ?_⟩)))
  refine And.intro (fun h => ?_) fun h => ?_
  · have h1 := of_decide_eq_true h
    obtain ⟨g1, g2⟩ := goes16 l a be h0 h1
    cases m with
    | zero => omega
    | succ m =>
      refine WSs_cons O (WS_asgT (xs := [1, 15, 16]) H.ok O (.cons (i := 1) (.cons (i := 15) (.cons (i := 16) .nil))) (fun i hi => ?_) (by rfl) (by rfl) (WX_call H.ok O (by rfl) (by rfl) ⟨_, c_utf16_step H r, WEs_cons O (by rfl) (WE_vd H O 12 (H.n 12) rfl (WEs_cons O (by rfl) (WE_vd H O 13 (H.n 13) rfl (WEs_cons O (by rfl) (WE_vd H O 11 (H.n 11) rfl (WEs_nil ⟨l, a, _, rfl, rfl, h0, hl, rfl, ?_⟩))))))⟩))
      · rcases List.mem_cons.mp hi with rfl | hi
        · exact sto 1 (by decide) (by rfl)
        · rcases List.mem_cons.mp hi with rfl | hi
          · exact sto 15 (by decide) (by rfl)
          · rw [List.mem_singleton.mp hi]; exact sto 16 (by decide) (by rfl)
      rw [hbe]
      have he' : (bif isN (step16 l a be).1 then .inr (a, (step16 l a be).2.2) else tel (fs ++ [(step16 l a be).1]) (decS step16 l be m (step16 l a be).2.1)) = decS step16 l be l.length a₀ := by
        rw [← he]
        conv => rhs; unfold decS
        rw [h, cond_true]
        cases isN (step16 l a be).1 with
        | true => rfl
        | false => exact tel_tel _ _ _
      generalize step16 l a be = x at g1 g2 he' ⊢
      obtain ⟨x1, x2, x3⟩ := x
      dsimp only at g1 g2 he'
      refine WSs_cons O (WS_ite O (WT_cmp O (by rfl) (WE_vd H O 1 (H.n 1) rfl (WE_n ⟨rfl, ?_⟩))))
      refine And.intro (fun hn => ?_) fun hn => WSs_nil ?_
      · refine WSs_cons O (WS_rais H.ok O (by rfl) (by rfl) (by omega) (x_BadEncoding H) (WE_tup O (by rfl) (WEs_cons O (by rfl) (WE_vd H O 13 (H.n 13) rfl (WEs_cons O (by rfl) (WE_vd H O 16 (H.n 16) rfl (WEs_nil ?_)))))))
        rw [show isN x1 = true from hn, cond_true] at he'
        rw [← he'] at q'; exact q'
      · rw [show isN x1 = false from hn, cond_false] at he'
        refine WSs_cons O (WS_app H.ok O (i := 3) (by rfl) (by rfl) (show isOw (some (.o fs)) _ from ?_))
        refine WE_vd H O 1 (H.n 1) rfl ⟨by omega, ?_⟩
        refine WSs_cons O (WS_asg H.ok O (i := 13) (sto 13 (by decide) (by rfl)) (by rfl) (WE_vd H O 15 (H.n 15) rfl ?_))
        refine WSs_nil ⟨[(12, .v (.bytes l)), (11, .v (.str (start16 l o).1)), (13, .v (.int x2)), (3, .o (fs ++ [x1]))], ⟨rfl, rfl, rfl, rfl, trivial⟩, m, Nat.lt_succ_self _, _, _, rfl, by omega, by omega, by rw [List.length_append]; show fs.length + 1 + m ≤ _; omega, he'⟩
  · refine WSs_cons O (WS_ret O (WE_vd H O 3 (H.n 3) rfl ?_))
    have := decS_end step16 l be (of_decide_eq_false h) m
    rw [this] at he
    rw [← he] at q'
    have q2 : Q (.list (fs ++ [])) := q'
    rw [List.append_nil] at q2; exact q2
end
end Mine
end
section
-- P15
set_option linter.unusedVariables false
set_option maxRecDepth 100000
namespace Mine
open PySem PySem.Calls PyProof.Rows PySem.W
section
variable {W : Wd} (H : Bh W)
include H
theorem c_decode_utf32 (r : Nat) : FnOk W (r + 4) "decode_utf32" (sp_decT start32 step32) := by
  refine fnC H (i := 36) (fa := 211) (c := 210) (by rfl) (by rfl) (by rfl) (by rfl) (by rfl) (by rfl) (by decide +kernel) (by rfl) (by decide +kernel) fun ds kds Q X h => ?_
  obtain ⟨l, o, rfl, rfl, ho, hl, q⟩ := h
  refine ⟨_, bindG (xs := [12, 11]) (ds' := [.bytes l, o]) (show ∀ i ∈ [12, 11], i < 128 ∧ (stScope (stAt 36)).names.lookup (nmOf i) = some .local by decide +kernel) (by decide) rfl (fun s V vs kvs hs dv dk => ⟨vs, ?_, dv⟩), fun L Y frs O => ?_⟩
  · cases dk
    obtain ⟨x, y, rfl, _⟩ := den2 dv
    exact BindsTo.of_defaults rfl (hs _ _ (H.K _ _ (show (myK W.w.params).lookup 204 = some _ from rfl))) rfl (by rfl) (by rfl)
  refine WSs_cons O (WS_asgT (xs := [11, 13]) H.ok O (.cons (i := 11) (.cons (i := 13) .nil)) (fun i hi => ?_) (by rfl) (by rfl) (WX_call H.ok O (by rfl) (by rfl) ⟨_, c_utf32_start H (r + 2), WEs_cons O (by rfl) (WE_vd H O 12 (H.n 12) rfl (WEs_cons O (by rfl) (WE_vd H O 11 (H.n 11) rfl (WEs_nil ⟨l, o, rfl, rfl, ho, hl, rfl, ?_⟩))))⟩))
  · rcases List.mem_cons.mp hi with rfl | hi
    · exact sto 11 (by decide) (by rfl)
    · rw [List.mem_singleton.mp hi]; exact sto 13 (by decide) (by rfl)
  refine WSs_cons O (WS_asgL H.ok O (i := 3) (sto 3 (by decide) (by rfl)) (by rfl) (WEs_nil ?_))
  have hs0 := start32_ge l o
  generalize hbe : ((start32 l o).1 == ("be" : Str)) = be
  have q' : telQ Q X (decS step32 l be l.length (start32 l o).2) := by rw [← hbe]; exact q
  generalize ha : (start32 l o).2 = a₀ at q' hs0
  refine WSs_cons O (WS_whl O dFx_top ⟨fun m g => ∃ a fs, g = [(12, .v (.bytes l)), (11, .v (.str (start32 l o).1)), (13, .v (.int a)), (3, .o fs)] ∧ 0 ≤ a ∧ (l.length : Int) - a ≤ m ∧ fs.length + m ≤ l.length ∧ tel fs (decS step32 l be m a) = decS step32 l be l.length a₀, ⟨l.length, _, ?_, a₀, [], rfl, hs0, by omega, by simp, ?_⟩, fun m g hi => ?_⟩)
  · rw [← ha]; exact ⟨rfl, rfl, rfl, rfl, trivial⟩
  · cases decS step32 l be l.length a₀ <;> rfl
  obtain ⟨a, fs, rfl, h0, hm, hf, he⟩ := hi
  refine WT_cmp O (by rfl) (WE_vd H O 13 (H.n 13) rfl (WE_bi H.ok O (f := 0) (by rfl) (by rfl) (WE_vd H O 12 (H.n 12) rfl ⟨hl, ?_⟩)))
  refine And.intro (fun h => ?_) fun h => ?_
  · have h1 := of_decide_eq_true h
    obtain ⟨g1, g2⟩ := goes32 l a be h0 h1
    cases m with
    | zero => omega
    | succ m =>
      refine WSs_cons O (WS_asgT (xs := [1, 15, 16]) H.ok O (.cons (i := 1) (.cons (i := 15) (.cons (i := 16) .nil))) (fun i hi => ?_) (by rfl) (by rfl) (WX_call H.ok O (by rfl) (by rfl) ⟨_, c_utf32_step H r, WEs_cons O (by rfl) (WE_vd H O 12 (H.n 12) rfl (WEs_cons O (by rfl) (WE_vd H O 13 (H.n 13) rfl (WEs_cons O (by rfl) (WE_vd H O 11 (H.n 11) rfl (WEs_nil ⟨l, a, _, rfl, rfl, h0, hl, rfl, ?_⟩))))))⟩))
      · rcases List.mem_cons.mp hi with rfl | hi
        · exact sto 1 (by decide) (by rfl)
        · rcases List.mem_cons.mp hi with rfl | hi
          · exact sto 15 (by decide) (by rfl)
          · rw [List.mem_singleton.mp hi]; exact sto 16 (by decide) (by rfl)
      rw [hbe]
      have he' : (bif isN (step32 l a be).1 then .inr (a, (step32 l a be).2.2) else tel (fs ++ [(step32 l a be).1]) (decS step32 l be m (step32 l a be).2.1)) = decS step32 l be l.length a₀ := by
        rw [← he]
        conv => rhs; unfold decS
        rw [h, cond_true]
        cases isN (step32 l a be).1 with
        | true => rfl
        | false => exact tel_tel _ _ _
      generalize step32 l a be = x at g1 g2 he' ⊢
      obtain ⟨x1, x2, x3⟩ := x
      dsimp only at g1 g2 he'
      refine WSs_cons O (WS_ite O (WT_cmp O (by rfl) (WE_vd H O 1 (H.n 1) rfl (WE_n ⟨rfl, ?_⟩))))
      refine And.intro (fun hn => ?_) fun hn => WSs_nil ?_
      · refine WSs_cons O (WS_rais H.ok O (by rfl) (by rfl) (by omega) (x_BadEncoding H) (WE_tup O (by rfl) (WEs_cons O (by rfl) (WE_vd H O 13 (H.n 13) rfl (WEs_cons O (by rfl) (WE_vd H O 16 (H.n 16) rfl (WEs_nil ?_)))))))
        rw [show isN x1 = true from hn, cond_true] at he'
        rw [← he'] at q'; exact q'
      · rw [show isN x1 = false from hn, cond_false] at he'
        refine WSs_cons O (WS_app H.ok O (i := 3) (by rfl) (by rfl) (show isOw (some (.o fs)) _ from ?_))
        refine WE_vd H O 1 (H.n 1) rfl ⟨by omega, ?_⟩
        refine WSs_cons O (WS_asg H.ok O (i := 13) (sto 13 (by decide) (by rfl)) (by rfl) (WE_vd H O 15 (H.n 15) rfl ?_))
        refine WSs_nil ⟨[(12, .v (.bytes l)), (11, .v (.str (start32 l o).1)), (13, .v (.int x2)), (3, .o (fs ++ [x1]))], ⟨rfl, rfl, rfl, rfl, trivial⟩, m, Nat.lt_succ_self _, _, _, rfl, by omega, by omega, by rw [List.length_append]; show fs.length + 1 + m ≤ _; omega, he'⟩
  · refine WSs_cons O (WS_ret O (WE_vd H O 3 (H.n 3) rfl ?_))
    have := decS_end step32 l be (of_decide_eq_false h) m
    rw [this] at he
    rw [← he] at q'
    have q2 : Q (.list (fs ++ [])) := q'
    rw [List.append_nil] at q2; exact q2
end
end Mine
end
section
-- P16
set_option linter.unusedVariables false
set_option maxRecDepth 100000
namespace Mine
open PySem PySem.Calls PyProof.Rows PySem.W
/-- the units of one code, of a text -/
noncomputable def u16 (n : Int) : List D := bif decide (n < 65536) then [.int n] else [.int (55296 + (n - 65536).fdiv (2 ^ (10 : Int).toNat)), .int (56320 + Builtin.bitAnd (n - 65536) 1023)]
noncomputable def units16 (ns : List Int) : List D := ns.flatMap u16
noncomputable def badQ (Q : D → Prop) (X : Exc → Prop) (ns : List Int) (d : D) : Prop := match bad ns with | none => Q d | some n => X ⟨"BadCode", .int n⟩
noncomputable def sp_units16 : Spec := fun ds kds Q X => ∃ ns : List Int, ds = [.list (ns.map .int)] ∧ kds = [] ∧ ns.length ≤ 2000 ∧ badQ Q X ns (.list (units16 ns))
/-- how many units a code takes -/
noncomputable def wid (n : Int) : Int := bif decide (n < 65536) then 1 else 2
noncomputable def wids (ns : List Int) : Int := (ns.map wid).sum
noncomputable def sp_ahead : Spec := fun ds kds Q X => ∃ (ns : List Int) (p : Int), ds = [.list (ns.map .int), .int p] ∧ kds = [] ∧ 0 ≤ p ∧ ns.length ≤ 2000 ∧ Q (.int (wids (ns.take p.toNat)))
noncomputable def plc : List Int → Int → Int → Int × Bool
  | [], p, _ => (p, false)
  | n :: ns, p, l => bif decide (l < wid n) then (p, decide (0 < l)) else plc ns (p + 1) (l - wid n)
noncomputable def sp_place : Spec := fun ds kds Q X => ∃ (ns : List Int) (k : Int), ds = [.list (ns.map .int), .int k] ∧ kds = [] ∧ ns.length ≤ 2000 ∧ Q (.tuple [.int (plc ns 0 k).1, .bool (plc ns 0 k).2])
theorem WS_ap {W : Wd} {F : Fx} {r : Nat} {g : G} {Q : Fl → G → Prop} {X : Exc → G → Prop} (H : Bh W) (O : F.Ok W) (i : Nat) {x : Str} {l : List D} {p1 p2 p3 p4 : Pos} {e : Expr} (hx : W.nm i = x) (he : notStar e = true) (hl : (p2.endLine == p3.line) = true) (eg : g.get i = some (.o l))
    (h : WE W F r g e (fun x => isC x fun d => l.length ≤ 4096 ∧ Q .nx (G.set g i (.o (l ++ [d])))) fun x => X x g) : WS W F r g (exec (.Expr (.Call (.Attribute (.Name x p1) "append" p2) [e] [] p3) p4) F.env) Q X := by
  subst hx; exact WS_app H.ok O he hl (by rw [eg]; exact h)
section
variable {W : Wd} (H : Bh W)
include H
theorem c_utf16_units (r : Nat) : FnOk W (r + 5) "utf16_units" sp_units16 := by
  refine fnC H (i := 22) (fa := 108) (c := 107) (by rfl) (by rfl) (by rfl) (by rfl) (by rfl) (by rfl) (by decide +kernel) (by rfl) (by decide +kernel) fun ds kds Q X h => ?_
  obtain ⟨ns, rfl, rfl, hl, q⟩ := h
  refine ⟨_, bind1 (a := 2) H.nm (by decide) (by rfl) (fun v => by rfl), fun L Y frs O => ?_⟩
  refine WSs_cons O (WS_exp O (by rfl) (WX_call H.ok O (by rfl) (by rfl) ⟨_, c_check H r, WEs_cons O (by rfl) (WE_vd H O 2 (H.n 2) rfl (WEs_nil ⟨ns, rfl, rfl, ?_⟩))⟩))
  unfold badQ at q
  generalize bad ns = b at q ⊢
  cases b with
  | some n => exact q
  | none =>
  refine WSs_cons O (WS_asgL H.ok O (i := 3) (sto 3 (by decide) (by rfl)) (by rfl) (WEs_nil ?_))
  refine WSs_cons O (WS_for H.ok O dFx_top (Tgt.one (i := 1)) (sto1 1 (by decide) (by rfl)) (fun _ => rfl) (WIt_seq (i := 1) O (WE_vd H O 2 (H.n 2) rfl ?_)))
  refine ⟨fun rest g => ∃ ms fs, g = [(3, .o fs)] ∧ rest = ms.map .int ∧ fs ++ units16 ms = units16 ns ∧ fs.length + 2 * ms.length ≤ 4000, ⟨[(3, .o [])], ⟨rfl, trivial⟩, ns, [], rfl, rfl, rfl, by simp; omega⟩, fun d rest g ⟨ms, fs, hg, e, b, c⟩ => ?_, fun g ⟨ms, fs, hg, e, b, c⟩ => ?_⟩
  · subst hg
    cases ms with
    | nil => cases e
    | cons m ms =>
      cases e
      rw [List.length_cons] at c
      refine ⟨_, rfl, rfl, WSs_cons O (WS_ite O (WT_cmp O (by rfl) (WE_vd H O 1 (H.n 1) rfl (WE_gi H O (by rfl) (by rfl) (by decide +kernel) ?_))))⟩
      have b' : fs ++ (u16 m ++ units16 ms) = units16 ns := b
      unfold u16 at b'
      refine And.intro (fun h => ?_) fun h => ?_
      · rw [show decide (m < 65536) = true from h, cond_true] at b'
        refine WSs_cons O (WS_ap H O 3 (H.n 3) (by rfl) (by rfl) rfl (WE_vd H O 1 (H.n 1) rfl ⟨by omega, WSs_nil (WSs_nil ⟨[(3, .o (fs ++ [.int m]))], ⟨rfl, trivial⟩, ms, _, rfl, rfl, ?_, ?_⟩)⟩))
        · rw [List.append_assoc]; exact b'
        · rw [List.length_append]; show fs.length + 1 + _ ≤ _; omega
      · rw [show decide (m < 65536) = false from h, cond_false] at b'
        refine WSs_cons O (WS_asg H.ok O (i := 4) (sto 4 (by decide) (by rfl)) (by rfl) (WE_bin O (WE_vd H O 1 (H.n 1) rfl (WE_gi H O (by rfl) (by rfl) (by decide +kernel) ?_))))
        refine WSs_cons O (WS_ap H O 3 (H.n 3) (by rfl) (by rfl) rfl (WE_bin O (WE_gi H O (by rfl) (by rfl) (by decide +kernel) (WE_bin O (WE_vd H O 4 (H.n 4) rfl (WE_gi H O (by rfl) (by rfl) (by decide +kernel) ⟨by decide, ?_⟩))))))
        generalize (m - 65536).fdiv (2 ^ (10 : Int).toNat) = hi at b' ⊢
        refine ⟨by omega, ?_⟩
        refine WSs_cons O (WS_ap H O 3 (H.n 3) (by rfl) (by rfl) rfl (WE_bin O (WE_gi H O (by rfl) (by rfl) (by decide +kernel) (WE_bin O (WE_vd H O 4 (H.n 4) rfl (WE_gi H O (by rfl) (by rfl) (by decide +kernel) ?_))))))
        refine ⟨by rw [List.length_append]; show fs.length + 1 ≤ _; omega, ?_⟩
        refine WSs_nil (WSs_nil ⟨[(3, .o ((fs ++ [.int (55296 + hi)]) ++ [.int (56320 + Builtin.bitAnd (m - 65536) 1023)]))], ⟨rfl, trivial⟩, ms, _, rfl, rfl, ?_, ?_⟩)
        · rw [List.append_assoc, List.append_assoc]; exact b'
        · rw [List.length_append, List.length_append]; show fs.length + 1 + 1 + _ ≤ _; omega
  · cases ms with
    | cons _ _ => cases e
    | nil =>
      subst hg
      refine WSs_cons O (WS_ret O (WE_vd H O 3 (H.n 3) rfl ?_))
      have b' : fs ++ [] = units16 ns := b
      rw [List.append_nil] at b'
      rw [b']; exact q
theorem c_units_ahead (r : Nat) : FnOk W (r + 1) "units_ahead" sp_ahead := by
  refine fnC H (i := 24) (fa := 122) (c := 121) (by rfl) (by rfl) (by rfl) (by rfl) (by rfl) (by rfl) (by decide +kernel) (by rfl) (by decide +kernel) fun ds kds Q X h => ?_
  obtain ⟨ns, p, rfl, rfl, h0, hl, q⟩ := h
  refine ⟨_, bindN (xs := [2, 7]) H.nm (show ∀ i ∈ [2, 7], i < 128 ∧ (stScope (stAt 24)).names.lookup (nmOf i) = some .local by decide +kernel) (by decide) rfl (two fun x y => by rfl), fun L Y frs O => ?_⟩
  refine WSs_cons O (WS_asg H.ok O (i := 3) (sto 3 (by decide) (by rfl)) (by rfl) (WE_i ?_))
  refine WSs_cons O (WS_for H.ok O dFx_top (Tgt.one (i := 1)) (sto1 1 (by decide) (by rfl)) (fun _ => rfl) (WIt_seq (i := 1) O (WE_slT O (WE_vd H O 2 (H.n 2) rfl (WE_vd H O 7 (H.n 7) rfl ⟨rfl, decide_eq_true h0, by rw [List.length_map]; omega, ?_⟩)))))
  refine ⟨fun rest g => ∃ ms n, g = [(3, .v (.int n))] ∧ rest = ms.map .int ∧ n + wids ms = wids (ns.take p.toNat), ⟨[(3, .v (.int 0))], ⟨rfl, trivial⟩, ns.take p.toNat, 0, rfl, ?_, by omega⟩, fun d rest g ⟨ms, n, hg, e, b⟩ => ?_, fun g ⟨ms, n, hg, e, b⟩ => ?_⟩
  · show ((ns.map WData.int).take p.toNat).drop 0 = (ns.take p.toNat).map WData.int
    rw [List.drop_zero, List.map_take]
  · subst hg
    cases ms with
    | nil => cases e
    | cons m ms =>
      cases e
      have b' : n + (wid m + wids ms) = wids (ns.take p.toNat) := b
      unfold wid at b'
      refine ⟨_, rfl, rfl, WSs_cons O (WS_aug H.ok O (i := 3) (sto 3 (by decide) (by rfl)) (.inl rfl) (show isI (.int n) _ from WE_ife O (WT_cmp O (by rfl) (WE_vd H O 1 (H.n 1) rfl (WE_gi H O (by rfl) (by rfl) (by decide +kernel) ?_)))))⟩
      refine And.intro (fun h => WE_i ?_) fun h => WE_i ?_
      · rw [show decide (m < 65536) = true from h, cond_true] at b'
        exact WSs_nil ⟨[(3, .v (.int (n + 1)))], ⟨rfl, trivial⟩, ms, n + 1, rfl, rfl, by omega⟩
      · rw [show decide (m < 65536) = false from h, cond_false] at b'
        exact WSs_nil ⟨[(3, .v (.int (n + 2)))], ⟨rfl, trivial⟩, ms, n + 2, rfl, rfl, by omega⟩
  · cases ms with
    | cons _ _ => cases e
    | nil =>
      subst hg
      refine WSs_cons O (WS_ret O (WE_vd H O 3 (H.n 3) rfl ?_))
      have b' : n + 0 = wids (ns.take p.toNat) := b
      rw [Int.add_zero] at b'
      rw [b']; exact q
theorem c_place_of_unit (r : Nat) : FnOk W (r + 1) "place_of_unit" sp_place := by
  refine fnC H (i := 25) (fa := 129) (c := 128) (by rfl) (by rfl) (by rfl) (by rfl) (by rfl) (by rfl) (by decide +kernel) (by rfl) (by decide +kernel) fun ds kds Q X h => ?_
  obtain ⟨ns, k, rfl, rfl, hl, q⟩ := h
  refine ⟨_, bindN (xs := [2, 0]) H.nm (show ∀ i ∈ [2, 0], i < 128 ∧ (stScope (stAt 25)).names.lookup (nmOf i) = some .local by decide +kernel) (by decide) rfl (two fun x y => by rfl), fun L Y frs O => ?_⟩
  refine WSs_cons O (WS_asg H.ok O (i := 8) (sto 8 (by decide) (by rfl)) (by rfl) (WE_vd H O 0 (H.n 0) rfl ?_))
  refine WSs_cons O (WS_for H.ok O dFx_top (Tgt.tup (i := 7) (j := 1) (.cons (i := 7) (.cons (i := 1) .nil))) (fun i hi => ?_) (fun _ => rfl) (WIt_enum H.ok O (i := 7) (j := 1) (by rfl) (by rfl) (WE_vd H O 2 (H.n 2) rfl ?_)))
  · rcases List.mem_cons.mp hi with rfl | hi
    · exact sto 7 (by decide) (by rfl)
    · rw [List.mem_singleton.mp hi]; exact sto 1 (by decide) (by rfl)
  refine ⟨fun rest g => ∃ ms p l, g = [(2, .v (.list (ns.map .int))), (8, .v (.int l))] ∧ rest = enumL p (ms.map .int) ∧ p + ms.length = ns.length ∧ plc ms p l = plc ns 0 k, ⟨[(2, .v (.list (ns.map .int))), (8, .v (.int k))], ⟨rfl, rfl, trivial⟩, ns, 0, k, rfl, rfl, by omega, rfl⟩, fun d rest g ⟨ms, p, l, hg, e, b, c⟩ => ?_, fun g ⟨ms, p, l, hg, e, b, c⟩ => ?_⟩
  · subst hg
    cases ms with
    | nil => cases e
    | cons m ms =>
      cases e
      rw [List.length_cons] at b
      replace c : (bif decide (l < wid m) then (p, decide (0 < l)) else plc ms (p + 1) (l - wid m)) = plc ns 0 k := c
      refine ⟨[.int p, .int m], rfl, rfl, WSs_cons O (WS_asg H.ok O (i := 9) (sto 9 (by decide) (by rfl)) (by rfl) (WX.cut (Q' := fun x => x = .cl (.int (wid m))) (X' := fun _ => False) (WE_ife O (WT_cmp O (by rfl) (WE_vd H O 1 (H.n 1) rfl (WE_gi H O (by rfl) (by rfl) (by decide +kernel) ?_)))) (fun x hx => ?_) fun _ h => h.elim))⟩
      · refine And.intro (fun h => WE_i ?_) fun h => WE_i ?_
        · unfold wid; rw [show decide (m < 65536) = true from h]; rfl
        · unfold wid; rw [show decide (m < 65536) = false from h]; rfl
      subst hx
      generalize wid m = w at c ⊢
      refine WSs_cons O (WS_ite O (WT_cmp O (by rfl) (WE_vd H O 8 (H.n 8) rfl (WE_vd H O 9 (H.n 9) rfl ?_))))
      refine And.intro (fun h => ?_) fun h => WSs_nil ?_
      · rw [show decide (l < w) = true from h, cond_true] at c
        rw [← c] at q
        refine WSs_cons O (WS_ret O (WE_tup O (by rfl) (WEs_cons O (by rfl) (WE_vd H O 7 (H.n 7) rfl (WEs_cons O (by rfl) (WE_cmp O (by rfl) (WE_vd H O 8 (H.n 8) rfl (WE_i (WEs_nil q)))))))))
      · rw [show decide (l < w) = false from h, cond_false] at c
        refine WSs_cons O (WS_aug H.ok O (i := 8) (sto 8 (by decide) (by rfl)) (.inr rfl) (show isI (.int l) _ from WE_vd H O 9 (H.n 9) rfl ?_))
        exact WSs_nil ⟨[(2, .v (.list (ns.map .int))), (8, .v (.int (l - w)))], ⟨rfl, rfl, trivial⟩, ms, p + 1, l - w, rfl, rfl, by omega, c⟩
  · cases ms with
    | cons _ _ => cases e
    | nil =>
      subst hg
      refine WSs_cons O (WS_ret O (WE_tup O (by rfl) (WEs_cons O (by rfl) (WE_bi H.ok O (f := 0) (by rfl) (by rfl) (WE_vd H O 2 (H.n 2) rfl ⟨by rw [List.length_map]; omega, WEs_cons O (by rfl) (WE_t (WEs_nil ?_))⟩)))))
      rw [← c] at q
      have hp : p = (ns.length : Int) := by simpa using b
      rw [List.length_map, ← hp]; exact q
end
end Mine
end
section
-- N1
set_option linter.unusedVariables false
namespace Mine
open PySem PySem.Calls PyProof.Rows PySem.W
theorem fdiv_ediv (a : Int) {b : Int} (h : 0 ≤ b) : a.fdiv b = a / b := Int.fdiv_eq_ediv_of_nonneg a h
theorem fmod_emod (a : Int) {b : Int} (h : 0 ≤ b) : a.fmod b = a % b := Int.fmod_eq_emod_of_nonneg a h
theorem or_nat (a b : Nat) : Builtin.bitOr (a : Int) (b : Int) = ((a ||| b : Nat) : Int) := by
  unfold Builtin.bitOr Builtin.bitAnd Builtin.bitNot
  have h1 : decide (0 ≤ -(a : Int) - 1) = false := by simp; omega
  have h2 : decide (0 ≤ -(b : Int) - 1) = false := by simp; omega
  rw [h1, h2]
  dsimp only
  have e1 : (-(-(a : Int) - 1) - 1).toNat = a := by omega
  have e2 : (-(-(b : Int) - 1) - 1).toNat = b := by omega
  rw [e1, e2]; omega
theorem or_add (a b k : Nat) (h : b < 2 ^ k) : Builtin.bitOr ((a * 2 ^ k : Nat) : Int) (b : Int) = ((a * 2 ^ k + b : Nat) : Int) := by
  rw [or_nat, Nat.mul_comm, ← Nat.two_pow_add_eq_or_of_lt h]
theorem bi_nat (b : UInt8) : ∃ n : Nat, bi b = n ∧ n < 256 := ⟨b.toNat, rfl, b.toNat_lt⟩
theorem or8 {x : Int} {y : Int} (hx : 0 ≤ x) (h0 : 0 ≤ y) (h : y < 256) : Builtin.bitOr (x * 2 ^ (8 : Int).toNat) y = x * 256 + y := by
  obtain ⟨a, rfl⟩ := Int.eq_ofNat_of_zero_le hx
  obtain ⟨b, rfl⟩ := Int.eq_ofNat_of_zero_le h0
  have := or_add a b 8 (show b < 256 by omega)
  have e : (a : Int) * 2 ^ (8 : Int).toNat = ((a * 2 ^ 8 : Nat) : Int) := by simp
  rw [e, this]
  have : (2 : Nat) ^ 8 = 256 := by decide
  rw [this]; omega
theorem num4_add (a b c d : UInt8) : num4 a b c d = ((bi a * 256 + bi b) * 256 + bi c) * 256 + bi d := by
  obtain ⟨x, ex, hx⟩ := bi_nat a
  obtain ⟨y, ey, hy⟩ := bi_nat b
  obtain ⟨z, ez, hz⟩ := bi_nat c
  obtain ⟨w, ew, hw⟩ := bi_nat d
  rw [num4_eq, ex, ey, ez, ew]
  have p1 : ((x : Int) * 2 ^ (24 : Int).toNat) = ((x * 2 ^ 24 : Nat) : Int) := by simp
  have p2 : ((y : Int) * 2 ^ (16 : Int).toNat) = ((y * 2 ^ 16 : Nat) : Int) := by simp
  have p3 : ((z : Int) * 2 ^ (8 : Int).toNat) = ((z * 2 ^ 8 : Nat) : Int) := by simp
  rw [p1, p2, p3, or_add x _ 24 (by omega), show x * 2 ^ 24 + y * 2 ^ 16 = (x * 2 ^ 8 + y) * 2 ^ 16 by omega, or_add _ _ 16 (by omega), show (x * 2 ^ 8 + y) * 2 ^ 16 + z * 2 ^ 8 = ((x * 2 ^ 8 + y) * 2 ^ 8 + z) * 2 ^ 8 by omega, or_add _ _ 8 (by omega)]
  omega
theorem unit16_add (l : List UInt8) (a : Int) (be : Bool) : unit16 l a be = bif be then at8 l a * 256 + at8 l (a + 1) else at8 l (a + 1) * 256 + at8 l a := by
  have p : ∀ i, 0 ≤ at8 l i ∧ at8 l i < 256 := fun i => by unfold at8; have := (l.getD i.toNat 0).toNat_lt; omega
  unfold unit16
  rw [or8 (p _).1 (p _).1 (p _).2, or8 (p _).1 (p _).1 (p _).2]
theorem and1023 (x : Int) : Builtin.bitAnd x 1023 = x % 1024 := kbt_mask x 10
theorem u16_eq (n : Int) : u16 n = bif decide (n < 65536) then [.int n] else [.int (55296 + (n - 65536) / 1024), .int (56320 + (n - 65536) % 1024)] := by
  unfold u16
  rw [and1023, show (2 : Int) ^ (10 : Int).toNat = 1024 by decide, fdiv_ediv _ (by decide)]
theorem oct16_eq (u : Int) (be : Bool) : oct16 u be = bif be then [u / 256, u % 256] else [u % 256, u / 256] := by
  unfold oct16
  rw [bitAnd_m8, show (2 : Int) ^ (8 : Int).toNat = 256 by decide, fdiv_ediv _ (by decide)]
end Mine
end
section
-- P17
set_option linter.unusedVariables false
set_option maxRecDepth 100000
namespace Mine
open PySem PySem.Calls PyProof.Rows PySem.W
theorem WS_ex {W : Wd} {F : Fx} {r : Nat} {g : G} {Q : Fl → G → Prop} {X : Exc → G → Prop} (H : Bh W) (O : F.Ok W) (i : Nat) {x : Str} {l : List D} {p1 p2 p3 p4 : Pos} {e : Expr} (hx : W.nm i = x) (he : notStar e = true) (hl : (p2.endLine == p3.line) = true) (eg : g.get i = some (.o l))
    (h : WE W F r g e (fun x => isL x.d fun k => l.length + k.length ≤ 4096 ∧ Q .nx (G.set g i (.o (l ++ k)))) fun x => X x g) : WS W F r g (exec (.Expr (.Call (.Attribute (.Name x p1) "extend" p2) [e] [] p3) p4) F.env) Q X := by
  subst hx; exact WS_ext H.ok O he hl (by rw [eg]; exact h)
/-- the units of a code, as numbers -/
noncomputable def u16I (n : Int) : List Int := bif decide (n < 65536) then [n] else [55296 + (n - 65536) / 1024, 56320 + (n - 65536) % 1024]
theorem u16_map (n : Int) : u16 n = (u16I n).map .int := by
  rw [u16_eq]; unfold u16I; cases decide (n < 65536) <;> rfl
theorem units16_map (ns : List Int) : units16 ns = (ns.flatMap u16I).map .int := by
  unfold units16
  induction ns with
  | nil => rfl
  | cons n ns ih => rw [List.flatMap_cons, ih, u16_map, List.flatMap_cons, List.map_append]
noncomputable def toB (n : Int) : UInt8 := n.toNat.toUInt8
/-- the octets of units -/
noncomputable def octs (us : List Int) (be : Bool) : List Int := us.flatMap fun u => oct16 u be
noncomputable def enc16 (ns : List Int) (be mk : Bool) : List UInt8 := (octs ((bif mk then [65279] else []) ++ ns.flatMap u16I) be).map toB
theorem scal_iff {n : Int} : scal n = true ↔ (0 ≤ n ∧ n ≤ 1114111 ∧ ¬ (55296 ≤ n ∧ n ≤ 57343)) := by
  unfold scal; simp only [Bool.and_eq_true, Bool.not_eq_true', Bool.and_eq_false_iff, decide_eq_true_eq, decide_eq_false_iff_not]; omega
theorem bad_none {ns : List Int} (h : bad ns = none) : ∀ n ∈ ns, scal n = true := fun n hn => by
  have := List.find?_eq_none.mp h n hn
  simpa using this
theorem u16I_ok {n : Int} (h : scal n = true) : ∀ u ∈ u16I n, 0 ≤ u ∧ u < 65536 := fun u hu => by
  obtain ⟨h1, h2, h3⟩ := scal_iff.mp h
  unfold u16I at hu
  cases hd : decide (n < 65536) with
  | true => rw [hd] at hu; have := List.mem_singleton.mp hu; have := of_decide_eq_true hd; omega
  | false =>
    have := of_decide_eq_false hd
    rw [hd] at hu
    rcases List.mem_cons.mp hu with e | hu
    · omega
    · have := List.mem_singleton.mp hu; omega
theorem oct16_ok {u : Int} (be : Bool) (h : 0 ≤ u ∧ u < 65536) : ∀ n ∈ oct16 u be, 0 ≤ n ∧ n < 256 := fun n hn => by
  rw [oct16_eq] at hn
  cases be <;> (rcases List.mem_cons.mp hn with e | hn; · omega
                · have := List.mem_singleton.mp hn; omega)
theorem oct16_len (u : Int) (be : Bool) : (oct16 u be).length = 2 := by unfold oct16; cases be <;> rfl
noncomputable def encArgs (ds : List D) (kds : List (Str × D)) (ns : List Int) (o : Str) (mk : Bool) : Prop :=
  (ds = [.list (ns.map .int)] ∧ kds = [] ∧ o = "be" ∧ mk = false) ∨ (ds = [.list (ns.map .int), .str o] ∧ kds = [] ∧ mk = false) ∨ (ds = [.list (ns.map .int), .str o] ∧ kds = [(("with_mark" : Str), (.bool true : D))] ∧ mk = true)
noncomputable def sp_enc (f : List Int → Bool → Bool → List UInt8) : Spec := fun ds kds Q X => ∃ ns o mk, encArgs ds kds ns o mk ∧ ns.length ≤ 900 ∧ badQ Q X ns (.bytes (f ns (o == "be") mk))
theorem flat_len {α β : Type} {f : α → List β} {k : Nat} : ∀ {l : List α}, (∀ a ∈ l, (f a).length ≤ k) → (l.flatMap f).length ≤ k * l.length
  | [], _ => Nat.zero_le _
  | a :: l, h => by
    rw [List.flatMap_cons, List.length_append, List.length_cons, Nat.mul_succ]
    have := h a List.mem_cons_self
    have := flat_len (l := l) fun b hb => h b (List.mem_cons_of_mem _ hb)
    omega
theorem u16I_len (n : Int) : (u16I n).length ≤ 2 := by unfold u16I; cases decide (n < 65536) <;> simp
section
variable {W : Wd} (H : Bh W)
include H
theorem c_encode_utf16 (r : Nat) : FnOk W (r + 6) "encode_utf16" (sp_enc enc16) := by
  refine fnC H (i := 28) (fa := 151) (c := 150) (by rfl) (by rfl) (by rfl) (by rfl) (by rfl) (by rfl) (by decide +kernel) (by rfl) (by decide +kernel) fun ds kds Q X h => ?_
  obtain ⟨ns, o, mk, ha, hl, q⟩ := h
  refine ⟨_, bindG (xs := [2, 11, 14]) (ds' := [.list (ns.map .int), .str o, .bool mk]) (show ∀ i ∈ [2, 11, 14], i < 128 ∧ (stScope (stAt 28)).names.lookup (nmOf i) = some .local by decide +kernel) (by decide) rfl (fun s V vs kvs hs dv dk => ?_), fun L Y frs O => ?_⟩
  · have hd := hs _ _ (H.K _ _ (show (myK W.w.params).lookup 144 = some _ from rfl))
    rcases ha with ⟨rfl, rfl, rfl, rfl⟩ | ⟨rfl, rfl, rfl⟩ | ⟨rfl, rfl, rfl⟩
    · cases dk
      obtain ⟨x, rfl, d1⟩ := den1 dv
      exact ⟨[x, _, _], BindsTo.of_defaults rfl hd rfl (by rfl) (by rfl), .cons d1 (.cons (.str _ _) (.cons (.bool _) .nil))⟩
    · cases dk
      obtain ⟨x, y, rfl, d1, d2⟩ := den2 dv
      exact ⟨[x, y, _], BindsTo.of_defaults rfl hd rfl (by rfl) (by rfl), .cons d1 (.cons d2 (.cons (.bool _) .nil))⟩
    · obtain ⟨v, rfl, dk1⟩ := kwd1 dk
      obtain ⟨x, y, rfl, d1, d2⟩ := den2 dv
      exact ⟨[x, y, v], BindsTo.of_defaults rfl hd rfl (by rfl) (by rfl), .cons d1 (.cons d2 (.cons dk1 .nil))⟩
  refine WSs_cons O (WS_asgL H.ok O (i := 3) (sto 3 (by decide) (by rfl)) (by rfl) (WEs_nil ?_))
  refine WSs_cons O (WS_for H.ok O dFx_top (Tgt.one (i := 10)) (sto1 10 (by decide) (by rfl)) (fun _ => rfl) (WIt_seq (i := 10) O (WE_bin O (WX.cut (Q' := fun x => x = .cl (.list ((bif mk then [65279] else []).map .int))) (X' := fun _ => False) (WE_ife O (WT_val O (WE_vd H O 14 (H.n 14) rfl ?_) (by rfl))) (fun x hx => ?_) fun _ h => h.elim))))
  · refine And.intro (fun h => WE_lst O (by rfl) (WEs_cons O (by rfl) (WE_gi H O (by rfl) (by rfl) (by decide +kernel) (WEs_nil ?_)))) fun h => WE_lst O (by rfl) (WEs_nil ?_)
    · rw [show mk = true from h]; rfl
    · rw [show mk = false from h]; rfl
  subst hx
  refine WX_call H.ok O (by rfl) (by rfl) ⟨_, c_utf16_units H r, WEs_cons O (by rfl) (WE_vd H O 2 (H.n 2) rfl (WEs_nil ⟨ns, rfl, rfl, by omega, ?_⟩))⟩
  unfold badQ at q ⊢
  generalize hb : bad ns = b at q ⊢
  cases b with
  | some n => exact q
  | none =>
  rw [units16_map]
  have hU : ∀ u ∈ (bif mk then [65279] else []) ++ ns.flatMap u16I, 0 ≤ u ∧ u < 65536 := fun u hu => by
    rcases List.mem_append.mp hu with hu | hu
    · cases mk with
      | true => have := List.mem_singleton.mp hu; omega
      | false => cases hu
    · obtain ⟨n, hn, hu⟩ := List.mem_flatMap.mp hu
      exact u16I_ok (bad_none hb n hn) u hu
  have hL : ((bif mk then [65279] else []) ++ ns.flatMap u16I : List Int).length ≤ 1801 := by
    rw [List.length_append]
    have := flat_len (l := ns) fun n _ => u16I_len n
    cases mk <;> simp only [cond_true, cond_false, List.length_nil, List.length_singleton] <;> omega
  have q' : Q (.bytes ((octs ((bif mk then [65279] else []) ++ ns.flatMap u16I) (o == "be")).map toB)) := q
  generalize hA : (bif mk then [65279] else [] : List Int) = A at hU hL q' ⊢
  generalize ns.flatMap u16I = B at hU hL q' ⊢
  refine ⟨rfl, by rw [List.length_map, List.length_map, ← List.length_append]; omega, ?_⟩
  rw [← List.map_append]
  generalize A ++ B = us at hU hL q' ⊢
  generalize hbe : (o == ("be" : Str)) = be at q'
  refine ⟨fun rest g => ∃ ms fs, g = [(11, .v (.str o)), (3, .o (fs.map .int))] ∧ rest = ms.map .int ∧ fs ++ octs ms be = octs us be ∧ fs.length + 2 * ms.length ≤ 4000, ⟨[(11, .v (.str o)), (3, .o [])], ⟨rfl, rfl, trivial⟩, us, [], rfl, rfl, rfl, by simp; omega⟩, fun d rest g ⟨ms, fs, hg, e, b, c⟩ => ?_, fun g ⟨ms, fs, hg, e, b, c⟩ => ?_⟩
  · subst hg
    cases ms with
    | nil => cases e
    | cons m ms =>
      cases e
      rw [List.length_cons] at c
      refine ⟨_, rfl, rfl, WSs_cons O (WS_ex H O 3 (H.n 3) (by rfl) (by rfl) rfl (WX_call H.ok O (by rfl) (by rfl) ⟨_, c_utf16_octets H (r + 4), WEs_cons O (by rfl) (WE_vd H O 10 (H.n 10) rfl (WEs_cons O (by rfl) (WE_vd H O 11 (H.n 11) rfl (WEs_nil ⟨m, o, rfl, rfl, ?_⟩))))⟩))⟩
      rw [hbe]
      refine ⟨by rw [List.length_map, List.length_map, oct16_len]; omega, WSs_nil ⟨[(11, .v (.str o)), (3, .o ((fs ++ oct16 m be).map .int))], ⟨rfl, ?_, trivial⟩, ms, fs ++ oct16 m be, rfl, rfl, ?_, ?_⟩⟩
      · rw [List.map_append]; rfl
      · rw [List.append_assoc]; exact b
      · rw [List.length_append, oct16_len]; omega
  · cases ms with
    | cons _ _ => cases e
    | nil =>
      subst hg
      have b' : fs ++ [] = octs us be := b
      rw [List.append_nil] at b'
      refine WSs_cons O (WS_ret O (WE_bi H.ok O (f := 1) (by rfl) (by rfl) (WE_vd H O 3 (H.n 3) rfl ⟨fs, rfl, by omega, fun n hn => ?_, ?_⟩)))
      · rw [b'] at hn
        obtain ⟨u, hu, hn⟩ := List.mem_flatMap.mp hn
        exact oct16_ok be (hU u hu) n hn
      · rw [← b'] at q'; exact q'
end
end Mine
end
section
-- P18
set_option linter.unusedVariables false
set_option maxRecDepth 100000
namespace Mine
open PySem PySem.Calls PyProof.Rows PySem.W
noncomputable def row32 (n : Int) : List Int := [0, n.fdiv (2 ^ (16 : Int).toNat), Builtin.bitAnd (n.fdiv (2 ^ (8 : Int).toNat)) 255, Builtin.bitAnd n 255]
noncomputable def oct32 (n : Int) (be : Bool) : List Int := bif be then row32 n else (row32 n).reverse
theorem row32_eq (n : Int) : row32 n = [0, n / 65536, n / 256 % 256, n % 256] := by
  unfold row32
  rw [bitAnd_m8, bitAnd_m8, show (2 : Int) ^ (8 : Int).toNat = 256 by decide, show (2 : Int) ^ (16 : Int).toNat = 65536 by decide, fdiv_ediv _ (by decide), fdiv_ediv _ (by decide)]
theorem oct32_len (u : Int) (be : Bool) : (oct32 u be).length = 4 := by unfold oct32; cases be <;> rfl
theorem oct32_ok {u : Int} (be : Bool) (h : 0 ≤ u ∧ u ≤ 1114111) : ∀ n ∈ oct32 u be, 0 ≤ n ∧ n < 256 := fun n hn => by
  have hn' : n ∈ row32 u := by
    unfold oct32 at hn
    cases be with
    | true => exact hn
    | false => exact List.mem_reverse.mp hn
  rw [row32_eq] at hn'
  rcases List.mem_cons.mp hn' with e | hn
  · omega
  rcases List.mem_cons.mp hn with e | hn
  · omega
  rcases List.mem_cons.mp hn with e | hn
  · omega
  have := List.mem_singleton.mp hn; omega
noncomputable def octs32 (us : List Int) (be : Bool) : List Int := us.flatMap fun u => oct32 u be
noncomputable def enc32 (ns : List Int) (be mk : Bool) : List UInt8 := (octs32 ((bif mk then [65279] else []) ++ ns) be).map toB
section
variable {W : Wd} (H : Bh W)
include H
theorem c_encode_utf32 (r : Nat) : FnOk W (r + 5) "encode_utf32" (sp_enc enc32) := by
  refine fnC H (i := 33) (fa := 189) (c := 188) (by rfl) (by rfl) (by rfl) (by rfl) (by rfl) (by rfl) (by decide +kernel) (by rfl) (by decide +kernel) fun ds kds Q X h => ?_
  obtain ⟨ns, o, mk, ha, hl, q⟩ := h
  refine ⟨_, bindG (xs := [2, 11, 14]) (ds' := [.list (ns.map .int), .str o, .bool mk]) (show ∀ i ∈ [2, 11, 14], i < 128 ∧ (stScope (stAt 33)).names.lookup (nmOf i) = some .local by decide +kernel) (by decide) rfl (fun s V vs kvs hs dv dk => ?_), fun L Y frs O => ?_⟩
  · have hd := hs _ _ (H.K _ _ (show (myK W.w.params).lookup 182 = some _ from rfl))
    rcases ha with ⟨rfl, rfl, rfl, rfl⟩ | ⟨rfl, rfl, rfl⟩ | ⟨rfl, rfl, rfl⟩
    · cases dk
      obtain ⟨x, rfl, d1⟩ := den1 dv
      exact ⟨[x, _, _], BindsTo.of_defaults rfl hd rfl (by rfl) (by rfl), .cons d1 (.cons (.str _ _) (.cons (.bool _) .nil))⟩
    · cases dk
      obtain ⟨x, y, rfl, d1, d2⟩ := den2 dv
      exact ⟨[x, y, _], BindsTo.of_defaults rfl hd rfl (by rfl) (by rfl), .cons d1 (.cons d2 (.cons (.bool _) .nil))⟩
    · obtain ⟨v, rfl, dk1⟩ := kwd1 dk
      obtain ⟨x, y, rfl, d1, d2⟩ := den2 dv
      exact ⟨[x, y, v], BindsTo.of_defaults rfl hd rfl (by rfl) (by rfl), .cons d1 (.cons d2 (.cons dk1 .nil))⟩
  refine WSs_cons O (WS_exp O (by rfl) (WX_call H.ok O (by rfl) (by rfl) ⟨_, c_check H r, WEs_cons O (by rfl) (WE_vd H O 2 (H.n 2) rfl (WEs_nil ⟨ns, rfl, rfl, ?_⟩))⟩))
  unfold badQ at q
  generalize hb : bad ns = b at q ⊢
  cases b with
  | some n => exact q
  | none =>
  refine WSs_cons O (WS_asgL H.ok O (i := 3) (sto 3 (by decide) (by rfl)) (by rfl) (WEs_nil ?_))
  refine WSs_cons O (WS_for H.ok O dFx_top (Tgt.one (i := 1)) (sto1 1 (by decide) (by rfl)) (fun _ => rfl) (WIt_seq (i := 1) O (WE_bin O (WX.cut (Q' := fun x => x = .cl (.list ((bif mk then [65279] else []).map .int))) (X' := fun _ => False) (WE_ife O (WT_val O (WE_vd H O 14 (H.n 14) rfl ?_) (by rfl))) (fun x hx => ?_) fun _ h => h.elim))))
  · refine And.intro (fun h => WE_lst O (by rfl) (WEs_cons O (by rfl) (WE_gi H O (by rfl) (by rfl) (by decide +kernel) (WEs_nil ?_)))) fun h => WE_lst O (by rfl) (WEs_nil ?_)
    · rw [show mk = true from h]; rfl
    · rw [show mk = false from h]; rfl
  subst hx
  refine WE_bi H.ok O (f := 2) (by rfl) (by rfl) (WE_vd H O 2 (H.n 2) rfl ⟨by rw [List.length_map]; omega, ?_⟩)
  have hU : ∀ u ∈ (bif mk then [65279] else []) ++ ns, 0 ≤ u ∧ u ≤ 1114111 := fun u hu => by
    rcases List.mem_append.mp hu with hu | hu
    · cases mk with
      | true => have := List.mem_singleton.mp hu; omega
      | false => cases hu
    · have := scal_iff.mp (bad_none hb u hu); omega
  have hL : ((bif mk then [65279] else []) ++ ns : List Int).length ≤ 901 := by
    rw [List.length_append]
    cases mk <;> simp only [cond_true, cond_false, List.length_nil, List.length_singleton] <;> omega
  have q' : Q (.bytes ((octs32 ((bif mk then [65279] else []) ++ ns) (o == "be")).map toB)) := q
  generalize hA : (bif mk then [65279] else [] : List Int) = A at hU hL q' ⊢
  refine ⟨rfl, by rw [List.length_map, List.length_map, ← List.length_append]; omega, ?_⟩
  rw [← List.map_append]
  generalize A ++ ns = us at hU hL q' ⊢
  generalize hbe : (o == ("be" : Str)) = be at q'
  refine ⟨fun rest g => ∃ ms fs, g = [(11, .v (.str o)), (3, .o (fs.map .int))] ∧ rest = ms.map .int ∧ fs ++ octs32 ms be = octs32 us be ∧ fs.length + 4 * ms.length ≤ 4000, ⟨[(11, .v (.str o)), (3, .o [])], ⟨rfl, rfl, trivial⟩, us, [], rfl, rfl, rfl, by simp; omega⟩, fun d rest g ⟨ms, fs, hg, e, b, c⟩ => ?_, fun g ⟨ms, fs, hg, e, b, c⟩ => ?_⟩
  · subst hg
    cases ms with
    | nil => cases e
    | cons m ms =>
      cases e
      rw [List.length_cons] at c
      have fin : ∀ (R X : List D), X = (oct32 m be).map .int → ((fs.map WData.int).length + X.length ≤ 4096 ∧ ∃ g₁, Sub g₁ (G.set (G.set (G.sets [(11, .v (.str o)), (3, .o (fs.map .int))] [1] [.int m]) 17 (.v (.list R))) 3 (.o (fs.map .int ++ X))) ∧ ∃ ms' fs', g₁ = [(11, .v (.str o)), (3, .o (fs'.map .int))] ∧ ms.map WData.int = ms'.map .int ∧ fs' ++ octs32 ms' be = octs32 us be ∧ fs'.length + 4 * ms'.length ≤ 4000) := fun R X hX => by
        subst hX
        refine ⟨by rw [List.length_map, List.length_map, oct32_len]; omega, [(11, .v (.str o)), (3, .o ((fs ++ oct32 m be).map .int))], ⟨rfl, ?_, trivial⟩, ms, fs ++ oct32 m be, rfl, rfl, ?_, ?_⟩
        · rw [List.map_append]; rfl
        · rw [List.append_assoc]; exact b
        · rw [List.length_append, oct32_len]; omega
      refine ⟨_, rfl, rfl, WSs_cons O (WS_asg H.ok O (i := 17) (sto 17 (by decide) (by rfl)) (by rfl) (WE_lst O (by rfl) (WEs_cons O (by rfl) (WE_i (WEs_cons O (by rfl) (WE_bin O (WE_vd H O 1 (H.n 1) rfl (WE_i ⟨by decide, ?_⟩))))))))⟩
      refine WEs_cons O (by rfl) (WE_bin O (WE_bin O (WE_vd H O 1 (H.n 1) rfl (WE_i ⟨by decide, WE_i ?_⟩))))
      refine WEs_cons O (by rfl) (WE_bin O (WE_vd H O 1 (H.n 1) rfl (WE_i (WEs_nil ?_))))
      refine WSs_cons O (WS_ex H O 3 (H.n 3) (by rfl) (by rfl) rfl (WE_ife O (WT_cmp O (by rfl) (WE_vd H O 11 (H.n 11) rfl (WE_gs H O (by rfl) (by rfl) (by decide +kernel) ?_)))))
      refine And.intro (fun h => WE_vd H O 17 (H.n 17) rfl ?_) fun h => WE_slR O (WE_vd H O 17 (H.n 17) rfl ⟨show 4 ≤ 4096 by decide, ?_⟩)
      · have hb' : be = true := by rw [← hbe]; exact h
        obtain ⟨z, g₁, hs, hm⟩ := fin ((row32 m).map .int) ((row32 m).map .int) (by unfold oct32; rw [hb', cond_true])
        exact ⟨z, WSs_nil ⟨g₁, hs, hm⟩⟩
      · have hb' : be = false := by rw [← hbe]; exact h
        obtain ⟨z, g₁, hs, hm⟩ := fin ((row32 m).map .int) ((row32 m).map .int).reverse (by unfold oct32; rw [hb', cond_false, List.map_reverse])
        exact ⟨z, WSs_nil ⟨g₁, hs, hm⟩⟩
  · cases ms with
    | cons _ _ => cases e
    | nil =>
      subst hg
      have b' : fs ++ [] = octs32 us be := b
      rw [List.append_nil] at b'
      refine WSs_cons O (WS_ret O (WE_bi H.ok O (f := 1) (by rfl) (by rfl) (WE_vd H O 3 (H.n 3) rfl ⟨fs, rfl, by omega, fun n hn => ?_, ?_⟩)))
      · rw [b'] at hn
        obtain ⟨u, hu, hn⟩ := List.mem_flatMap.mp hn
        exact oct32_ok be (hU u hu) n hn
      · rw [← b'] at q'; exact q'
end
end Mine
end
section
-- P19
set_option linter.unusedVariables false
set_option maxRecDepth 100000
namespace Mine
open PySem PySem.Calls PyProof.Rows PySem.W
/-- the digits by 256, the greatest first -/
noncomputable def dig : Nat → Int → List Int → List Int
  | 0, _, acc => acc
  | k + 1, n, acc => dig k (n.fdiv 256) (n.fmod 256 :: acc)
noncomputable def putI (u : Int) (n : Nat) (be : Bool) : List Int := bif be then dig n u [] else (dig n u []).reverse
noncomputable def put (u : Int) (n : Nat) (be : Bool) : List UInt8 := (putI u n be).map toB
theorem dig_len : ∀ (k : Nat) (n : Int) (acc : List Int), (dig k n acc).length = k + acc.length
  | 0, _, _ => by unfold dig; omega
  | k + 1, n, acc => by unfold dig; rw [dig_len k, List.length_cons]; omega
theorem dig_ok : ∀ (k : Nat) (n : Int) (acc : List Int), (∀ x ∈ acc, 0 ≤ x ∧ x < 256) → ∀ x ∈ dig k n acc, 0 ≤ x ∧ x < 256
  | 0, _, _, h => h
  | k + 1, n, acc, h => dig_ok k _ _ fun x hx => by
    rcases List.mem_cons.mp hx with rfl | hx
    · rw [fmod_emod _ (by decide)]; omega
    · exact h x hx
theorem putI_ok (u : Int) (n : Nat) (be : Bool) : (∀ x ∈ putI u n be, 0 ≤ x ∧ x < 256) ∧ (putI u n be).length = n := by
  have h := dig_ok n u [] (fun _ h => nomatch h)
  have l := dig_len n u []
  unfold putI
  cases be with
  | true => exact ⟨h, l⟩
  | false => exact ⟨fun x hx => h x (List.mem_reverse.mp hx), by rw [cond_false, List.length_reverse]; exact l⟩
noncomputable def sp_put : Spec := fun ds kds Q X => ∃ (u : Int) (n : Nat) (o : Str), ds = [.int u, .int n, .str o] ∧ kds = [] ∧ (n = 2 ∨ n = 4) ∧ Q (.bytes (put u n (o == "be")))
section
variable {W : Wd} (H : Bh W)
include H
theorem c_put (r : Nat) : FnOk W (r + 1) "_law_put" sp_put := by
  refine fnC H (i := 41) (fa := 228) (c := 227) (by rfl) (by rfl) (by rfl) (by rfl) (by rfl) (by rfl) (by decide +kernel) (by rfl) (by decide +kernel) fun ds kds Q X h => ?_
  obtain ⟨u, n, o, rfl, rfl, hn, q⟩ := h
  have hr : rngN 0 (n : Int) 1 = n := by rcases hn with rfl | rfl <;> decide
  have hn4 : (n : Int) ≤ 4 := by omega
  have hp := putI_ok u n (o == "be")
  unfold put putI at q
  unfold putI at hp
  refine ⟨_, bindN (xs := [0, 18, 11]) H.nm (show ∀ i ∈ [0, 18, 11], i < 128 ∧ (stScope (stAt 41)).names.lookup (nmOf i) = some .local by decide +kernel) (by decide) rfl (three fun x y z => by rfl), fun L Y frs O => ?_⟩
  refine WSs_cons O (WS_asg H.ok O (i := 3) (sto 3 (by decide) (by rfl)) (by rfl) (WE_lst O (by rfl) (WEs_nil ?_)))
  refine WSs_cons O (WS_for H.ok O dFx_top (Tgt.one (i := 19)) (sto1 19 (by decide) (by rfl)) (fun _ => rfl) (WIt_rng1 H.ok O (i := 19) (by rfl) (by rfl) (WE_vd H O 18 (H.n 18) rfl ⟨by omega, by omega, ?_⟩)))
  rw [hr]
  refine ⟨fun rest g => ∃ j a u' acc, g = [(0, .v (.int u')), (11, .v (.str o)), (3, .v (.list (acc.map .int)))] ∧ rest = rngL a 1 j ∧ dig j u' acc = dig n u [] ∧ acc.length + j ≤ 4, ⟨[(0, .v (.int u)), (11, .v (.str o)), (3, .v (.list []))], ⟨rfl, rfl, rfl, trivial⟩, n, 0, u, [], rfl, rfl, rfl, by simp; omega⟩, fun d rest g ⟨j, a, u', acc, hg, e, b, c⟩ => ?_, fun g ⟨j, a, u', acc, hg, e, b, c⟩ => ?_⟩
  · subst hg
    cases j with
    | zero => cases e
    | succ j =>
      cases e
      refine ⟨_, rfl, rfl, WSs_cons O (WS_asg H.ok O (i := 3) (sto 3 (by decide) (by rfl)) (by rfl) (WE_bin O (WE_lst O (by rfl) (WEs_cons O (by rfl) (WE_bin O (WE_vd H O 0 (H.n 0) rfl (WE_i ⟨by decide, WEs_nil ?_⟩)))))))⟩
      refine WE_vd H O 3 (H.n 3) rfl ⟨rfl, by rw [List.length_map]; show 1 + acc.length ≤ 4096; omega, ?_⟩
      refine WSs_cons O (WS_asg H.ok O (i := 0) (sto 0 (by decide) (by rfl)) (by rfl) (WE_bin O (WE_vd H O 0 (H.n 0) rfl (WE_i ⟨by decide, by decide, ?_⟩))))
      exact WSs_nil ⟨[(0, .v (.int (u'.fdiv 256))), (11, .v (.str o)), (3, .v (.list ((u'.fmod 256 :: acc).map .int)))], ⟨rfl, rfl, rfl, trivial⟩, j, a + 1, _, _, rfl, rfl, b, by rw [List.length_cons]; omega⟩
  · cases j with
    | succ j => cases e
    | zero =>
      subst hg
      have b' : acc = dig n u [] := b
      rw [← b'] at q hp
      refine WSs_cons O (WS_ret O (WE_bi H.ok O (f := 1) (by rfl) (by rfl) (WE_ife O (WT_cmp O (by rfl) (WE_vd H O 11 (H.n 11) rfl (WE_s ?_))))))
      refine And.intro (fun h => ?_) fun h => ?_
      · rw [show (o == ("be" : Str)) = true from h, cond_true] at q hp
        exact WE_vd H O 3 (H.n 3) rfl ⟨acc, rfl, by omega, hp.1, q⟩
      · rw [show (o == ("be" : Str)) = false from h, cond_false] at q hp
        refine WE_slR O (WE_vd H O 3 (H.n 3) rfl ⟨by rw [List.length_map]; omega, acc.reverse, ?_, by rw [List.length_reverse]; omega, hp.1, q⟩)
        show WData.list _ = _
        rw [List.map_reverse]
end
end Mine
end
section
-- P20
set_option linter.unusedVariables false
set_option maxRecDepth 100000
namespace Mine
open PySem PySem.Calls PyProof.Rows PySem.W
noncomputable def numC : List UInt8 → Int → Int
  | [], x => x
  | b :: bs, x => numC bs (256 * x + bi b)
noncomputable def unitAt (l : List UInt8) (n : Nat) (be : Bool) (a : Int) : Int := numC (bif be then cut l (some a) (some (a + n)) else (cut l (some a) (some (a + n))).reverse) 0
noncomputable def unitsR (l : List UInt8) (n : Nat) (be : Bool) : Nat → Int → List Int
  | 0, _ => []
  | j + 1, a => unitAt l n be a :: unitsR l n be j (a + n)
/-- the units of some octets -/
noncomputable def unitsI (l : List UInt8) (n : Nat) (be : Bool) : List Int := unitsR l n be (l.length / n) 0
noncomputable def sp_units : Spec := fun ds kds Q X => ∃ (l : List UInt8) (n : Nat) (o : Str), ds = [.bytes l, .int n, .str o] ∧ kds = [] ∧ (n = 2 ∨ n = 4) ∧ l.length ≤ 4000 ∧ Q (.list ((unitsI l n (o == "be")).map .int))
theorem rng_cnt (l : List UInt8) (n : Nat) (hn : n = 2 ∨ n = 4) : rngN 0 ((l.length : Int) - n + 1) n = l.length / n := by
  unfold rngN Builtin.Range.rangeSize
  rcases hn with rfl | rfl <;> simp <;> omega
theorem cut_le (l : List UInt8) (a : Int) (n : Nat) : (cut l (some a) (some (a + n))).length ≤ l.length := by
  unfold cut
  rw [List.length_drop, List.length_take]; omega
section
variable {W : Wd} (H : Bh W)
include H
theorem c_units (r : Nat) : FnOk W (r + 1) "_law_units" sp_units := by
  refine fnC H (i := 42) (fa := 235) (c := 234) (by rfl) (by rfl) (by rfl) (by rfl) (by rfl) (by rfl) (by decide +kernel) (by rfl) (by decide +kernel) fun ds kds Q X h => ?_
  obtain ⟨l, n, o, rfl, rfl, hn, hl, q⟩ := h
  have hr := rng_cnt l n hn
  have hn4 : 0 < (n : Int) ∧ (n : Int) ≤ 4 := by omega
  unfold unitsI at q
  generalize hbe : (o == ("be" : Str)) = be at q
  have hd : l.length / n ≤ 4000 := Nat.le_trans (Nat.div_le_self _ _) hl
  refine ⟨_, bindN (xs := [12, 18, 11]) H.nm (show ∀ i ∈ [12, 18, 11], i < 128 ∧ (stScope (stAt 42)).names.lookup (nmOf i) = some .local by decide +kernel) (by decide) rfl (three fun x y z => by rfl), fun L Y frs O => ?_⟩
  refine WSs_cons O (WS_asgL H.ok O (i := 3) (sto 3 (by decide) (by rfl)) (by rfl) (WEs_nil ?_))
  refine WSs_cons O (WS_for H.ok O dFx_top (Tgt.one (i := 13)) (sto1 13 (by decide) (by rfl)) (fun _ => rfl) (WIt_rng3 H.ok O (i := 13) (by rfl) (by rfl) (by rfl) (by rfl) (WE_i (WE_bin O (WE_bin O (WE_bi H.ok O (f := 0) (by rfl) (by rfl) (WE_vd H O 12 (H.n 12) rfl ⟨by omega, WE_vd H O 18 (H.n 18) rfl ?_⟩)))))))
  refine WE_i ?_
  refine WE_vd H O 18 (H.n 18) rfl ⟨hn4.1, by omega, by omega, by omega, by omega, by omega, ?_⟩
  rw [hr]
  generalize l.length / n = m at q hd ⊢
  refine ⟨fun rest g => ∃ j a fs, g = [(12, .v (.bytes l)), (18, .v (.int n)), (11, .v (.str o)), (3, .o (fs.map .int))] ∧ rest = rngL a n j ∧ fs ++ unitsR l n be j a = unitsR l n be m 0 ∧ 0 ≤ a ∧ fs.length + j ≤ 4000, ⟨[(12, .v (.bytes l)), (18, .v (.int n)), (11, .v (.str o)), (3, .o [])], ⟨rfl, rfl, rfl, rfl, trivial⟩, m, 0, [], rfl, rfl, rfl, by omega, by simp; omega⟩, fun d rest g ⟨j, a, fs, hg, e, b, h0, c⟩ => ?_, fun g ⟨j, a, fs, hg, e, b, h0, c⟩ => ?_⟩
  · subst hg
    cases j with
    | zero => cases e
    | succ j =>
      cases e
      have hcl := cut_le l a n
      refine ⟨_, rfl, rfl, WSs_cons O (WS_asg H.ok O (i := 0) (sto 0 (by decide) (by rfl)) (by rfl) (WE_i ?_))⟩
      refine WSs_cons O (WS_for H.ok O dFx_top (Tgt.one (i := 20)) (sto1 20 (by decide) (by rfl)) (fun _ => rfl) (WIt_seq (i := 20) O (WX.cut (Q' := fun x => x = .cl (.bytes (bif be then cut l (some a) (some (a + n)) else (cut l (some a) (some (a + n))).reverse))) (X' := fun _ => False) (WE_ife O (WT_cmp O (by rfl) (WE_vd H O 11 (H.n 11) rfl (WE_s ?_)))) (fun x hx => ?_) fun _ h => h.elim)))
      · refine And.intro (fun h => ?_) fun h => ?_
        · refine WE_slB O (WE_vd H O 12 (H.n 12) rfl (WE_vd H O 13 (H.n 13) rfl (WE_bin O (WE_vd H O 13 (H.n 13) rfl (WE_vd H O 18 (H.n 18) rfl ⟨decide_eq_true h0, decide_eq_true (show 0 ≤ a + n by omega), by omega, ?_⟩)))))
          rw [show be = true from by rw [← hbe]; exact h]; rfl
        · refine WE_slR O (WE_slB O (WE_vd H O 12 (H.n 12) rfl (WE_vd H O 13 (H.n 13) rfl (WE_bin O (WE_vd H O 13 (H.n 13) rfl (WE_vd H O 18 (H.n 18) rfl ⟨decide_eq_true h0, decide_eq_true (show 0 ≤ a + n by omega), by omega, ?_⟩))))))
          refine ⟨by omega, ?_⟩
          rw [show be = false from by rw [← hbe]; exact h]; rfl
      subst hx
      have b1 : fs ++ (unitAt l n be a :: unitsR l n be j (a + n)) = unitsR l n be m 0 := b
      unfold unitAt at b1
      generalize (bif be then cut l (some a) (some (a + n)) else (cut l (some a) (some (a + n))).reverse) = bs₀ at b1 ⊢
      refine ⟨fun rest g => ∃ bs x, g = [(12, .v (.bytes l)), (18, .v (.int n)), (11, .v (.str o)), (3, .o (fs.map .int)), (0, .v (.int x))] ∧ rest = bs.map (fun c => .int c.toNat) ∧ numC bs x = numC bs₀ 0, ⟨[(12, .v (.bytes l)), (18, .v (.int n)), (11, .v (.str o)), (3, .o (fs.map .int)), (0, .v (.int 0))], ⟨rfl, rfl, rfl, rfl, rfl, trivial⟩, bs₀, 0, rfl, rfl, rfl⟩, fun d rest g ⟨bs, x, hg, e, b⟩ => ?_, fun g ⟨bs, x, hg, e, b⟩ => ?_⟩
      · subst hg
        cases bs with
        | nil => cases e
        | cons c bs =>
          cases e
          refine ⟨_, rfl, rfl, WSs_cons O (WS_asg H.ok O (i := 0) (sto 0 (by decide) (by rfl)) (by rfl) (WE_bin O (WE_bin O (WE_i (WE_vd H O 0 (H.n 0) rfl ⟨by decide, by decide, WE_vd H O 20 (H.n 20) rfl ?_⟩)))))⟩
          exact WSs_nil ⟨[(12, .v (.bytes l)), (18, .v (.int n)), (11, .v (.str o)), (3, .o (fs.map .int)), (0, .v (.int (256 * x + bi c)))], ⟨rfl, rfl, rfl, rfl, rfl, trivial⟩, bs, _, rfl, rfl, b⟩
      · cases bs with
        | cons _ _ => cases e
        | nil =>
          subst hg
          have b2 : x = numC bs₀ 0 := b
          rw [← b2] at b1
          refine WSs_cons O (WS_ap H O 3 (H.n 3) (by rfl) (by rfl) rfl (WE_vd H O 0 (H.n 0) rfl ⟨by rw [List.length_map]; omega, ?_⟩))
          refine WSs_nil ⟨[(12, .v (.bytes l)), (18, .v (.int n)), (11, .v (.str o)), (3, .o ((fs ++ [x]).map .int))], ⟨rfl, rfl, rfl, ?_, trivial⟩, j, a + n, fs ++ [x], rfl, rfl, ?_, by omega, ?_⟩
          · rw [List.map_append]; rfl
          · rw [List.append_assoc]; exact b1
          · rw [List.length_append, List.length_singleton]; omega
  · cases j with
    | succ j => cases e
    | zero =>
      subst hg
      have b' : fs ++ [] = unitsR l n be m 0 := b
      rw [List.append_nil] at b'
      refine WSs_cons O (WS_ret O (WE_vd H O 3 (H.n 3) rfl ?_))
      rw [← b'] at q; exact q
end
end Mine
end
section
-- P21
set_option linter.unusedVariables false
set_option maxRecDepth 100000
namespace Mine
open PySem PySem.Calls PyProof.Rows PySem.W
theorem WS.sub {W : Wd} {F : Fx} {r : Nat} {g₀ g : G} {t : Sem Flow} {Q : Fl → G → Prop} {X : Exc → G → Prop} (q : Sub g₀ g) (h : WS W F r g₀ t Q X) : WS W F r g t Q X :=
  fun A s own Qs Es hA S hQ hE => h A s own Qs Es hA (S.sub q) hQ hE
theorem getD_int {us : List Int} {k : Nat} (h : k < us.length) : (us.map WData.int).getD ((k : Int)).toNat .none = .int (us.getD k 0) := by
  rw [Int.toNat_natCast, List.getD_eq_getElem?_getD, List.getD_eq_getElem?_getD, List.getElem?_map, List.getElem?_eq_getElem h]; rfl
noncomputable def half (u : Int) : Bool := decide (55296 ≤ u) && decide (u < 57344)
noncomputable def hiU (u : Int) : Bool := decide (55296 ≤ u) && decide (u < 56320)
noncomputable def loU (u : Int) : Bool := decide (56320 ≤ u) && decide (u < 57344)
noncomputable def pairAt (us : List Int) (n k : Nat) : Bool := ((n : Int) == 2) && (hiU (us.getD k 0) && (decide ((k : Int) + 1 < us.length) && loU (us.getD (k + 1) 0)))
noncomputable def wordOf (n : Nat) (u : Int) : Str := bif (n : Int) == 4 then (bif half u then "surrogate" else "beyond") else (bif decide (u < 56320) then "high" else "low")
/-- one turn of the law's reading: the code, what is ill, how many units it took -/
noncomputable def stepR (us : List Int) (n k : Nat) : Int × List (Int × Str) × Nat :=
  bif pairAt us n k then (65536 + 1024 * (us.getD k 0 - 55296) + us.getD (k + 1) 0 - 56320, [], 2) else
  bif half (us.getD k 0) || decide (1114111 < us.getD k 0) then (65533, [((n : Int) * k, wordOf n (us.getD k 0))], 1) else (us.getD k 0, [], 1)
noncomputable def readR (us : List Int) (n : Nat) : Nat → Nat → List Int × List (Int × Str)
  | 0, _ => ([], [])
  | m + 1, k => bif decide (k < us.length) then ((stepR us n k).1 :: (readR us n m (k + (stepR us n k).2.2)).1, (stepR us n k).2.1 ++ (readR us n m (k + (stepR us n k).2.2)).2) else ([], [])
noncomputable def readI (l : List UInt8) (n : Nat) (be : Bool) : List Int × List (Int × Str) :=
  bif ((l.length : Int).fmod n == 0) then readR (unitsI l n be) n (unitsI l n be).length 0 else
    ((readR (unitsI l n be) n (unitsI l n be).length 0).1 ++ [65533], (readR (unitsI l n be) n (unitsI l n be).length 0).2 ++ [((l.length : Int) - (l.length : Int).fmod n, ("odd end" : Str))])
noncomputable abbrev illD (is : List (Int × Str)) : List D := is.map fun x => .tuple [.int x.1, .str x.2]
noncomputable def sp_read : Spec := fun ds kds Q X => ∃ (l : List UInt8) (n : Nat) (o : Str), ds = [.bytes l, .int n, .str o] ∧ kds = [] ∧ (n = 2 ∨ n = 4) ∧ l.length ≤ 4000 ∧ Q (.tuple [.list ((readI l n (o == "be")).1.map .int), .list (illD (readI l n (o == "be")).2)])
theorem readR_succ (us : List Int) (n m k : Nat) : readR us n (m + 1) k = bif decide (k < us.length) then ((stepR us n k).1 :: (readR us n m (k + (stepR us n k).2.2)).1, (stepR us n k).2.1 ++ (readR us n m (k + (stepR us n k).2.2)).2) else ([], []) := rfl
theorem readR_end (us : List Int) (n : Nat) {k : Nat} (h : ¬ k < us.length) : ∀ m, readR us n m k = ([], [])
  | 0 => rfl
  | m + 1 => by unfold readR; rw [decide_eq_false h]; rfl
theorem unitsR_len (l : List UInt8) (n : Nat) (be : Bool) : ∀ j a, (unitsR l n be j a).length = j
  | 0, _ => rfl
  | j + 1, a => by unfold unitsR; rw [List.length_cons, unitsR_len l n be j]
theorem stepR_le (us : List Int) (n k : Nat) : (stepR us n k).2.1.length ≤ 1 ∧ 1 ≤ (stepR us n k).2.2 ∧ (stepR us n k).2.2 ≤ 2 := by
  unfold stepR
  cases pairAt us n k with
  | true => simp
  | false => cases (half (us.getD k 0) || decide (1114111 < us.getD k 0)) <;> simp
section
variable {W : Wd} (H : Bh W)
include H
theorem c_read (r : Nat) : FnOk W (r + 2) "_law_read" sp_read := by
  refine fnC H (i := 43) (fa := 242) (c := 241) (by rfl) (by rfl) (by rfl) (by rfl) (by rfl) (by rfl) (by decide +kernel) (by rfl) (by decide +kernel) fun ds kds Q X h => ?_
  obtain ⟨l, n, o, rfl, rfl, hn, hl, q⟩ := h
  refine ⟨_, bindN (xs := [12, 18, 11]) H.nm (show ∀ i ∈ [12, 18, 11], i < 128 ∧ (stScope (stAt 43)).names.lookup (nmOf i) = some .local by decide +kernel) (by decide) rfl (three fun x y z => by rfl), fun L Y frs O => ?_⟩
  refine WSs_cons O (WS_asg4 H.ok O (a := 21) (b := 22) (c := 23) (d := 19) (by rfl) (fun i hi => ?_) (by decide) (by rfl) (WX_call H.ok O (by rfl) (by rfl) ⟨_, c_units H r, WEs_cons O (by rfl) (WE_vd H O 12 (H.n 12) rfl (WEs_cons O (by rfl) (WE_vd H O 18 (H.n 18) rfl (WEs_cons O (by rfl) (WE_vd H O 11 (H.n 11) rfl (WEs_nil ⟨l, n, o, rfl, rfl, hn, hl, ?_⟩))))))⟩))
  · rcases List.mem_cons.mp hi with rfl | hi
    · exact ⟨by decide, by rfl⟩
    rcases List.mem_cons.mp hi with rfl | hi
    · exact ⟨by decide, by rfl⟩
    rcases List.mem_cons.mp hi with rfl | hi
    · exact ⟨by decide, by rfl⟩
    rw [List.mem_singleton.mp hi]; exact ⟨by decide, by rfl⟩
  have hul : (unitsI l n (o == "be")).length ≤ 2000 := by
    unfold unitsI; rw [unitsR_len]; rcases hn with rfl | rfl <;> omega
  unfold readI at q
  generalize unitsI l n (o == "be") = us at q hul ⊢
  have hn4 : 0 < (n : Int) ∧ (n : Int) ≤ 4 := by omega
  refine WSs_cons O (WS_whl O dFx_top ⟨fun m g => ∃ k cs is, g = [(12, .v (.bytes l)), (18, .v (.int n)), (21, .v (.list (us.map .int))), (22, .o (cs.map .int)), (23, .o (illD is)), (19, .v (.int (k : Nat)))] ∧ us.length ≤ k + m ∧ cs.length + m ≤ us.length ∧ is.length + m ≤ us.length ∧ cs ++ (readR us n m k).1 = (readR us n us.length 0).1 ∧ is ++ (readR us n m k).2 = (readR us n us.length 0).2,
    ⟨us.length, [(12, .v (.bytes l)), (18, .v (.int n)), (21, .v (.list (us.map .int))), (22, .o []), (23, .o []), (19, .v (.int (0 : Nat)))], ⟨rfl, rfl, rfl, rfl, rfl, rfl, trivial⟩, 0, [], [], rfl, by omega, by simp, by simp, rfl, rfl⟩, fun m g hi => ?_⟩)
  obtain ⟨k, cs, is, rfl, hk, hc, hi, e1, e2⟩ := hi
  refine WT_cmp O (by rfl) (WE_vd H O 19 (H.n 19) rfl (WE_bi H.ok O (f := 0) (by rfl) (by rfl) (WE_vd H O 21 (H.n 21) rfl ⟨by rw [List.length_map]; omega, ?_⟩)))
  rw [List.length_map]
  refine And.intro (fun h => ?_) fun h => ?_
  · have h1 : k < us.length := by have := of_decide_eq_true h; omega
    cases m with
    | zero => omega
    | succ m =>
      rw [readR_succ us n m k, decide_eq_true h1, cond_true] at e1 e2
      have hst := stepR_le us n k
      refine WSs_cons O (WS_asg H.ok O (i := 0) (sto 0 (by decide) (by rfl)) (by rfl) (WE_idx O (WE_vd H O 21 (H.n 21) rfl (WE_vd H O 19 (H.n 19) rfl ⟨by omega, by rw [List.length_map]; omega, by rw [List.length_map]; omega, ?_⟩))))
      rw [getD_int h1]
      refine WSs_cons O (WS_asg H.ok O (i := 24) (sto 24 (by decide) (by rfl)) (by rfl) (WX.cut (Q' := fun x => x = .cl (.bool (half (us.getD k 0)))) (X' := fun _ => False) (WE_cmp2 O (by rfl) (WE_i (WE_vd H O 0 (H.n 0) rfl ?_))) (fun x hx => ?_) fun _ h => h.elim))
      · unfold half
        refine And.intro (fun h => WE_i ?_) fun h => ?_
        · rw [show decide (55296 ≤ us.getD k 0) = true from h]; rfl
        · rw [show decide (55296 ≤ us.getD k 0) = false from h]; rfl
      subst hx
      refine WSs_cons O (WS_asg H.ok O (i := 25) (sto 25 (by decide) (by rfl)) (by rfl) (WX.cut (Q' := fun x => x = .cl (.bool (pairAt us n k))) (X' := fun _ => False) (WE_bo (u := true) (WBO_cons O (WE_cmp O (by rfl) (WE_vd H O 18 (H.n 18) rfl (WE_i ?_))))) (fun x hx => ?_) fun _ h => h.elim))
      · unfold pairAt hiU loU
        refine And.intro (fun h => ?_) fun h => ?_ <;> (rw [show ((n : Int) == 2) = _ from h])
        · rw [Bool.true_and]
          refine WBO_cons O (WE_cmp2 O (by rfl) (WE_i (WE_vd H O 0 (H.n 0) rfl ?_)))
          have rest : ∀ b : Bool, b = (decide (55296 ≤ us.getD k 0) && decide (us.getD k 0 < 56320)) → b = false → R.cl (.bool false) = .cl (.bool (decide (55296 ≤ us.getD k 0) && decide (us.getD k 0 < 56320) && (decide ((k : Int) + 1 < us.length) && (decide (56320 ≤ us.getD (k + 1) 0) && decide (us.getD (k + 1) 0 < 57344))))) := fun b e f => by
            rw [← e, f]; rfl
          refine And.intro (fun h => WE_i ?_) fun h => ?_
          · rw [show decide (55296 ≤ us.getD k 0) = true from h] at rest ⊢
            refine And.intro (fun h => ?_) fun h => rest _ rfl h
            rw [show decide (us.getD k 0 < 56320) = true from h, Bool.true_and, Bool.true_and]
            refine WBO_cons O (WE_cmp O (by rfl) (WE_bin O (WE_vd H O 19 (H.n 19) rfl (WE_i (WE_bi H.ok O (f := 0) (by rfl) (by rfl) (WE_vd H O 21 (H.n 21) rfl ⟨by rw [List.length_map]; omega, ?_⟩))))))
            rw [List.length_map]
            refine And.intro (fun h => ?_) fun h => ?_ <;> (rw [show decide ((k : Int) + 1 < us.length) = _ from h])
            · have h2 : k + 1 < us.length := by have := of_decide_eq_true h; omega
              rw [Bool.true_and]
              refine WBO_one (WE_cmp2 O (by rfl) (WE_i (WE_idx O (WE_vd H O 21 (H.n 21) rfl (WE_bin O (WE_vd H O 19 (H.n 19) rfl (WE_i ⟨by omega, by rw [List.length_map]; omega, by rw [List.length_map]; omega, ?_⟩)))))))
              rw [show (k : Int) + 1 = ((k + 1 : Nat) : Int) by omega, getD_int h2]
              refine And.intro (fun h => WE_i ?_) fun h => ?_
              · rw [show decide (56320 ≤ us.getD (k + 1) 0) = true from h]; rfl
              · rw [show decide (56320 ≤ us.getD (k + 1) 0) = false from h]; rfl
            · rfl
          · rw [show decide (55296 ≤ us.getD k 0) = false from h] at rest ⊢
            exact And.intro (fun h => nomatch h) fun h => rest false rfl rfl
        · rfl
      subst hx
      have fin : ∀ (kk : Int), kk = ((k + (stepR us n k).2.2 : Nat) : Int) → ∃ g₁, Sub g₁ ([(12, .v (.bytes l)), (18, .v (.int n)), (21, .v (.list (us.map .int))), (22, .o (cs.map .int ++ [.int (stepR us n k).1])), (23, .o (illD is ++ illD (stepR us n k).2.1)), (19, .v (.int kk)), (25, .v (.bool (pairAt us n k)))] : G) ∧ ∃ m', m' < m + 1 ∧ ∃ k' cs' is', g₁ = [(12, .v (.bytes l)), (18, .v (.int n)), (21, .v (.list (us.map .int))), (22, .o (cs'.map .int)), (23, .o (illD is')), (19, .v (.int (k' : Nat)))] ∧ us.length ≤ k' + m' ∧ cs'.length + m' ≤ us.length ∧ is'.length + m' ≤ us.length ∧ cs' ++ (readR us n m' k').1 = (readR us n us.length 0).1 ∧ is' ++ (readR us n m' k').2 = (readR us n us.length 0).2 := fun kk hkk => by
        subst hkk
        refine ⟨[(12, .v (.bytes l)), (18, .v (.int n)), (21, .v (.list (us.map .int))), (22, .o ((cs ++ [(stepR us n k).1]).map .int)), (23, .o (illD (is ++ (stepR us n k).2.1))), (19, .v (.int ((k + (stepR us n k).2.2 : Nat) : Int)))], ⟨rfl, rfl, rfl, ?_, ?_, rfl, trivial⟩, m, Nat.lt_succ_self _, k + (stepR us n k).2.2, cs ++ [(stepR us n k).1], is ++ (stepR us n k).2.1, rfl, by omega, by rw [List.length_append, List.length_singleton]; omega, by rw [List.length_append]; omega, by rw [List.append_assoc]; exact e1, by rw [List.append_assoc]; exact e2⟩
        · rw [List.map_append]; rfl
        · unfold illD; rw [List.map_append]; rfl
      refine WSs_cons O (WS.cut (Q' := fun fl g => fl = .nx ∧ Sub [(12, .v (.bytes l)), (18, .v (.int n)), (21, .v (.list (us.map .int))), (22, .o (cs.map .int ++ [.int (stepR us n k).1])), (23, .o (illD is ++ illD (stepR us n k).2.1)), (19, .v (.int k)), (25, .v (.bool (pairAt us n k)))] g) (WS_ite O (WT_val O (WE_vd H O 25 (H.n 25) rfl ?_) (by rfl))) fun fl g hg => ?_)
      · refine And.intro (fun h => ?_) fun h => ?_ <;> (replace h : pairAt us n k = _ := h)
        · have hs : stepR us n k = (65536 + 1024 * (us.getD k 0 - 55296) + us.getD (k + 1) 0 - 56320, [], 2) := by unfold stepR; rw [h, cond_true]
          have h2 : k + 1 < us.length := by
            unfold pairAt at h
            simp only [Bool.and_eq_true, decide_eq_true_eq] at h
            omega
          rw [hs]
          refine WSs_cons O (WS_ap H O 22 (H.n 22) (by rfl) (by rfl) rfl (WE_bin O (WE_bin O (WE_bin O (WE_i (WE_bin O (WE_i (WE_bin O (WE_vd H O 0 (H.n 0) rfl (WE_i ⟨by decide, by decide, ?_⟩))))))))))
          refine WE_idx O (WE_vd H O 21 (H.n 21) rfl (WE_bin O (WE_vd H O 19 (H.n 19) rfl (WE_i ⟨by omega, by rw [List.length_map]; omega, by rw [List.length_map]; omega, ?_⟩))))
          rw [show (k : Int) + 1 = ((k + 1 : Nat) : Int) by omega, getD_int h2]
          refine WE_i ⟨by rw [List.length_map]; omega, WSs_nil ⟨rfl, rfl, rfl, rfl, rfl, ?_, rfl, rfl, trivial⟩⟩
          show some (Mine.L.o (illD is)) = some (Mine.L.o (illD is ++ []))
          rw [List.append_nil]
        · refine WSs_cons O (WS_ite O (WX.cut (Q' := fun b => b = (half (us.getD k 0) || decide (1114111 < us.getD k 0))) (X' := fun _ => False) (WT_bo (u := false) (WTB_cons O (WT_val O (WE_vd H O 24 (H.n 24) rfl ?_) (by rfl)))) (fun b hb => ?_) fun _ h => h.elim))
          · refine And.intro (fun h => WTB_cons O (WT_cmp O (by rfl) (WE_vd H O 0 (H.n 0) rfl (WE_i ?_)))) fun h => ?_ <;> (rw [show half (us.getD k 0) = _ from h])
            · rw [Bool.false_or]
              refine And.intro (fun h => WTB_nil ?_) fun h => ?_ <;> (rw [show decide (1114111 < us.getD k 0) = _ from h])
            · rfl
          subst hb
          refine And.intro (fun h' => ?_) fun h' => ?_
          · have hs : stepR us n k = (65533, [((n : Int) * k, wordOf n (us.getD k 0))], 1) := by unfold stepR; rw [h, cond_false, h', cond_true]
            rw [hs]
            refine WSs_cons O (WS_ap H O 22 (H.n 22) (by rfl) (by rfl) rfl (WE_i ⟨by rw [List.length_map]; omega, ?_⟩))
            refine WSs_cons O (WS_asg H.ok O (i := 26) (sto 26 (by decide) (by rfl)) (by rfl) (WX.cut (Q' := fun x => x = .cl (.str (bif half (us.getD k 0) then "surrogate" else "beyond"))) (X' := fun _ => False) (WE_ife O (WT_val O (WE_vd H O 24 (H.n 24) rfl ?_) (by rfl))) (fun x hx => ?_) fun _ h => h.elim))
            · refine And.intro (fun h => WE_s ?_) fun h => WE_s ?_ <;> (rw [show half (us.getD k 0) = _ from h]; rfl)
            subst hx
            refine WSs_cons O (WS_ap H O 23 (H.n 23) (by rfl) (by rfl) rfl (WE_tup O (by rfl) (WEs_cons O (by rfl) (WE_bin O (WE_vd H O 18 (H.n 18) rfl (WE_vd H O 19 (H.n 19) rfl ⟨by omega, by omega, WEs_cons O (by rfl) ?_⟩))))))
            refine WX.cut (Q' := fun x => x = .cl (.str (wordOf n (us.getD k 0)))) (X' := fun _ => False) (WE_ife O (WT_cmp O (by rfl) (WE_vd H O 18 (H.n 18) rfl (WE_i ?_)))) (fun x hx => ?_) fun _ h => h.elim
            · unfold wordOf
              refine And.intro (fun h => WE_vd H O 26 (H.n 26) rfl ?_) fun h => WE_ife O (WT_cmp O (by rfl) (WE_vd H O 0 (H.n 0) rfl (WE_i ?_))) <;> (rw [show ((n : Int) == 4) = _ from h])
              · rfl
              · rw [cond_false]
                refine And.intro (fun h => WE_s ?_) fun h => WE_s ?_ <;> (rw [show decide (us.getD k 0 < 56320) = _ from h]; rfl)
            subst hx
            exact WEs_nil ⟨by rw [List.length_map]; omega, WSs_nil (WSs_nil ⟨rfl, rfl, rfl, rfl, rfl, rfl, rfl, rfl, trivial⟩)⟩
          · have hs : stepR us n k = (us.getD k 0, [], 1) := by unfold stepR; rw [h, cond_false, h', cond_false]
            rw [hs]
            refine WSs_cons O (WS_ap H O 22 (H.n 22) (by rfl) (by rfl) rfl (WE_vd H O 0 (H.n 0) rfl ⟨by rw [List.length_map]; omega, WSs_nil (WSs_nil ⟨rfl, rfl, rfl, rfl, rfl, ?_, rfl, rfl, trivial⟩)⟩))
            show some (Mine.L.o (illD is)) = some (Mine.L.o (illD is ++ []))
            rw [List.append_nil]
      obtain ⟨rfl, hg⟩ := hg
      refine WS.sub hg (WSs_cons O (WS_asg H.ok O (i := 19) (sto 19 (by decide) (by rfl)) (by rfl) (WE_bin O (WE_bin O (WE_vd H O 19 (H.n 19) rfl (WE_i (WE_bi H.ok O (f := 5) (by rfl) (by rfl) (WE_vd H O 25 (H.n 25) rfl ?_))))))))
      refine WSs_nil (fin _ ?_)
      unfold stepR
      cases pairAt us n k with
      | true => rw [cond_true]; show (k : Int) + 1 + 1 = ((k + 2 : Nat) : Int); omega
      | false =>
        rw [cond_false]
        cases (half (us.getD k 0) || decide (1114111 < us.getD k 0)) with
        | true => rw [cond_true]; show (k : Int) + 1 + 0 = ((k + 1 : Nat) : Int); omega
        | false => rw [cond_false]; show (k : Int) + 1 + 0 = ((k + 1 : Nat) : Int); omega
  · have hk' : ¬ k < us.length := by have := of_decide_eq_false h; omega
    rw [readR_end us n hk'] at e1 e2
    replace e1 : cs ++ [] = _ := e1
    replace e2 : is ++ [] = _ := e2
    rw [List.append_nil] at e1 e2
    rw [← e1, ← e2] at q
    refine WSs_cons O (WS_ite O (WT_cmp O (by rfl) (WE_bin O (WE_bi H.ok O (f := 0) (by rfl) (by rfl) (WE_vd H O 12 (H.n 12) rfl ⟨by omega, WE_vd H O 18 (H.n 18) rfl ⟨by omega, WE_i (Or.inl ?_)⟩⟩)))))
    refine And.intro (fun h => ?_) fun h => WSs_nil ?_
    · have h' : ((l.length : Int).fmod n == 0) = false := by
        have : (!((l.length : Int).fmod n == 0)) = true := h
        simpa using this
      rw [h', cond_false] at q
      unfold illD at q
      rw [List.map_append, List.map_append] at q
      refine WSs_cons O (WS_ap H O 22 (H.n 22) (by rfl) (by rfl) rfl (WE_i ⟨by rw [List.length_map]; omega, ?_⟩))
      refine WSs_cons O (WS_ap H O 23 (H.n 23) (by rfl) (by rfl) rfl (WE_tup O (by rfl) (WEs_cons O (by rfl) (WE_bin O (WE_bi H.ok O (f := 0) (by rfl) (by rfl) (WE_vd H O 12 (H.n 12) rfl ⟨by omega, WE_bin O (WE_bi H.ok O (f := 0) (by rfl) (by rfl) (WE_vd H O 12 (H.n 12) rfl ⟨by omega, WE_vd H O 18 (H.n 18) rfl ⟨by omega, WEs_cons O (by rfl) (WE_s (WEs_nil ⟨by rw [List.length_map]; omega, ?_⟩))⟩⟩))⟩))))))
      exact WSs_nil (WSs_cons O (WS_ret O (WE_tup O (by rfl) (WEs_cons O (by rfl) (WE_vd H O 22 (H.n 22) rfl (WEs_cons O (by rfl) (WE_vd H O 23 (H.n 23) rfl (WEs_nil q))))))))
    · have h' : ((l.length : Int).fmod n == 0) = true := by
        have : (!((l.length : Int).fmod n == 0)) = false := h
        simpa using this
      rw [h', cond_true, ← e1, ← e2] at q
      exact WSs_cons O (WS_ret O (WE_tup O (by rfl) (WEs_cons O (by rfl) (WE_vd H O 22 (H.n 22) rfl (WEs_cons O (by rfl) (WE_vd H O 23 (H.n 23) rfl (WEs_nil q)))))))
end
end Mine
end
section
-- P22
set_option linter.unusedVariables false
set_option maxRecDepth 100000
namespace Mine
open PySem PySem.Calls PyProof.Rows PySem.W
/-- the law's own octets of a code, of a text -/
noncomputable def wr (n : Nat) (be : Bool) (c : Int) : List UInt8 := bif ((n : Int) == 2) && decide (65535 < c) then put (55296 + (c - 65536).fdiv 1024) 2 be ++ put (56320 + c.fmod 1024) 2 be else put c n be
noncomputable def written (ns : List Int) (n : Nat) (be : Bool) : List UInt8 := ns.flatMap (wr n be)
theorem put_len (u : Int) (n : Nat) (be : Bool) : (put u n be).length = n := by unfold put; rw [List.length_map]; exact (putI_ok u n be).2
theorem wr_len (n : Nat) (hn : n = 2 ∨ n = 4) (be : Bool) (c : Int) : (wr n be c).length ≤ 4 := by
  unfold wr
  cases (((n : Int) == 2) && decide (65535 < c)) with
  | true => rw [cond_true, List.length_append, put_len, put_len]; decide
  | false => rw [cond_false, put_len]; omega
noncomputable def sp_written : Spec := fun ds kds Q X => ∃ (ns : List Int) (n : Nat) (o : Str), ds = [.list (ns.map .int), .int n, .str o] ∧ kds = [] ∧ (n = 2 ∨ n = 4) ∧ ns.length ≤ 900 ∧ Q (.bytes (written ns n (o == "be")))
noncomputable def dec (l : List UInt8) (n : Nat) (o : D) : Sum (List D) (Int × Str) := bif (n : Int) == 2 then decT start16 step16 l o else decT start32 step32 l o
noncomputable def tolD : Sum (List D) (Int × Str) → D | .inl ds => .list ds | .inr x => .tuple [.int x.1, .str x.2]
noncomputable def sp_told : Spec := fun ds kds Q X => ∃ (l : List UInt8) (n : Nat) (o : D), ds = [.bytes l, .int n, o] ∧ kds = [] ∧ isOrd o ∧ l.length ≤ 4000 ∧ Q (tolD (dec l n o))
noncomputable def refD : Option Int → D | some x => .int x | none => .str "written"
noncomputable def sp_refused : Spec := fun ds kds Q X => ∃ (ns : List Int) (n : Nat), ds = [.list (ns.map .int), .int n] ∧ kds = [] ∧ ns.length ≤ 900 ∧ Q (refD (bad ns))
theorem decS_len (f : List UInt8 → Int → Bool → D × Int × Str) (l : List UInt8) (be : Bool) : ∀ m a ds, decS f l be m a = .inl ds → ds.length ≤ m
  | 0, _, _, e => by cases e; exact Nat.le_refl _
  | m + 1, a, ds, e => by
    unfold decS at e
    cases h1 : decide (a < l.length) with
    | false => rw [h1] at e; cases e; exact Nat.zero_le _
    | true =>
      rw [h1, cond_true] at e
      cases h2 : isN (f l a be).1 with
      | true => rw [h2] at e; cases e
      | false =>
        rw [h2, cond_false] at e
        cases h3 : decS f l be m (f l a be).2.1 with
        | inr x => rw [h3] at e; cases e
        | inl d => rw [h3] at e; cases e; have := decS_len f l be m _ d h3; show d.length + 1 ≤ m + 1; omega
section
variable {W : Wd} (H : Bh W)
include H
theorem c_written (r : Nat) : FnOk W (r + 2) "_law_written" sp_written := by
  refine fnC H (i := 44) (fa := 249) (c := 248) (by rfl) (by rfl) (by rfl) (by rfl) (by rfl) (by rfl) (by decide +kernel) (by rfl) (by decide +kernel) fun ds kds Q X h => ?_
  obtain ⟨ns, n, o, rfl, rfl, hn, hl, q⟩ := h
  refine ⟨_, bindN (xs := [2, 18, 11]) H.nm (show ∀ i ∈ [2, 18, 11], i < 128 ∧ (stScope (stAt 44)).names.lookup (nmOf i) = some .local by decide +kernel) (by decide) rfl (three fun x y z => by rfl), fun L Y frs O => ?_⟩
  refine WSs_cons O (WS_asg H.ok O (i := 3) (sto 3 (by decide) (by rfl)) (by rfl) (WE_by ?_))
  refine WSs_cons O (WS_for H.ok O dFx_top (Tgt.one (i := 1)) (sto1 1 (by decide) (by rfl)) (fun _ => rfl) (WIt_seq (i := 1) O (WE_vd H O 2 (H.n 2) rfl ?_)))
  generalize hbe : (o == ("be" : Str)) = be at q
  refine ⟨fun rest g => ∃ ms fs, g = [(18, .v (.int n)), (11, .v (.str o)), (3, .v (.bytes fs))] ∧ rest = ms.map .int ∧ fs ++ written ms n be = written ns n be ∧ fs.length + 4 * ms.length ≤ 4000, ⟨[(18, .v (.int n)), (11, .v (.str o)), (3, .v (.bytes []))], ⟨rfl, rfl, rfl, trivial⟩, ns, [], rfl, rfl, rfl, by simp; omega⟩, fun d rest g ⟨ms, fs, hg, e, b, c⟩ => ?_, fun g ⟨ms, fs, hg, e, b, c⟩ => ?_⟩
  · subst hg
    cases ms with
    | nil => cases e
    | cons m ms =>
      cases e
      rw [List.length_cons] at c
      have hw := wr_len n hn be m
      have fin : ∀ bs, bs = fs ++ wr n be m → ∃ g₁, Sub g₁ (G.set (G.sets [(18, .v (.int n)), (11, .v (.str o)), (3, .v (.bytes fs))] [1] [.int m]) 3 (.v (.bytes bs))) ∧ ∃ ms' fs', g₁ = [(18, .v (.int n)), (11, .v (.str o)), (3, .v (.bytes fs'))] ∧ ms.map WData.int = ms'.map .int ∧ fs' ++ written ms' n be = written ns n be ∧ fs'.length + 4 * ms'.length ≤ 4000 := fun bs hb => by
        subst hb
        exact ⟨[(18, .v (.int n)), (11, .v (.str o)), (3, .v (.bytes (fs ++ wr n be m)))], ⟨rfl, rfl, rfl, trivial⟩, ms, _, rfl, rfl, by rw [List.append_assoc]; exact b, by rw [List.length_append]; omega⟩
      unfold wr at fin
      refine ⟨_, rfl, rfl, WSs_cons O (WS_ite O (WX.cut (Q' := fun b => b = (((n : Int) == 2) && decide (65535 < m))) (X' := fun _ => False) (WT_bo (u := true) (WTB_cons O (WT_cmp O (by rfl) (WE_vd H O 18 (H.n 18) rfl (WE_i ?_))))) (fun b hb => ?_) fun _ h => h.elim))⟩
      · refine And.intro (fun h => WTB_cons O (WT_cmp O (by rfl) (WE_vd H O 1 (H.n 1) rfl (WE_i ?_)))) fun h => ?_ <;> (rw [show ((n : Int) == 2) = _ from h])
        · refine And.intro (fun h => WTB_nil ?_) fun h => ?_ <;> (rw [show decide (65535 < m) = _ from h]; rfl)
        · rfl
      subst hb
      refine And.intro (fun h => ?_) fun h => ?_ <;> (rw [h] at fin)
      · rw [cond_true] at fin
        refine WSs_cons O (WS_asg H.ok O (i := 3) (sto 3 (by decide) (by rfl)) (by rfl) (WE_bin O (WE_bin O (WE_vd H O 3 (H.n 3) rfl ?_))))
        refine WX_call H.ok O (by rfl) (by rfl) ⟨_, c_put H r, WEs_cons O (by rfl) (WE_bin O (WE_i (WE_bin O (WE_bin O (WE_vd H O 1 (H.n 1) rfl (WE_i (WE_i ⟨by decide, by decide, ?_⟩)))))))⟩
        refine WEs_cons O (by rfl) (WE_i (WEs_cons O (by rfl) (WE_vd H O 11 (H.n 11) rfl (WEs_nil ⟨_, 2, o, rfl, rfl, .inl rfl, ?_⟩))))
        rw [hbe]
        refine ⟨rfl, by rw [put_len]; omega, ?_⟩
        refine WX_call H.ok O (by rfl) (by rfl) ⟨_, c_put H r, WEs_cons O (by rfl) (WE_bin O (WE_i (WE_bin O (WE_vd H O 1 (H.n 1) rfl (WE_i ⟨by decide, ?_⟩)))))⟩
        refine WEs_cons O (by rfl) (WE_i (WEs_cons O (by rfl) (WE_vd H O 11 (H.n 11) rfl (WEs_nil ⟨_, 2, o, rfl, rfl, .inl rfl, ?_⟩))))
        rw [hbe]
        refine ⟨rfl, by rw [List.length_append, put_len, put_len]; omega, WSs_nil (WSs_nil (fin _ ?_))⟩
        rw [List.append_assoc]
      · rw [cond_false] at fin
        refine WSs_cons O (WS_asg H.ok O (i := 3) (sto 3 (by decide) (by rfl)) (by rfl) (WE_bin O (WE_vd H O 3 (H.n 3) rfl ?_)))
        refine WX_call H.ok O (by rfl) (by rfl) ⟨_, c_put H r, WEs_cons O (by rfl) (WE_vd H O 1 (H.n 1) rfl (WEs_cons O (by rfl) (WE_vd H O 18 (H.n 18) rfl (WEs_cons O (by rfl) (WE_vd H O 11 (H.n 11) rfl (WEs_nil ⟨_, n, o, rfl, rfl, hn, ?_⟩))))))⟩
        rw [hbe]
        exact ⟨rfl, by rw [put_len]; omega, WSs_nil (WSs_nil (fin _ rfl))⟩
  · cases ms with
    | cons _ _ => cases e
    | nil =>
      subst hg
      have b' : fs ++ [] = written ns n be := b
      rw [List.append_nil] at b'
      rw [← b'] at q
      exact WSs_cons O (WS_ret O (WE_vd H O 3 (H.n 3) rfl q))
theorem c_told (r : Nat) : FnOk W (r + 5) "_law_told" sp_told := by
  refine fnC H (i := 45) (fa := 256) (c := 255) (by rfl) (by rfl) (by rfl) (by rfl) (by rfl) (by rfl) (by decide +kernel) (by rfl) (by decide +kernel) fun ds kds Q X h => ?_
  obtain ⟨l, n, o, rfl, rfl, ho, hl, q⟩ := h
  refine ⟨_, bindN (xs := [12, 18, 11]) H.nm (show ∀ i ∈ [12, 18, 11], i < 128 ∧ (stScope (stAt 45)).names.lookup (nmOf i) = some .local by decide +kernel) (by decide) rfl (three fun x y z => by rfl), fun L Y frs O => ?_⟩
  refine WSs_cons O (WS_asg H.ok O (i := 3) (sto 3 (by decide) (by rfl)) (by rfl) (WE_n ?_))
  refine WSs_cons O (WS_try H.ok O dFx_top (en := 27) (x := 3) (by decide) (by rfl) (by rfl) (fun _ => by rfl) .two (by rfl) (sto 3 (by decide) (by rfl)) (x_BadEncoding H) (by decide) (WSs_cons O (WS_asg H.ok O (i := 3) (sto 3 (by decide) (by rfl)) (by rfl) (WE_bi H.ok O (f := 2) (by rfl) (by rfl) ?_))))
  refine WX.cut (Q' := fun x => ∃ ds, x = .cl (.list ds) ∧ dec l n o = .inl ds) (X' := fun ex => ∃ x, dec l n o = .inr x ∧ ex = ⟨"BadEncoding", .tuple [.int x.1, .str x.2]⟩) (WE_ife O (WT_cmp O (by rfl) (WE_vd H O 18 (H.n 18) rfl (WE_i ?_)))) (fun x hx => ?_) fun ex hx => ?_
  · unfold dec
    refine And.intro (fun h => ?_) fun h => ?_ <;> (rw [show ((n : Int) == 2) = _ from h])
    · refine WX_call H.ok O (by rfl) (by rfl) ⟨_, c_decode_utf16 H (r + 1), WEs_cons O (by rfl) (WE_vd H O 12 (H.n 12) rfl (WEs_cons O (by rfl) (WE_vd H O 11 (H.n 11) rfl (WEs_nil ⟨l, o, rfl, rfl, ho, by omega, ?_⟩))))⟩
      rw [cond_true]
      cases decT start16 step16 l o with
      | inl ds => exact ⟨ds, rfl, rfl⟩
      | inr x => exact ⟨x, rfl, rfl⟩
    · refine WX_call H.ok O (by rfl) (by rfl) ⟨_, c_decode_utf32 H r, WEs_cons O (by rfl) (WE_vd H O 12 (H.n 12) rfl (WEs_cons O (by rfl) (WE_vd H O 11 (H.n 11) rfl (WEs_nil ⟨l, o, rfl, rfl, ho, by omega, ?_⟩))))⟩
      rw [cond_false]
      cases decT start32 step32 l o with
      | inl ds => exact ⟨ds, rfl, rfl⟩
      | inr x => exact ⟨x, rfl, rfl⟩
  · obtain ⟨ds, rfl, e⟩ := hx
    rw [e] at q
    have hd : ds.length ≤ l.length := by
      unfold dec at e
      cases h : ((n : Int) == 2) with
      | true => rw [h] at e; exact decS_len _ _ _ _ _ _ e
      | false => rw [h] at e; exact decS_len _ _ _ _ _ _ e
    exact ⟨by omega, WSs_nil (WSs_cons O (WS_ret O (WE_vd H O 3 (H.n 3) rfl q)))⟩
  · obtain ⟨x, e, rfl⟩ := hx
    rw [e] at q
    exact ⟨rfl, rfl, fun _ => ⟨_, rfl⟩, WSs_cons O (WS_ret O (WE_vd H O 3 (H.n 3) rfl q))⟩
theorem c_refused (r : Nat) : FnOk W (r + 7) "_law_refused" sp_refused := by
  refine fnC H (i := 47) (fa := 270) (c := 269) (by rfl) (by rfl) (by rfl) (by rfl) (by rfl) (by rfl) (by decide +kernel) (by rfl) (by decide +kernel) fun ds kds Q X h => ?_
  obtain ⟨ns, n, rfl, rfl, hl, q⟩ := h
  refine ⟨_, bindN (xs := [2, 18]) H.nm (show ∀ i ∈ [2, 18], i < 128 ∧ (stScope (stAt 47)).names.lookup (nmOf i) = some .local by decide +kernel) (by decide) rfl (two fun x y => by rfl), fun L Y frs O => ?_⟩
  refine WSs_cons O (WS_asg H.ok O (i := 3) (sto 3 (by decide) (by rfl)) (by rfl) (WE_n ?_))
  refine WSs_cons O (WS_try H.ok O dFx_top (en := 27) (x := 3) (w := false) (by decide) (by rfl) (by rfl) (fun h => nomatch h) .one (by rfl) (sto 3 (by decide) (by rfl)) (x_BadCode H) (by decide) (WSs_cons O (WS_asg H.ok O (i := 3) (sto 3 (by decide) (by rfl)) (by rfl) (WE_ife O (WT_cmp O (by rfl) ?_)))))
  refine WX.cut (Q' := fun x => ∃ b, x = .cl (.bytes b) ∧ bad ns = none) (X' := fun ex => ∃ x, bad ns = some x ∧ ex = ⟨"BadCode", .int x⟩) (WE_ife O (WT_cmp O (by rfl) (WE_vd H O 18 (H.n 18) rfl (WE_i ?_)))) (fun x hx => ?_) fun ex hx => ?_
  · have bq : ∀ b, badQ (fun d => ∃ b, R.cl d = .cl (.bytes b) ∧ bad ns = none) (fun ex => ∃ x, bad ns = some x ∧ ex = ⟨"BadCode", .int x⟩) ns (.bytes b) := fun b => by
      unfold badQ
      cases bad ns with
      | none => exact ⟨_, rfl, rfl⟩
      | some x => exact ⟨x, rfl, rfl⟩
    refine And.intro (fun h => ?_) fun h => ?_
    · exact WX_call H.ok O (by rfl) (by rfl) ⟨_, c_encode_utf16 H r, WEs_cons O (by rfl) (WE_vd H O 2 (H.n 2) rfl (WEs_nil ⟨ns, "be", false, .inl ⟨rfl, rfl, rfl, rfl⟩, hl, bq _⟩))⟩
    · exact WX_call H.ok O (by rfl) (by rfl) ⟨_, c_encode_utf32 H (r + 1), WEs_cons O (by rfl) (WE_vd H O 2 (H.n 2) rfl (WEs_nil ⟨ns, "be", false, .inl ⟨rfl, rfl, rfl, rfl⟩, hl, bq _⟩))⟩
  · obtain ⟨b, rfl, e⟩ := hx
    rw [e] at q
    refine WE_n ⟨rfl, And.intro (fun h => nomatch h) fun h => WE_s (WSs_nil (WSs_cons O (WS_ret O (WE_vd H O 3 (H.n 3) rfl q))))⟩
  · obtain ⟨x, e, rfl⟩ := hx
    rw [e] at q
    exact ⟨rfl, rfl, fun h => (nomatch h), WSs_cons O (WS_ret O (WE_vd H O 3 (H.n 3) rfl q))⟩
end
end Mine
end
section
-- N2
set_option linter.unusedVariables false
namespace Mine
open PySem PySem.Calls PyProof.Rows PySem.W
/-- a decoder's step and a turn of the law's reading -/
structure Corr (f : List UInt8 → Int → Bool → D × Int × Str) (l : List UInt8) (be : Bool) (d : Nat) (us : List Int) (n : Nat) : Prop where
  n0 : 0 < n
  len : ∃ t, d + n * us.length + t = l.length ∧ t < n
  go : ∀ k, k < us.length → (f l (d + n * k : Nat) be).2.1 = ((d + n * (k + (stepR us n k).2.2) : Nat) : Int) ∧
    (((stepR us n k).2.1 = [] ∧ (f l (d + n * k : Nat) be).1 = .int (stepR us n k).1) ∨ ((f l (d + n * k : Nat) be).1 = .none ∧ (stepR us n k).1 = 65533 ∧ (stepR us n k).2.1 = [((n : Int) * k, (f l (d + n * k : Nat) be).2.2)]))
  fin : d + n * us.length < l.length → f l (d + n * us.length : Nat) be = ((.none, (l.length : Int), "odd end") : D × Int × Str)
theorem stepR_in (us : List Int) (n k : Nat) (h : k < us.length) : k + (stepR us n k).2.2 ≤ us.length ∧ 1 ≤ (stepR us n k).2.2 := by
  unfold stepR
  cases hp : pairAt us n k with
  | true =>
    have : (k : Int) + 1 < us.length := by
      unfold pairAt at hp
      simp only [Bool.and_eq_true, decide_eq_true_eq] at hp
      exact hp.2.2.1
    exact ⟨show k + 2 ≤ _ by omega, show 1 ≤ 2 by decide⟩
  | false =>
    cases (half (us.getD k 0) || decide (1114111 < us.getD k 0)) with
    | true => exact ⟨show k + 1 ≤ _ by omega, show 1 ≤ 1 by decide⟩
    | false => exact ⟨show k + 1 ≤ _ by omega, show 1 ≤ 1 by decide⟩
noncomputable def exC (l : List UInt8) (d n c : Nat) : List Int := if d + n * c < l.length then [65533] else []
noncomputable def exI (l : List UInt8) (d n c : Nat) : List (Int × Str) := if d + n * c < l.length then [((n * c : Nat), "odd end")] else []
noncomputable def toSum (d : Nat) (cs : List Int) : List (Int × Str) → Sum (List D) (Int × Str)
  | [] => .inl (cs.map .int)
  | (a, w) :: _ => .inr (a + d, w)
section
variable {f : List UInt8 → Int → Bool → D × Int × Str} {l : List UInt8} {be : Bool} {d n : Nat} {us : List Int}
theorem Corr.lt (K : Corr f l be d us n) {k : Nat} (h : k < us.length) : d + n * k < l.length := by
  obtain ⟨t, e, _⟩ := K.len
  have := Nat.mul_lt_mul_of_pos_left h K.n0
  omega
theorem Corr.rep (K : Corr f l be d us n) : ∀ (M m k : Nat), k ≤ us.length → l.length ≤ d + n * k + M → us.length ≤ k + m →
    decR f l be M (d + n * k : Nat) = ((readR us n m k).1 ++ exC l d n us.length).map .int := by
  intro M
  induction M with
  | zero =>
    intro m k hk hM hm
    have : ¬ k < us.length := fun h => by have := K.lt h; omega
    have ek : k = us.length := by omega
    rw [readR_end us n this]
    unfold exC
    rw [if_neg (by rw [← ek]; omega)]
    rfl
  | succ M ih =>
    intro m k hk hM hm
    by_cases h : k < us.length
    · have ha := K.lt h
      obtain ⟨g1, g2⟩ := K.go k h
      obtain ⟨s1, s2⟩ := stepR_in us n k h
      cases m with
      | zero => omega
      | succ m =>
        rw [readR_succ, decide_eq_true h, cond_true]
        unfold decR
        rw [decide_eq_true (show ((d + n * k : Nat) : Int) < l.length by omega), cond_true, g1]
        have hle : n * (k + 1) ≤ n * (k + (stepR us n k).2.2) := Nat.mul_le_mul_left n (by omega)
        have hn0 := K.n0
        rw [ih m _ s1 (by rw [Nat.mul_add] at hle; omega) (by omega)]
        have : orRep (f l (d + n * k : Nat) be).1 = .int (stepR us n k).1 := by
          rcases g2 with ⟨_, e⟩ | ⟨e, e', _⟩
          · rw [e]; rfl
          · rw [e, e']; rfl
        rw [this]; rfl
    · have ek : k = us.length := by omega
      rw [readR_end us n h]
      unfold exC
      unfold decR
      by_cases hl : d + n * us.length < l.length
      · rw [if_pos hl, ek, decide_eq_true (show ((d + n * us.length : Nat) : Int) < l.length by omega), cond_true, K.fin hl]
        show WData.int 65533 :: decR f l be M l.length = _
        rw [decR_end f l be (by omega)]; rfl
      · rw [if_neg hl, ek, decide_eq_false (show ¬ ((d + n * us.length : Nat) : Int) < l.length by omega)]; rfl
theorem tel_sum (d : Nat) (c : Int) (cs : List Int) (is : List (Int × Str)) : tel [.int c] (toSum d cs is) = toSum d (c :: cs) is := by
  cases is with
  | nil => rfl
  | cons x is => rfl
theorem Corr.str (K : Corr f l be d us n) : ∀ (M m k : Nat), k ≤ us.length → l.length ≤ d + n * k + M → us.length ≤ k + m →
    decS f l be M (d + n * k : Nat) = toSum d ((readR us n m k).1 ++ exC l d n us.length) ((readR us n m k).2 ++ exI l d n us.length) := by
  intro M
  induction M with
  | zero =>
    intro m k hk hM hm
    have : ¬ k < us.length := fun h => by have := K.lt h; omega
    have ek : k = us.length := by omega
    rw [readR_end us n this]
    unfold exC exI
    rw [if_neg (by rw [← ek]; omega), if_neg (by rw [← ek]; omega)]
    rfl
  | succ M ih =>
    intro m k hk hM hm
    by_cases h : k < us.length
    · have ha := K.lt h
      obtain ⟨g1, g2⟩ := K.go k h
      obtain ⟨s1, s2⟩ := stepR_in us n k h
      cases m with
      | zero => omega
      | succ m =>
        rw [readR_succ, decide_eq_true h, cond_true]
        unfold decS
        rw [decide_eq_true (show ((d + n * k : Nat) : Int) < l.length by omega), cond_true]
        have hle : n * (k + 1) ≤ n * (k + (stepR us n k).2.2) := Nat.mul_le_mul_left n (by omega)
        have hn0 := K.n0
        rcases g2 with ⟨e0, e⟩ | ⟨e, e', e0⟩
        · rw [g1, ih m _ s1 (by rw [Nat.mul_add] at hle; omega) (by omega), e, e0]
          show tel _ _ = _
          rw [tel_sum]; rfl
        · rw [e, e0]
          show Sum.inr _ = Sum.inr _
          congr 2
          rw [Int.natCast_add, Int.natCast_mul, Int.add_comm]
    · have ek : k = us.length := by omega
      rw [readR_end us n h]
      unfold exC exI
      unfold decS
      by_cases hl : d + n * us.length < l.length
      · rw [if_pos hl, if_pos hl, ek, decide_eq_true (show ((d + n * us.length : Nat) : Int) < l.length by omega), cond_true, K.fin hl]
        show Sum.inr _ = Sum.inr _
        congr 2
        rw [Int.natCast_add, Int.add_comm]
      · rw [if_neg hl, if_neg hl, ek, decide_eq_false (show ¬ ((d + n * us.length : Nat) : Int) < l.length by omega)]; rfl
end
end Mine
end
section
-- N3
set_option linter.unusedVariables false
set_option linter.unusedSimpArgs false
namespace Mine
open PySem PySem.Calls PyProof.Rows PySem.W
theorem cutN (l : List UInt8) (i n : Nat) : cut l (some (i : Int)) (some ((i : Int) + n)) = (l.drop i).take n := by
  unfold cut
  show (l.take ((i : Int) + n).toNat).drop (i : Int).toNat = _
  rw [show ((i : Int) + n).toNat = i + n by omega, Int.toNat_natCast, List.drop_take, Nat.add_sub_cancel_left]
theorem take2 (l : List UInt8) (i : Nat) (h : i + 2 ≤ l.length) : (l.drop i).take 2 = [l.getD i 0, l.getD (i + 1) 0] := by
  rw [List.drop_eq_getElem_cons (by omega), List.drop_eq_getElem_cons (show i + 1 < l.length by omega), List.getD_eq_getElem?_getD, List.getD_eq_getElem?_getD, List.getElem?_eq_getElem (by omega), List.getElem?_eq_getElem (by omega)]
  rfl
theorem take4 (l : List UInt8) (i : Nat) (h : i + 4 ≤ l.length) : (l.drop i).take 4 = [l.getD i 0, l.getD (i + 1) 0, l.getD (i + 2) 0, l.getD (i + 3) 0] := by
  rw [List.drop_eq_getElem_cons (by omega), List.drop_eq_getElem_cons (show i + 1 < l.length by omega), List.drop_eq_getElem_cons (show i + 1 + 1 < l.length by omega), List.drop_eq_getElem_cons (show i + 1 + 1 + 1 < l.length by omega)]
  simp only [List.getD_eq_getElem?_getD]
  rw [List.getElem?_eq_getElem (show i < l.length by omega), List.getElem?_eq_getElem (show i + 1 < l.length by omega), List.getElem?_eq_getElem (show i + 2 < l.length by omega), List.getElem?_eq_getElem (show i + 3 < l.length by omega)]
  rfl
theorem unitsR_getD (l : List UInt8) (n : Nat) (be : Bool) : ∀ (j : Nat) (a : Int) (k : Nat), k < j → (unitsR l n be j a).getD k 0 = unitAt l n be (a + n * k)
  | 0, _, _, h => absurd h (Nat.not_lt_zero _)
  | j + 1, a, 0, _ => by unfold unitsR; rw [List.getD_cons_zero]; simp
  | j + 1, a, k + 1, h => by
    unfold unitsR
    rw [List.getD_cons_succ, unitsR_getD l n be j _ k (by omega)]
    congr 1
    rw [Int.natCast_succ, Int.mul_add, Int.mul_one]; omega
theorem unitsI_len (l : List UInt8) (n : Nat) (be : Bool) : (unitsI l n be).length = l.length / n := unitsR_len _ _ _ _ _
theorem unitsI_getD (l : List UInt8) (n : Nat) (be : Bool) (k : Nat) (h : k < l.length / n) : (unitsI l n be).getD k 0 = numC (bif be then (l.drop (n * k)).take n else ((l.drop (n * k)).take n).reverse) 0 := by
  unfold unitsI
  rw [unitsR_getD _ _ _ _ _ _ h]
  unfold unitAt
  rw [show (0 : Int) + n * k = ((n * k : Nat) : Int) by rw [Int.natCast_mul]; omega, cutN]
theorem at8_bi (l : List UInt8) (i : Nat) : at8 l (i : Int) = bi (l.getD i 0) := by unfold at8 bi; rw [Int.toNat_natCast]
theorem getU16 (l : List UInt8) (be : Bool) (d k : Nat) (h : k < (l.drop d).length / 2) : (unitsI (l.drop d) 2 be).getD k 0 = unit16 l ((d + 2 * k : Nat) : Int) be := by
  rw [List.length_drop] at h
  rw [unitsI_getD _ _ _ _ (by rw [List.length_drop]; exact h), List.drop_drop, take2 _ _ (by omega), unit16_add, show ((d + 2 * k : Nat) : Int) + 1 = ((d + 2 * k + 1 : Nat) : Int) by omega, at8_bi, at8_bi]
  cases be with
  | true => show (256 * (256 * 0 + _) + _ : Int) = _; rw [cond_true]; omega
  | false => show (256 * (256 * 0 + _) + _ : Int) = _; rw [cond_false]; omega
theorem unit16_in (l : List UInt8) (a : Int) (be : Bool) : 0 ≤ unit16 l a be ∧ unit16 l a be < 65536 := by
  rw [unit16_add]
  have h1 := (l.getD a.toNat 0).toNat_lt
  have h2 := (l.getD (a + 1).toNat 0).toNat_lt
  unfold at8
  cases be <;> simp only [cond_true, cond_false] <;> omega
theorem isLow_lo (u : Int) : isLow u = loU u := by unfold isLow loU; congr 1; exact decide_eq_decide.mpr (by omega)
theorem isHigh_hi (u : Int) : isHigh u = hiU u := by unfold isHigh hiU; congr 1; exact decide_eq_decide.mpr (by omega)
theorem half_or (u : Int) : half u = (hiU u || loU u) := by
  unfold half hiU loU
  by_cases h1 : 55296 ≤ u <;> by_cases h2 : u < 56320 <;> by_cases h3 : u < 57344 <;> simp [h1, h2, h3] <;> omega
theorem lo_hi {u : Int} (h : loU u = true) : hiU u = false ∧ decide (u < 56320) = false := by
  unfold loU at h; unfold hiU
  simp only [Bool.and_eq_true, decide_eq_true_eq] at h
  simp; omega
theorem hi_lo {u : Int} (h : hiU u = true) : loU u = false ∧ decide (u < 56320) = true := by
  unfold hiU at h; unfold loU
  simp only [Bool.and_eq_true, decide_eq_true_eq] at h
  simp; omega
theorem corr16 (l : List UInt8) (be : Bool) (d : Nat) (hd : d ≤ l.length) : Corr step16 l be d (unitsI (l.drop d) 2 be) 2 := by
  have hlen : (unitsI (l.drop d) 2 be).length = (l.length - d) / 2 := by rw [unitsI_len, List.length_drop]
  have hdr := List.length_drop (i := d) (l := l)
  refine ⟨by decide, ⟨(l.length - d) % 2, by rw [hlen]; omega, by omega⟩, fun k hk => ?_, fun h => ?_⟩
  · have e0 := getU16 l be d k (by omega)
    have hin := unit16_in l ((d + 2 * k : Nat) : Int) be
    have e1 : k + 1 < (unitsI (l.drop d) 2 be).length → (unitsI (l.drop d) 2 be).getD (k + 1) 0 = unit16 l ((d + 2 * k : Nat) + 2 : Int) be := fun h => by
      rw [getU16 l be d (k + 1) (by omega)]; congr 1
    have hc : decide (((d + 2 * k : Nat) : Int) + 4 ≤ l.length) = decide ((k : Int) + 1 < (unitsI (l.drop d) 2 be).length) := decide_eq_decide.mpr (by omega)
    unfold step16 stepR pairAt wordOf
    rw [decide_eq_false (show ¬ (l.length : Int) < ((d + 2 * k : Nat) : Int) + 2 by omega), cond_false, isLow_lo, isHigh_hi, hc, half_or, e0, isLow_lo]
    generalize unit16 l ((d + 2 * k : Nat) : Int) be = u at hin ⊢
    rw [show (((2 : Nat) : Int) == 2) = true by decide, show (((2 : Nat) : Int) == 4) = false by decide, Bool.true_and, cond_false]
    cases hlo : loU u with
    | true =>
      rw [(lo_hi hlo).1, (lo_hi hlo).2]
      exact ⟨by simp only [Bool.false_and, Bool.or_true, Bool.true_or, cond_true, cond_false]; omega, .inr ⟨rfl, rfl, rfl⟩⟩
    | false =>
      cases hhi : hiU u with
      | false =>
        rw [decide_eq_false (show ¬ 1114111 < u by omega)]
        exact ⟨by simp only [Bool.false_and, Bool.or_false, Bool.not_false, cond_true, cond_false]; omega, .inl ⟨rfl, rfl⟩⟩
      | true =>
        rw [(hi_lo hhi).2]
        cases hk1 : decide ((k : Int) + 1 < (unitsI (l.drop d) 2 be).length) with
        | false => exact ⟨by simp only [Bool.false_and, Bool.and_false, Bool.or_false, Bool.true_or, Bool.not_true, cond_true, cond_false]; omega, .inr ⟨rfl, rfl, rfl⟩⟩
        | true =>
          rw [e1 (by have := of_decide_eq_true hk1; omega)]
          generalize unit16 l ((d + 2 * k : Nat) + 2 : Int) be = v
          cases hlv : loU v with
          | false => exact ⟨by simp only [Bool.false_and, Bool.and_false, Bool.or_false, Bool.true_or, Bool.not_true, cond_true, cond_false]; omega, .inr ⟨rfl, rfl, rfl⟩⟩
          | true =>
            refine ⟨by simp only [Bool.true_and, Bool.not_true, cond_true, cond_false]; omega, .inl ⟨rfl, ?_⟩⟩
            show WData.int (joined u v) = .int (65536 + 1024 * (u - 55296) + v - 56320)
            unfold joined; congr 1; omega
  · unfold step16
    rw [decide_eq_true (show (l.length : Int) < ((d + 2 * (unitsI (l.drop d) 2 be).length : Nat) : Int) + 2 by rw [hlen]; omega)]; rfl
theorem out32_eq {u : Int} (h : 0 ≤ u) (a : Int) : out32 u a = bif half u || decide (1114111 < u) then ((.none, a + 4, bif half u then "surrogate" else "beyond") : D × Int × Str) else (.int u, a + 4, "") := by
  have hs : scal u = !(half u || decide (1114111 < u)) := by
    unfold scal half
    by_cases h1 : 55296 ≤ u <;> by_cases h2 : u < 57344 <;> by_cases h3 : 1114111 < u <;> simp [h, h1, h2, h3] <;> omega
  have hh : (decide (55296 ≤ u) && decide (u ≤ 57343)) = half u := by unfold half; congr 1; exact decide_eq_decide.mpr (by omega)
  unfold out32
  rw [hs, hh]
  cases (half u || decide (1114111 < u)) <;> rfl
theorem num4_nn (a b c d : UInt8) : 0 ≤ num4 a b c d := by
  rw [num4_add]; unfold bi; omega
theorem corr32 (l : List UInt8) (be : Bool) (d : Nat) (hd : d ≤ l.length) : Corr step32 l be d (unitsI (l.drop d) 4 be) 4 := by
  have hlen : (unitsI (l.drop d) 4 be).length = (l.length - d) / 4 := by rw [unitsI_len, List.length_drop]
  have hdr := List.length_drop (i := d) (l := l)
  refine ⟨by decide, ⟨(l.length - d) % 4, by rw [hlen]; omega, by omega⟩, fun k hk => ?_, fun h => ?_⟩
  · have e0 := unitsI_getD (l.drop d) 4 be k (by omega)
    rw [List.drop_drop, take4 _ _ (by omega)] at e0
    unfold step32
    rw [show ((d + 4 * k : Nat) : Int) + 4 = ((d + 4 * k : Nat) : Int) + ((4 : Nat) : Int) from rfl, cutN, take4 _ _ (by omega)]
    generalize l.getD (d + 4 * k) 0 = b0 at e0 ⊢
    generalize l.getD (d + 4 * k + 1) 0 = b1 at e0 ⊢
    generalize l.getD (d + 4 * k + 2) 0 = b2 at e0 ⊢
    generalize l.getD (d + 4 * k + 3) 0 = b3 at e0 ⊢
    have key : (unitsI (l.drop d) 4 be).getD k 0 = (bif be then num4 b0 b1 b2 b3 else num4 b3 b2 b1 b0) := by
      rw [e0, num4_add, num4_add]
      cases be with
      | true => show (256 * (256 * (256 * (256 * 0 + _) + _) + _) + _ : Int) = _; rw [cond_true]; omega
      | false => show (256 * (256 * (256 * (256 * 0 + _) + _) + _) + _ : Int) = _; rw [cond_false]; omega
    dsimp only
    have e2 : (bif be then out32 (num4 b0 b1 b2 b3) ((d + 4 * k : Nat) : Int) else out32 (num4 b3 b2 b1 b0) ((d + 4 * k : Nat) : Int)) = out32 ((unitsI (l.drop d) 4 be).getD k 0) ((d + 4 * k : Nat) : Int) := by
      rw [key]
      cases be with
      | true => rw [cond_true, cond_true]
      | false => rw [cond_false, cond_false]
    rw [e2]
    have h0 : 0 ≤ (unitsI (l.drop d) 4 be).getD k 0 := by
      rw [key]
      cases be with
      | true => rw [cond_true]; exact num4_nn _ _ _ _
      | false => rw [cond_false]; exact num4_nn _ _ _ _
    rw [out32_eq h0]
    unfold stepR pairAt wordOf
    rw [show (((4 : Nat) : Int) == 2) = false by decide, show (((4 : Nat) : Int) == 4) = true by decide, Bool.false_and, cond_false, cond_true]
    generalize (unitsI (l.drop d) 4 be).getD k 0 = u
    cases (half u || decide (1114111 < u)) with
    | true => exact ⟨by simp only [cond_true]; omega, .inr ⟨rfl, rfl, rfl⟩⟩
    | false => exact ⟨by simp only [cond_false]; omega, .inl ⟨rfl, rfl⟩⟩
  · unfold step32
    have hcl : (cut l (some ((d + 4 * (unitsI (l.drop d) 4 be).length : Nat) : Int)) (some (((d + 4 * (unitsI (l.drop d) 4 be).length : Nat) : Int) + 4))).length < 4 := by
      rw [show ((d + 4 * (unitsI (l.drop d) 4 be).length : Nat) : Int) + 4 = ((d + 4 * (unitsI (l.drop d) 4 be).length : Nat) : Int) + ((4 : Nat) : Int) from rfl, cutN, List.length_take, List.length_drop, hlen]
      omega
    split
    · rename_i e; rw [e] at hcl; exact absurd hcl (by simp)
    · rfl
end Mine
end
section
-- N4
set_option linter.unusedVariables false
namespace Mine
open PySem PySem.Calls PyProof.Rows PySem.W
/-- what is read, in which order, and from where -/
noncomputable def restN (l : List UInt8) (n : Nat) (o : D) : List UInt8 × Str × Nat := match o with
  | .str s => (l, s, 0)
  | _ => bif l.take n == put 65279 n false then (l.drop n, "le", n) else bif l.take n == put 65279 n true then (l.drop n, "be", n) else (l, "be", 0)
noncomputable def rep (l : List UInt8) (n : Nat) (o : D) : List D := bif (n : Int) == 2 then decAll start16 step16 l o else decAll start32 step32 l o
theorem take_le {l x : List UInt8} {n : Nat} (h : (l.take n == x) = true) (hx : x.length = n) : n ≤ l.length := by
  have := eq_of_beq h
  rw [← this, List.length_take] at hx; omega
theorem restN_ok (l : List UInt8) (n : Nat) {o : D} (ho : isOrd o) : (restN l n o).1 = l.drop (restN l n o).2.2 ∧ (restN l n o).2.2 ≤ l.length := by
  rcases ho with rfl | ⟨s, rfl⟩
  · unfold restN
    dsimp only
    cases h1 : l.take n == put 65279 n false with
    | true => exact ⟨rfl, take_le h1 (put_len _ _ _)⟩
    | false =>
      cases h2 : l.take n == put 65279 n true with
      | true => exact ⟨rfl, take_le h2 (put_len _ _ _)⟩
      | false => exact ⟨rfl, Nat.zero_le _⟩
  · exact ⟨rfl, Nat.zero_le _⟩
theorem start16_eq (l : List UInt8) {o : D} (ho : isOrd o) : start16 l o = ((restN l 2 o).2.1, ((restN l 2 o).2.2 : Int)) := by
  rcases ho with rfl | ⟨s, rfl⟩
  · unfold restN start16
    dsimp only
    rw [show put 65279 2 false = [255, 254] by decide, show put 65279 2 true = [254, 255] by decide, show cut l none (some 2) = l.take 2 from rfl]
    cases h1 : l.take 2 == [255, 254] with
    | true => rfl
    | false => cases h2 : l.take 2 == [254, 255] <;> rfl
  · rfl
theorem start32_eq (l : List UInt8) {o : D} (ho : isOrd o) : start32 l o = ((restN l 4 o).2.1, ((restN l 4 o).2.2 : Int)) := by
  rcases ho with rfl | ⟨s, rfl⟩
  · unfold restN start32
    dsimp only
    rw [show put 65279 4 false = [255, 254, 0, 0] by decide, show put 65279 4 true = [0, 0, 254, 255] by decide, show cut l none (some 4) = l.take 4 from rfl]
    cases h1 : l.take 4 == [255, 254, 0, 0] with
    | true => rfl
    | false => cases h2 : l.take 4 == [0, 0, 254, 255] <;> rfl
  · rfl
theorem readI_eq (l : List UInt8) (n : Nat) (be : Bool) (d : Nat) (hd : d ≤ l.length) (hn : n = 2 ∨ n = 4) :
    readI (l.drop d) n be = ((readR (unitsI (l.drop d) n be) n (unitsI (l.drop d) n be).length 0).1 ++ exC l d n (unitsI (l.drop d) n be).length, (readR (unitsI (l.drop d) n be) n (unitsI (l.drop d) n be).length 0).2 ++ exI l d n (unitsI (l.drop d) n be).length) := by
  have hlen := unitsI_len (l.drop d) n be
  rw [List.length_drop] at hlen
  unfold readI exC exI
  rw [List.length_drop, fmod_emod _ (by omega)]
  have hz : ((((l.length - d : Nat) : Int) % n) == 0) = decide (¬ d + n * (unitsI (l.drop d) n be).length < l.length) := by
    rw [show ((((l.length - d : Nat) : Int) % n) == 0) = decide ((((l.length - d : Nat) : Int) % n) = 0) from rfl]
    refine decide_eq_decide.mpr ?_
    rw [hlen]
    rcases hn with rfl | rfl <;> omega
  rw [hz]
  by_cases h : d + n * (unitsI (l.drop d) n be).length < l.length
  · rw [if_pos h, if_pos h, decide_eq_false (by omega), cond_false]
    congr 3
    congr 1
    rw [hlen]
    rcases hn with rfl | rfl <;> omega
  · rw [if_neg h, if_neg h, decide_eq_true h, cond_true, List.append_nil, List.append_nil]
theorem dec_law (l : List UInt8) (n : Nat) (o : D) (hn : n = 2 ∨ n = 4) (ho : isOrd o) :
    rep l n o = (readI (restN l n o).1 n ((restN l n o).2.1 == "be")).1.map .int ∧
    dec l n o = toSum (restN l n o).2.2 (readI (restN l n o).1 n ((restN l n o).2.1 == "be")).1 (readI (restN l n o).1 n ((restN l n o).2.1 == "be")).2 := by
  obtain ⟨e1, e2⟩ := restN_ok l n ho
  unfold rep dec decAll decT
  rw [start16_eq l ho, start32_eq l ho, e1]
  dsimp only
  rw [readI_eq _ _ _ _ e2 hn]
  rcases hn with rfl | rfl
  · have K := corr16 l ((restN l 2 o).2.1 == "be") _ e2
    have r := K.rep l.length _ 0 (Nat.zero_le _) (Nat.le_add_left _ _) (Nat.le_of_eq (Nat.zero_add _).symm)
    have s := K.str l.length _ 0 (Nat.zero_le _) (Nat.le_add_left _ _) (Nat.le_of_eq (Nat.zero_add _).symm)
    exact ⟨r, s⟩
  · have K := corr32 l ((restN l 4 o).2.1 == "be") _ e2
    have r := K.rep l.length _ 0 (Nat.zero_le _) (Nat.le_add_left _ _) (Nat.le_of_eq (Nat.zero_add _).symm)
    have s := K.str l.length _ 0 (Nat.zero_le _) (Nat.le_add_left _ _) (Nat.le_of_eq (Nat.zero_add _).symm)
    exact ⟨r, s⟩
end Mine
end
section
-- N5
set_option linter.unusedVariables false
set_option linter.unusedSimpArgs false
namespace Mine
open PySem PySem.Calls PyProof.Rows PySem.W
theorem ofPys_ints : ∀ ns : List Int, ofPys (ns.map PyData.int) = ns.map WData.int
  | [] => rfl
  | n :: ns => by show ofPy (.int n) :: ofPys _ = _; rw [ofPys_ints ns]; rfl
theorem sh_ints (ns : List Int) : SeqAt.shaped (.list (ns.map PyData.int)) = true := by
  simp [SeqAt.shaped, PyData.canLay0, PyData.canLayAll0, PyData.depth, PyData.depthAll, ke_canLayAll0, ke_depthAll]
theorem pEq_ints {a b : List Int} {Q : Bool → Prop} (h : Q (decide (a = b))) : pEq (.list (a.map .int)) (.list (b.map .int)) Q :=
  ⟨.list (a.map PyData.int), .list (b.map PyData.int), by unfold ofPy; rw [ofPys_ints], by unfold ofPy; rw [ofPys_ints], sh_ints a, sh_ints b, by unfold PyData.eqv; rw [ked_eqvAll]; exact h⟩
theorem pEq_tup {a : Int} {w : Str} {Q : Bool → Prop} (hw : PyData.strOk w = true) (h : Q true) : pEq (.tuple [.int a, .str w]) (.tuple [.int a, .str w]) Q := by
  have hl : PyData.canLay0 (.tuple [.int a, .str w]) = true := by simp [PyData.canLay0, PyData.canLayAll0, hw]
  have hs : SeqAt.shaped (.tuple [.int a, .str w]) = true := by simp [SeqAt.shaped, PyData.canLay0, PyData.canLayAll0, PyData.depth, PyData.depthAll, hw]
  exact ⟨_, _, rfl, rfl, hs, hs, by rw [SeqAt.eqv_refl _ hl]; exact h⟩
noncomputable def pyIll (is : List (Int × Str)) : List PyData := is.map fun x => .tuple [.int x.1, .str x.2]
theorem ofPys_ill : ∀ is : List (Int × Str), ofPys (pyIll is) = illD is
  | [] => rfl
  | x :: is => by show ofPy (.tuple [.int x.1, .str x.2]) :: ofPys (pyIll is) = _; rw [ofPys_ill is]; rfl
theorem sh_ill (is : List (Int × Str)) (hw : ∀ x ∈ is, PyData.strOk x.2 = true) : PyData.canLayAll0 (pyIll is) = true ∧ PyData.depthAll (pyIll is) ≤ 1 := by
  induction is with
  | nil => exact ⟨rfl, Nat.zero_le _⟩
  | cons x is ih =>
    obtain ⟨h1, h2⟩ := ih fun y hy => hw y (List.mem_cons_of_mem _ hy)
    have h3 := hw x List.mem_cons_self
    refine ⟨?_, ?_⟩
    · show (PyData.canLay0 (.tuple [.int x.1, .str x.2]) && PyData.canLayAll0 (pyIll is)) = true
      rw [h1]; simp [PyData.canLay0, PyData.canLayAll0, h3]
    · show max (PyData.depth (.tuple [.int x.1, .str x.2])) (PyData.depthAll (pyIll is)) ≤ 1
      simp [PyData.depth, PyData.depthAll]; omega
theorem pEq_ill {is : List (Int × Str)} (hw : ∀ x ∈ is, PyData.strOk x.2 = true) {Q : Bool → Prop} (h : Q is.isEmpty) : pEq (.list (illD is)) (.list []) Q := by
  obtain ⟨h1, h2⟩ := sh_ill is hw
  refine ⟨.list (pyIll is), .list [], by unfold ofPy; rw [ofPys_ill], rfl, ?_, rfl, ?_⟩
  · simp [SeqAt.shaped, PyData.canLay0, PyData.depth, h1]; omega
  · cases is with
    | nil => exact h
    | cons x is => exact h
theorem word_ok (n : Nat) (u : Int) : PyData.strOk (wordOf n u) = true := by
  unfold wordOf
  cases ((n : Int) == 4) with
  | true =>
    rw [cond_true]
    cases half u with
    | true => exact (by decide +kernel : PyData.strOk "surrogate" = true)
    | false => exact (by decide +kernel : PyData.strOk "beyond" = true)
  | false =>
    rw [cond_false]
    cases decide (u < 56320) with
    | true => exact (by decide +kernel : PyData.strOk "high" = true)
    | false => exact (by decide +kernel : PyData.strOk "low" = true)
theorem stepR_ok (us : List Int) (n k : Nat) : ∀ x ∈ (stepR us n k).2.1, PyData.strOk x.2 = true := by
  unfold stepR
  cases pairAt us n k with
  | true => intro x h; cases h
  | false =>
    cases (half (us.getD k 0) || decide (1114111 < us.getD k 0)) with
    | true => intro x h; rw [List.mem_singleton.mp h]; exact word_ok _ _
    | false => intro x h; cases h
theorem readR_ok (us : List Int) (n : Nat) : ∀ m k, (readR us n m k).1.length ≤ m ∧ (readR us n m k).2.length ≤ m ∧ ∀ x ∈ (readR us n m k).2, PyData.strOk x.2 = true
  | 0, _ => ⟨Nat.le_refl _, Nat.le_refl _, fun _ h => nomatch h⟩
  | m + 1, k => by
    rw [readR_succ]
    cases decide (k < us.length) with
    | false => exact ⟨Nat.zero_le _, Nat.zero_le _, fun _ h => nomatch h⟩
    | true =>
      obtain ⟨h1, h2, h3⟩ := readR_ok us n m (k + (stepR us n k).2.2)
      have h4 := (stepR_le us n k).1
      refine ⟨Nat.succ_le_succ h1, ?_, fun x h => ?_⟩
      · show ((stepR us n k).2.1 ++ _).length ≤ _
        rw [List.length_append]; omega
      · rcases List.mem_append.mp h with h | h
        · exact stepR_ok _ _ _ x h
        · exact h3 x h
theorem readI_ok (l : List UInt8) (n : Nat) (be : Bool) : (readI l n be).1.length ≤ l.length / n + 1 ∧ (readI l n be).2.length ≤ l.length / n + 1 ∧ ∀ x ∈ (readI l n be).2, PyData.strOk x.2 = true := by
  obtain ⟨h1, h2, h3⟩ := readR_ok (unitsI l n be) n (unitsI l n be).length 0
  unfold readI
  rw [unitsI_len] at h1 h2 h3 ⊢
  cases ((l.length : Int).fmod n == 0) with
  | true => exact ⟨by rw [cond_true]; omega, by rw [cond_true]; omega, h3⟩
  | false =>
    refine ⟨by rw [cond_false, List.length_append]; exact Nat.succ_le_succ h1, by rw [cond_false, List.length_append]; exact Nat.succ_le_succ h2, fun x h => ?_⟩
    rcases List.mem_append.mp h with h | h
    · exact h3 x h
    · rw [List.mem_singleton.mp h]; exact (by decide +kernel : PyData.strOk "odd end" = true)
noncomputable def markW (l : List UInt8) (n : Nat) (x : List UInt8 × Str × Nat) (w : Str) : List UInt8 × Str × Nat := bif l.take n == put 65279 n (w == "be") then (l.drop n, w, n) else x
theorem restN_fold (l : List UInt8) (n : Nat) : [("be" : Str), "le"].foldl (markW l n) (l, "be", 0) = restN l n .none := by
  unfold restN
  show markW l n (markW l n (l, "be", 0) "be") "le" = _
  unfold markW
  rw [show (("le" : Str) == "be") = false by decide, show (("be" : Str) == "be") = true by decide]
theorem restN_len (l : List UInt8) (n : Nat) (o : D) : (restN l n o).1.length ≤ l.length := by
  unfold restN
  split
  · exact Nat.le_refl _
  · cases l.take n == put 65279 n false with
    | true => show (l.drop n).length ≤ _; rw [List.length_drop]; omega
    | false => cases l.take n == put 65279 n true with
      | true => show (l.drop n).length ≤ _; rw [List.length_drop]; omega
      | false => exact Nat.le_refl _
theorem rep_len (l : List UInt8) (n : Nat) (o : D) : (rep l n o).length ≤ l.length := by
  unfold rep
  cases ((n : Int) == 2) <;> exact decR_len _ _ _ _ _
end Mine
end
section
-- P23
set_option linter.unusedVariables false
set_option maxRecDepth 100000
namespace Mine
open PySem PySem.Calls PyProof.Rows PySem.W
noncomputable def sp_dright : Spec := fun ds kds Q X => ∃ (l : List UInt8) (n : Nat) (o : D), ds = [.bytes l, .int n, o] ∧ kds = [] ∧ (n = 2 ∨ n = 4) ∧ isOrd o ∧ l.length ≤ 4000 ∧ Q (.bool true)
theorem cEq {a b : D} {Q : Bool → Prop} (h : pEq a b Q) : pCmp .Eq a b Q := h
theorem mem3 {P : Nat → Prop} {a b c : Nat} (ha : P a) (hb : P b) (hc : P c) : ∀ i ∈ [a, b, c], P i := fun i hi => by
  rcases List.mem_cons.mp hi with rfl | hi
  · exact ha
  rcases List.mem_cons.mp hi with rfl | hi
  · exact hb
  rw [List.mem_singleton.mp hi]; exact hc
theorem mem2 {P : Nat → Prop} {a b : Nat} (ha : P a) (hb : P b) : ∀ i ∈ [a, b], P i := fun i hi => by
  rcases List.mem_cons.mp hi with rfl | hi
  · exact ha
  rw [List.mem_singleton.mp hi]; exact hb
section
variable {W : Wd} (H : Bh W)
include H
theorem c_dright (r : Nat) : FnOk W (r + 6) "_law_decoded_right" sp_dright := by
  refine fnC H (i := 46) (fa := 263) (c := 262) (by rfl) (by rfl) (by rfl) (by rfl) (by rfl) (by rfl) (by decide +kernel) (by rfl) (by decide +kernel) fun ds kds Q X h => ?_
  obtain ⟨l, n, o, rfl, rfl, hn, ho, hl, q⟩ := h
  have hn4 : 0 < (n : Int) ∧ (n : Int) ≤ 4 := by omega
  refine ⟨_, bindN (xs := [12, 18, 11]) H.nm (show ∀ i ∈ [12, 18, 11], i < 128 ∧ (stScope (stAt 46)).names.lookup (nmOf i) = some .local by decide +kernel) (by decide) rfl (three fun x y z => by rfl), fun L Y frs O => ?_⟩
  refine WSs_cons O (WS_asgS H.ok O (xs := [28, 29, 30]) (mem3 (sto 28 (by decide) (by rfl)) (sto 29 (by decide) (by rfl)) (sto 30 (by decide) (by rfl))) (by rfl) (by rfl) (WEs_cons O (by rfl) (WE_vd H O 12 (H.n 12) rfl (WEs_cons O (by rfl) (WE_vd H O 11 (H.n 11) rfl (WEs_cons O (by rfl) (WE_i (WEs_nil ⟨rfl, ?_⟩))))))))
  refine WSs_cons O (WS.cut (Q' := fun fl g => fl = .nx ∧ Sub [(12, .v (.bytes l)), (18, .v (.int n)), (11, .v o), (28, .v (.bytes (restN l n o).1)), (29, .v (.str (restN l n o).2.1)), (30, .v (.int (restN l n o).2.2))] g)
    (WS_ite O (WT_cmp O (by rfl) (WE_vd H O 11 (H.n 11) rfl (WE_n ⟨rfl, ?_⟩)))) fun fl g hg => ?_)
  · rcases ho with rfl | ⟨s, rfl⟩
    · refine And.intro (fun _ => ?_) fun h => by cases h
      refine WSs_cons O (WS_asg H.ok O (i := 29) (sto 29 (by decide) (by rfl)) (by rfl) (WE_s ?_))
      refine WSs_cons O (WS_for H.ok O dFx_top (Tgt.one (i := 26)) (sto1 26 (by decide) (by rfl)) (fun _ => rfl) (WIt_seq (i := 26) O (WE_tup O (by rfl) (WEs_cons O (by rfl) (WE_s (WEs_cons O (by rfl) (WE_s (WEs_nil ?_))))))))
      refine ⟨fun rest g => ∃ (ws : List Str) (x : List UInt8 × Str × Nat), g = [(12, .v (.bytes l)), (18, .v (.int n)), (11, .v .none), (28, .v (.bytes x.1)), (29, .v (.str x.2.1)), (30, .v (.int (x.2.2 : Nat)))] ∧ rest = ws.map .str ∧ ws.foldl (markW l n) x = restN l n .none, ⟨[(12, .v (.bytes l)), (18, .v (.int n)), (11, .v .none), (28, .v (.bytes l)), (29, .v (.str "be")), (30, .v (.int (0 : Nat)))], ⟨rfl, rfl, rfl, rfl, rfl, rfl, trivial⟩, ["be", "le"], (l, "be", 0), rfl, rfl, restN_fold l n⟩, fun d rest g ⟨ws, x, hg, e, b⟩ => ?_, fun g ⟨ws, x, hg, e, b⟩ => ?_⟩
      · subst hg
        cases ws with
        | nil => cases e
        | cons w ws =>
          cases e
          refine ⟨_, rfl, rfl, WSs_cons O (WS_ite O (WT_cmp O (by rfl) (WE_slT O (WE_vd H O 12 (H.n 12) rfl (WE_vd H O 18 (H.n 18) rfl ⟨rfl, decide_eq_true (show (0 : Int) ≤ n by omega), by omega, ?_⟩)))))⟩
          refine WX_call H.ok O (by rfl) (by rfl) ⟨_, c_put H (r + 4), WEs_cons O (by rfl) (WE_i (WEs_cons O (by rfl) (WE_vd H O 18 (H.n 18) rfl (WEs_cons O (by rfl) (WE_vd H O 26 (H.n 26) rfl (WEs_nil ⟨_, n, w, rfl, rfl, hn, ?_⟩))))))⟩
          have b' : ws.foldl (markW l n) (markW l n x w) = restN l n .none := b
          unfold markW at b'
          refine And.intro (fun h => ?_) fun h => ?_ <;> (replace h : (l.take n == put 65279 n (w == "be")) = _ := h; rw [h] at b')
          · refine WSs_cons O (WS_asgS H.ok O (xs := [28, 29, 30]) (mem3 (sto 28 (by decide) (by rfl)) (sto 29 (by decide) (by rfl)) (sto 30 (by decide) (by rfl))) (by rfl) (by rfl) (WEs_cons O (by rfl) (WE_slF O (WE_vd H O 12 (H.n 12) rfl (WE_vd H O 18 (H.n 18) rfl ⟨decide_eq_true (show (0 : Int) ≤ n by omega), rfl, by omega, ?_⟩)))))
            refine WEs_cons O (by rfl) (WE_vd H O 26 (H.n 26) rfl (WEs_cons O (by rfl) (WE_vd H O 18 (H.n 18) rfl (WEs_nil ⟨rfl, ?_⟩))))
            exact WSs_nil (WSs_nil ⟨[(12, .v (.bytes l)), (18, .v (.int n)), (11, .v .none), (28, .v (.bytes (l.drop n))), (29, .v (.str w)), (30, .v (.int n))], ⟨rfl, rfl, rfl, rfl, rfl, rfl, trivial⟩, ws, (l.drop n, w, n), rfl, rfl, b'⟩)
          · exact WSs_nil (WSs_nil ⟨[(12, .v (.bytes l)), (18, .v (.int n)), (11, .v .none), (28, .v (.bytes x.1)), (29, .v (.str x.2.1)), (30, .v (.int (x.2.2 : Nat)))], ⟨rfl, rfl, rfl, rfl, rfl, rfl, trivial⟩, ws, x, rfl, rfl, b'⟩)
      · cases ws with
        | cons _ _ => cases e
        | nil =>
          subst hg
          have b' : x = restN l n .none := b
          subst b'
          exact WSs_nil ⟨rfl, rfl, rfl, rfl, rfl, rfl, rfl, trivial⟩
    · refine And.intro (fun h => by cases h) fun _ => ?_
      exact WSs_nil ⟨rfl, rfl, rfl, rfl, rfl, rfl, rfl, trivial⟩
  obtain ⟨rfl, hg⟩ := hg
  refine WS.sub hg ?_
  obtain ⟨e1, e2⟩ := dec_law l n o hn ho
  have hrl := restN_len l n o
  have hpl := rep_len l n o
  generalize restN l n o = x at e1 e2 hrl ⊢
  obtain ⟨rest, mine, ahead⟩ := x
  dsimp only at e1 e2 hrl ⊢
  obtain ⟨z1, z2, z3⟩ := readI_ok rest n (mine == "be")
  have zz : rest.length / n ≤ 4000 := Nat.le_trans (Nat.div_le_self _ _) (by omega)
  refine WSs_cons O (WS_asgT (xs := [22, 23]) H.ok O (.cons (i := 22) (.cons (i := 23) .nil)) (mem2 (sto 22 (by decide) (by rfl)) (sto 23 (by decide) (by rfl))) (by rfl) (by rfl) (WX_call H.ok O (by rfl) (by rfl) ⟨_, c_read H (r + 3), WEs_cons O (by rfl) (WE_vd H O 28 (H.n 28) rfl (WEs_cons O (by rfl) (WE_vd H O 18 (H.n 18) rfl (WEs_cons O (by rfl) (WE_vd H O 29 (H.n 29) rfl (WEs_nil ⟨rest, n, mine, rfl, rfl, hn, by omega, rfl, ?_⟩))))))⟩))
  generalize readI rest n (mine == "be") = R at e1 e2 z1 z2 z3 ⊢
  obtain ⟨cs, is⟩ := R
  dsimp only at e1 e2 z1 z2 z3 ⊢
  refine WSs_cons O (WS_asg H.ok O (i := 31) (sto 31 (by decide) (by rfl)) (by rfl) (WX.cut (Q' := fun x => x = .cl (.list (cs.map .int))) (X' := fun _ => False) (WE_ife O (WT_cmp O (by rfl) (WE_vd H O 18 (H.n 18) rfl (WE_i ?_)))) (fun x hx => ?_) fun _ h => h.elim))
  · rw [← e1]
    unfold rep
    refine And.intro (fun h => ?_) fun h => ?_ <;> (rw [show ((n : Int) == 2) = _ from h])
    · exact WX_call H.ok O (by rfl) (by rfl) ⟨_, c_decode_utf16_replaced H (r + 2), WEs_cons O (by rfl) (WE_vd H O 12 (H.n 12) rfl (WEs_cons O (by rfl) (WE_vd H O 11 (H.n 11) rfl (WEs_nil ⟨l, o, rfl, rfl, ho, by omega, rfl⟩))))⟩
    · exact WX_call H.ok O (by rfl) (by rfl) ⟨_, c_decode_utf32_replaced H (r + 1), WEs_cons O (by rfl) (WE_vd H O 12 (H.n 12) rfl (WEs_cons O (by rfl) (WE_vd H O 11 (H.n 11) rfl (WEs_nil ⟨l, o, rfl, rfl, ho, by omega, rfl⟩))))⟩
  subst hx
  refine WSs_cons O (WS_asg H.ok O (i := 32) (sto 32 (by decide) (by rfl)) (by rfl) (WX.cut (Q' := fun x => x = .cl (tolD (toSum ahead cs is))) (X' := fun _ => False) (WE_ife O (WT_cmp O (by rfl) (WE_vd H O 23 (H.n 23) rfl (WE_lst O (by rfl) (WEs_nil ?_))))) (fun x hx => ?_) fun _ h => h.elim))
  · refine cEq (pEq_ill z3 ?_)
    cases is with
    | nil =>
      refine And.intro (fun _ => WE_vd H O 22 (H.n 22) rfl rfl) fun h => nomatch h
    | cons x is =>
      obtain ⟨a, w⟩ := x
      rw [List.length_cons] at z2
      refine And.intro (fun h => nomatch h) fun _ => WE_tup O (by rfl) (WEs_cons O (by rfl) (WE_bin O ?_))
      refine WE_idx O (WE_idx O (WE_vd H O 23 (H.n 23) rfl (WE_i ⟨by decide, show (0 : Int) < ((illD ((a, w) :: is)).length : Nat) by unfold illD; rw [List.length_map, List.length_cons]; omega, show (illD ((a, w) :: is)).length ≤ 4096 by unfold illD; rw [List.length_map, List.length_cons]; omega, WE_i ⟨by decide, show (0 : Int) < 2 by decide, show 2 ≤ 4096 by decide, ?_⟩⟩)))
      refine WE_vd H O 30 (H.n 30) rfl ?_
      refine WEs_cons O (by rfl) (WE_idx O (WE_idx O (WE_vd H O 23 (H.n 23) rfl (WE_i ⟨by decide, show (0 : Int) < ((illD ((a, w) :: is)).length : Nat) by unfold illD; rw [List.length_map, List.length_cons]; omega, show (illD ((a, w) :: is)).length ≤ 4096 by unfold illD; rw [List.length_map, List.length_cons]; omega, WE_i ⟨by decide, show (1 : Int) < 2 by decide, show 2 ≤ 4096 by decide, WEs_nil rfl⟩⟩))))
  subst hx
  refine WSs_cons O (WS_ret O (WE_bo (u := true) (WBO_cons O (WE_cmp O (by rfl) (WE_bi H.ok O (f := 2) (by rfl) (by rfl) (WE_vd H O 31 (H.n 31) rfl ⟨by rw [List.length_map]; omega, WE_vd H O 22 (H.n 22) rfl (cEq (pEq_ints ?_))⟩))))))
  rw [decide_eq_true rfl]
  refine And.intro (fun _ => ?_) fun h => nomatch h
  refine WBO_one (WE_cmp O (by rfl) (WX_call H.ok O (by rfl) (by rfl) ⟨_, c_told H r, WEs_cons O (by rfl) (WE_vd H O 12 (H.n 12) rfl (WEs_cons O (by rfl) (WE_vd H O 18 (H.n 18) rfl (WEs_cons O (by rfl) (WE_vd H O 11 (H.n 11) rfl (WEs_nil ⟨l, n, o, rfl, rfl, ho, hl, ?_⟩))))))⟩))
  rw [e2]
  refine WE_vd H O 32 (H.n 32) rfl ?_
  cases is with
  | nil => refine cEq (pEq_ints ?_); exact (by rw [decide_eq_true rfl]; exact q)
  | cons x is => exact cEq (pEq_tup (z3 x List.mem_cons_self) q)
end
end Mine
end
section
-- N6
set_option linter.unusedVariables false
set_option linter.unusedSimpArgs false
namespace Mine
open PySem PySem.Calls PyProof.Rows PySem.W
theorem bi_toB {x : Int} (h : 0 ≤ x ∧ x < 256) : bi (toB x) = x := by
  unfold bi toB
  obtain ⟨a, rfl⟩ := Int.eq_ofNat_of_zero_le h.1
  rw [Int.toNat_natCast]
  have : a < 256 := by omega
  show ((UInt8.ofNat a).toNat : Int) = a
  rw [UInt8.toNat_ofNat_of_lt' (by omega)]
theorem dig2 (u : Int) : dig 2 u [] = [u / 256 % 256, u % 256] := by
  unfold dig dig dig
  rw [fmod_emod _ (by decide), fmod_emod _ (by decide), fdiv_ediv _ (by decide)]
theorem dig4 (u : Int) : dig 4 u [] = [u / 256 / 256 / 256 % 256, u / 256 / 256 % 256, u / 256 % 256, u % 256] := by
  unfold dig dig dig dig dig
  simp only [fmod_emod _ (show (0 : Int) ≤ 256 by decide), fdiv_ediv _ (show (0 : Int) ≤ 256 by decide)]
/-- the greatest unit -/
noncomputable def topU (n : Nat) : Int := bif (n : Int) == 2 then 65536 else 4294967296
theorem num_put (n : Nat) (hn : n = 2 ∨ n = 4) (be : Bool) (u : Int) (h : 0 ≤ u ∧ u < topU n) : numC (bif be then put u n be else (put u n be).reverse) 0 = u := by
  have e : (bif be then put u n be else (put u n be).reverse) = (dig n u []).map toB := by
    unfold put putI
    cases be with
    | true => rfl
    | false => rw [cond_false, cond_false, List.map_reverse, List.reverse_reverse]
  rw [e]
  unfold topU at h
  rcases hn with rfl | rfl
  · rw [dig2]
    show (256 * (256 * 0 + bi (toB _)) + bi (toB _) : Int) = u
    rw [bi_toB (by omega), bi_toB (by omega)]
    have : u < 65536 := h.2
    omega
  · rw [dig4]
    show (256 * (256 * (256 * (256 * 0 + bi (toB _)) + bi (toB _)) + bi (toB _)) + bi (toB _) : Int) = u
    rw [bi_toB (by omega), bi_toB (by omega), bi_toB (by omega), bi_toB (by omega)]
    have : u < 4294967296 := h.2
    omega
theorem ext_getD {a b : List Int} (e : a.length = b.length) (h : ∀ k, k < a.length → a.getD k 0 = b.getD k 0) : a = b := by
  refine List.ext_getElem e fun k h1 h2 => ?_
  have := h k h1
  rw [List.getD_eq_getElem?_getD, List.getD_eq_getElem?_getD, List.getElem?_eq_getElem h1, List.getElem?_eq_getElem h2] at this
  exact this
theorem flat_cut {f : Int → List UInt8} {n : Nat} (hf : ∀ u, (f u).length = n) : ∀ (us : List Int) (k : Nat), k < us.length → ((us.flatMap f).drop (n * k)).take n = f (us.getD k 0)
  | [], k, h => absurd h (Nat.not_lt_zero _)
  | u :: us, 0, _ => by
    rw [Nat.mul_zero, List.drop_zero, List.flatMap_cons, List.getD_cons_zero, List.take_append_of_le_length (by rw [hf]; exact Nat.le_refl _), List.take_of_length_le (by rw [hf]; exact Nat.le_refl _)]
  | u :: us, k + 1, h => by
    rw [List.flatMap_cons, List.getD_cons_succ, Nat.mul_succ, Nat.add_comm, ← List.drop_drop, List.drop_left' (hf u)]
    exact flat_cut hf us k (Nat.lt_of_succ_lt_succ h)
theorem flat_length {f : Int → List UInt8} {n : Nat} (hf : ∀ u, (f u).length = n) : ∀ us : List Int, (us.flatMap f).length = n * us.length
  | [] => rfl
  | u :: us => by rw [List.flatMap_cons, List.length_append, hf, flat_length hf us, List.length_cons, Nat.mul_succ, Nat.add_comm]
theorem units_put (n : Nat) (hn : n = 2 ∨ n = 4) (be : Bool) (us : List Int) (h : ∀ u ∈ us, 0 ≤ u ∧ u < topU n) : unitsI (us.flatMap fun u => put u n be) n be = us := by
  have hl := flat_length (fun u => put_len u n be) us
  have h0 : 0 < n := by omega
  have hlen : (unitsI (us.flatMap fun u => put u n be) n be).length = us.length := by rw [unitsI_len, hl, Nat.mul_div_cancel_left _ h0]
  refine ext_getD hlen fun k hk => ?_
  rw [hlen] at hk
  rw [unitsI_getD _ _ _ _ (by rw [hl, Nat.mul_div_cancel_left _ h0]; exact hk), flat_cut (fun u => put_len u n be) us k hk]
  exact num_put n hn be _ (h _ (by rw [List.getD_eq_getElem?_getD, List.getElem?_eq_getElem hk]; exact List.getElem_mem hk))
/-- the units of a code, in either size -/
noncomputable def uN (n : Nat) (c : Int) : List Int := bif (n : Int) == 2 then u16I c else [c]
theorem wr_uN (n : Nat) (hn : n = 2 ∨ n = 4) (be : Bool) (c : Int) : wr n be c = (uN n c).flatMap fun u => put u n be := by
  unfold wr uN
  rcases hn with rfl | rfl
  · rw [show (((2 : Nat) : Int) == 2) = true by decide, Bool.true_and, cond_true]
    unfold u16I
    by_cases h : c < 65536
    · rw [decide_eq_false (show ¬ 65535 < c by omega), decide_eq_true h]; simp
    · rw [decide_eq_true (show 65535 < c by omega), decide_eq_false h, cond_true, cond_false, fdiv_ediv _ (by decide), fmod_emod _ (by decide), show c % 1024 = (c - 65536) % 1024 by omega]; simp
  · rw [show (((4 : Nat) : Int) == 2) = false by decide, Bool.false_and, cond_false, cond_false]; simp
theorem written_uN (n : Nat) (hn : n = 2 ∨ n = 4) (be : Bool) (ns : List Int) : written ns n be = (ns.flatMap (uN n)).flatMap fun u => put u n be := by
  unfold written
  rw [List.flatMap_assoc]
  congr 1
  funext c
  exact wr_uN n hn be c
theorem uN_ok (n : Nat) (hn : n = 2 ∨ n = 4) {c : Int} (h : scal c = true) : ∀ u ∈ uN n c, 0 ≤ u ∧ u < topU n := fun u hu => by
  unfold uN at hu; unfold topU
  rcases hn with rfl | rfl
  · exact u16I_ok h u hu
  · rw [show (((4 : Nat) : Int) == 2) = false by decide, cond_false] at hu ⊢
    rw [List.mem_singleton.mp hu]
    have := scal_iff.mp h; omega
theorem read_uN (n : Nat) (hn : n = 2 ∨ n = 4) (us : List Int) : ∀ (m k : Nat) (rs : List Int), (∀ c ∈ rs, scal c = true) → us.drop k = rs.flatMap (uN n) → us.length ≤ k + m → readR us n m k = (rs, []) := by
  have get : ∀ {k : Nat} {x : Int} {ys : List Int}, us.drop k = x :: ys → k < us.length ∧ us.getD k 0 = x ∧ us.drop (k + 1) = ys := fun {k x ys} e => by
    have hk : k < us.length := by
      have := congrArg List.length e
      rw [List.length_drop, List.length_cons] at this; omega
    rw [List.drop_eq_getElem_cons hk] at e
    obtain ⟨e1, e2⟩ := List.cons.inj e
    exact ⟨hk, by rw [List.getD_eq_getElem?_getD, List.getElem?_eq_getElem hk]; exact e1, e2⟩
  intro m
  induction m with
  | zero =>
    intro k rs hs e hm
    rw [List.drop_of_length_le (by omega)] at e
    cases rs with
    | nil => rfl
    | cons c rs =>
      exfalso
      rw [List.flatMap_cons] at e
      have : uN n c ≠ [] := by
        unfold uN u16I
        cases ((n : Int) == 2) <;> cases decide (c < 65536) <;> simp
      have := congrArg List.length e
      rw [List.length_append, List.length_nil] at this
      exact absurd (List.length_eq_zero_iff.mp (by omega : (uN n c).length = 0)) ‹_›
  | succ m ih =>
    intro k rs hs e hm
    cases rs with
    | nil =>
      have : us.length ≤ k := by have := congrArg List.length e; rw [List.length_drop] at this; simp at this; omega
      exact readR_end us n (by omega) _
    | cons c rs =>
      have hc := hs c List.mem_cons_self
      have hc' := scal_iff.mp hc
      have hrs : ∀ x ∈ rs, scal x = true := fun x hx => hs x (List.mem_cons_of_mem _ hx)
      rw [List.flatMap_cons] at e
      have one : uN n c = [c] → readR us n (m + 1) k = (c :: rs, []) := fun h1 => by
        rw [h1] at e
        obtain ⟨hk, e1, e2⟩ := get e
        have hh : half c = false := by
          unfold half
          by_cases a : 55296 ≤ c
          · rw [decide_eq_false (show ¬ c < 57344 by omega), Bool.and_false]
          · rw [decide_eq_false a, Bool.false_and]
        have hhi : hiU c = false := by
          have := half_or c
          rw [hh] at this
          cases hx : hiU c with
          | false => rfl
          | true => rw [hx] at this; cases this
        have hst : stepR us n k = (c, [], 1) := by
          unfold stepR pairAt
          rw [e1, hhi, hh, Bool.false_and, Bool.and_false, cond_false, decide_eq_false (show ¬ 1114111 < c by omega)]; rfl
        rw [readR_succ, decide_eq_true hk, cond_true, hst, ih (k + 1) rs hrs e2 (by omega)]; rfl
      rcases hn with rfl | rfl
      · by_cases h6 : c < 65536
        · exact one (by unfold uN u16I; rw [decide_eq_true h6]; rfl)
        · have h2 : uN 2 c = [55296 + (c - 65536) / 1024, 56320 + (c - 65536) % 1024] := by unfold uN u16I; rw [decide_eq_false h6]; rfl
          rw [h2] at e
          obtain ⟨hk, e1, e2⟩ := get e
          obtain ⟨hk', e1', e2'⟩ := get e2
          have hst : stepR us 2 k = (c, [], 2) := by
            unfold stepR pairAt hiU loU
            rw [e1, e1', decide_eq_true (show 55296 ≤ 55296 + (c - 65536) / 1024 by omega), decide_eq_true (show 55296 + (c - 65536) / 1024 < 56320 by omega), decide_eq_true (show 56320 ≤ 56320 + (c - 65536) % 1024 by omega), decide_eq_true (show 56320 + (c - 65536) % 1024 < 57344 by omega), decide_eq_true (show (k : Int) + 1 < us.length by omega)]
            show ((65536 + 1024 * (55296 + (c - 65536) / 1024 - 55296) + (56320 + (c - 65536) % 1024) - 56320 : Int), ([] : List (Int × Str)), 2) = _
            congr 1; omega
          rw [readR_succ, decide_eq_true hk, cond_true, hst, ih (k + 2) rs hrs e2' (by omega)]; rfl
      · exact one rfl
/-- reading what is written -/
theorem read_written (n : Nat) (hn : n = 2 ∨ n = 4) (be : Bool) (ns : List Int) (h : ∀ c ∈ ns, scal c = true) : readI (written ns n be) n be = (ns, []) := by
  have hu := units_put n hn be (ns.flatMap (uN n)) fun u hu => by
    obtain ⟨c, hc, hu⟩ := List.mem_flatMap.mp hu
    exact uN_ok n hn (h c hc) u hu
  unfold readI
  rw [written_uN n hn, hu, flat_length (fun u => put_len u n be), fmod_emod _ (by omega), Int.natCast_mul, Int.mul_emod_right]
  rw [show ((0 : Int) == 0) = true by decide, cond_true]
  exact read_uN n hn _ _ 0 ns h rfl (by omega)
theorem written_len (n : Nat) (hn : n = 2 ∨ n = 4) (be : Bool) (ns : List Int) : (written ns n be).length ≤ 4 * ns.length := flat_len fun c _ => wr_len n hn be c
theorem dec_written (n : Nat) (hn : n = 2 ∨ n = 4) (o : Str) (ho : o = "be" ∨ o = "le") (ns : List Int) (h : ∀ c ∈ ns, scal c = true) : dec (put 65279 n (o == "be") ++ written ns n (o == "be")) n .none = .inl (ns.map .int) := by
  rw [(dec_law _ n .none hn (.inl rfl)).2]
  have hr : restN (put 65279 n (o == "be") ++ written ns n (o == "be")) n .none = (written ns n (o == "be"), o, n) := by
    unfold restN
    dsimp only
    rw [List.take_left' (put_len _ _ _), List.drop_left' (put_len _ _ _)]
    rcases ho with rfl | rfl
    · rw [show (("be" : Str) == "be") = true by decide]
      have : (put 65279 n true == put 65279 n false) = false := by rcases hn with rfl | rfl <;> decide
      rw [this, cond_false, beq_self_eq_true]; rfl
    · rw [show (("le" : Str) == "be") = false by decide, beq_self_eq_true]; rfl
  rw [hr]
  dsimp only
  rw [read_written n hn _ ns h]; rfl
noncomputable def encN (n : Nat) (ns : List Int) (be mk : Bool) : List UInt8 := bif (n : Int) == 2 then enc16 ns be mk else enc32 ns be mk
theorem oct_put (n : Nat) (hn : n = 2 ∨ n = 4) (be : Bool) {u : Int} (h : 0 ≤ u ∧ u < (bif (n : Int) == 2 then 65536 else 16777216)) : (bif (n : Int) == 2 then oct16 u be else oct32 u be) = putI u n be := by
  rcases hn with rfl | rfl
  · have : u < 65536 := h.2
    unfold putI
    rw [show (((2 : Nat) : Int) == 2) = true by decide, cond_true, oct16_eq, dig2, show u / 256 % 256 = u / 256 by omega]
    cases be <;> rfl
  · have : u < 16777216 := h.2
    unfold putI
    rw [show (((4 : Nat) : Int) == 2) = false by decide, cond_false, dig4, show u / 256 / 256 / 256 % 256 = 0 by omega, show u / 256 / 256 % 256 = u / 65536 by omega]
    unfold oct32
    rw [row32_eq]
theorem enc_put (n : Nat) (hn : n = 2 ∨ n = 4) (be : Bool) (us : List Int) (h : ∀ u ∈ us, 0 ≤ u ∧ u < (bif (n : Int) == 2 then 65536 else 16777216)) : (us.flatMap fun u => (bif (n : Int) == 2 then oct16 u be else oct32 u be)).map toB = us.flatMap fun u => put u n be := by
  induction us with
  | nil => rfl
  | cons u us ih =>
    rw [List.flatMap_cons, List.flatMap_cons, List.map_append, ih fun x hx => h x (List.mem_cons_of_mem _ hx), oct_put n hn be (h u List.mem_cons_self)]; rfl
theorem enc_written (n : Nat) (hn : n = 2 ∨ n = 4) (be mk : Bool) (ns : List Int) (h : ∀ c ∈ ns, scal c = true) : encN n ns be mk = (bif mk then put 65279 n be else []) ++ written ns n be := by
  have e : encN n ns be mk = (((bif mk then [65279] else []) ++ ns.flatMap (uN n)).flatMap fun u => (bif (n : Int) == 2 then oct16 u be else oct32 u be)).map toB := by
    unfold encN
    rcases hn with rfl | rfl
    · rfl
    · rw [show ns.flatMap (uN 4) = ns by
        show ns.flatMap (fun c => [c]) = ns
        induction ns with
        | nil => rfl
        | cons c ns ih => rw [List.flatMap_cons, ih fun x hx => h x (List.mem_cons_of_mem _ hx)]; rfl]
      rfl
  rw [e, enc_put n hn be _ fun u hu => ?_, List.flatMap_append, written_uN n hn]
  · cases mk with
    | true => rw [cond_true, cond_true]; simp
    | false => rfl
  · rcases List.mem_append.mp hu with hu | hu
    · cases mk with
      | true =>
        rw [List.mem_singleton.mp hu]
        rcases hn with rfl | rfl <;> decide
      | false => cases hu
    · obtain ⟨c, hc, hu⟩ := List.mem_flatMap.mp hu
      rcases hn with rfl | rfl
      · exact u16I_ok (h c hc) u hu
      · have := scal_iff.mp (h c hc)
        rw [List.mem_singleton.mp hu]
        show 0 ≤ c ∧ c < 16777216
        omega
theorem bad_put {ns : List Int} (h : ∀ c ∈ ns, scal c = true) : bad ns = none := List.find?_eq_none.mpr fun c hc => by rw [h c hc]; decide
theorem bad_odd {ns : List Int} (h : ∀ c ∈ ns, scal c = true) (j : Nat) {x : Int} (hx : scal x = false) (r : List Int) : bad (ns.take j ++ x :: r) = some x := by
  unfold bad
  rw [List.find?_append, show (ns.take j).find? (fun n => !scal n) = none from bad_put fun c hc => h c (List.mem_of_mem_take hc), Option.none_or, List.find?_cons, hx]; rfl
end Mine
end
section
-- P24
set_option linter.unusedVariables false
set_option maxRecDepth 100000
namespace Mine
open PySem PySem.Calls PyProof.Rows PySem.W
theorem badQ_ok {Q : D → Prop} {X : Exc → Prop} {ns : List Int} {d : D} (hb : bad ns = none) (h : Q d) : badQ Q X ns d := by unfold badQ; rw [hb]; exact h
noncomputable def sp_eright : Spec := fun ds kds Q X => ∃ (ns : List Int) (n : Nat) (o : Str) (a : Int), ds = [.list (ns.map .int), .int n, .str o, .int a] ∧ kds = [] ∧ (n = 2 ∨ n = 4) ∧ (o = "be" ∨ o = "le") ∧ (∀ c ∈ ns, scal c = true) ∧ ns.length ≤ 400 ∧ 0 ≤ a ∧ Q (.bool true)
theorem four {P : List Value → Prop} (h : ∀ x y z w, P [x, y, z, w]) : ∀ vs : List Value, vs.length = 4 → P vs
  | [x, y, z, w], _ => h x y z w
noncomputable def odds : List D := [.int 55296, .int 57343, .int 1114112, .int (-1), .int 56320]
theorem odd_ok (a : Int) : 0 ≤ a.fmod 5 ∧ a.fmod 5 < 5 ∧ ∃ x, odds.getD (a.fmod 5).toNat .none = .int x ∧ scal x = false := by
  rw [fmod_emod _ (by decide)]
  refine ⟨by omega, by omega, ?_⟩
  have : (a % 5).toNat = 0 ∨ (a % 5).toNat = 1 ∨ (a % 5).toNat = 2 ∨ (a % 5).toNat = 3 ∨ (a % 5).toNat = 4 := by omega
  rcases this with e | e | e | e | e <;> rw [e]
  · exact ⟨55296, rfl, by decide⟩
  · exact ⟨57343, rfl, by decide⟩
  · exact ⟨1114112, rfl, by decide⟩
  · exact ⟨-1, rfl, by decide⟩
  · exact ⟨56320, rfl, by decide⟩
theorem cNe {a b : D} {Q : Bool → Prop} (h : pEq a b fun r => Q (!r)) : pCmp .NotEq a b Q := Or.inl h
section
variable {W : Wd} (H : Bh W)
include H
theorem c_eright (r : Nat) : FnOk W (r + 8) "_law_encoded_right" sp_eright := by
  refine fnC H (i := 48) (fa := 277) (c := 276) (by rfl) (by rfl) (by rfl) (by rfl) (by rfl) (by rfl) (by decide +kernel) (by rfl) (by decide +kernel) fun ds kds Q X h => ?_
  obtain ⟨ns, n, o, a, rfl, rfl, hn, ho, hs, hl, ha, q⟩ := h
  have hn4 : 0 < (n : Int) ∧ (n : Int) ≤ 4 := by omega
  have hb := bad_put hs
  refine ⟨_, bindN (xs := [2, 18, 11, 13]) H.nm (show ∀ i ∈ [2, 18, 11, 13], i < 128 ∧ (stScope (stAt 48)).names.lookup (nmOf i) = some .local by decide +kernel) (by decide) rfl (four fun x y z w => by rfl), fun L Y frs O => ?_⟩
  refine WSs_cons O (WS_asgS H.ok O (xs := [12, 33]) (mem2 (sto 12 (by decide) (by rfl)) (sto 33 (by decide) (by rfl))) (by rfl) (by rfl) (WEs_cons O (by rfl) (WX_call H.ok O (by rfl) (by rfl) ⟨_, c_written H (r + 5), WEs_cons O (by rfl) (WE_vd H O 2 (H.n 2) rfl (WEs_cons O (by rfl) (WE_vd H O 18 (H.n 18) rfl (WEs_cons O (by rfl) (WE_vd H O 11 (H.n 11) rfl (WEs_nil ⟨ns, n, o, rfl, rfl, hn, by omega, ?_⟩))))))⟩)))
  refine WEs_cons O (by rfl) (WX_call H.ok O (by rfl) (by rfl) ⟨_, c_put H (r + 6), WEs_cons O (by rfl) (WE_i (WEs_cons O (by rfl) (WE_vd H O 18 (H.n 18) rfl (WEs_cons O (by rfl) (WE_vd H O 11 (H.n 11) rfl (WEs_nil ⟨_, n, o, rfl, rfl, hn, WEs_nil ⟨rfl, ?_⟩⟩))))))⟩)
  have e1 := enc_written n hn (o == "be") false ns hs
  have e2 := enc_written n hn (o == "be") true ns hs
  have e3 := dec_written n hn o ho ns hs
  rw [cond_false, List.nil_append] at e1
  rw [cond_true] at e2
  have l1 := written_len n hn (o == "be") ns
  have l2 := put_len 65279 n (o == "be")
  generalize written ns n (o == "be") = w at e1 e2 e3 l1 ⊢
  generalize put 65279 n (o == "be") = m at e2 e3 l2 ⊢
  have hmw : m.length + w.length ≤ 2000 := by omega
  refine WSs_cons O (WS.cut (Q' := fun fl g => fl = .nx ∧ Sub [(2, .v (.list (ns.map .int))), (18, .v (.int n)), (11, .v (.str o)), (13, .v (.int a)), (12, .v (.bytes w)), (33, .v (.bytes m)), (31, .v (.list [.bytes w, .bytes (m ++ w)]))] g)
    (WS_ite O (WT_cmp O (by rfl) (WE_vd H O 18 (H.n 18) rfl (WE_i ?_)))) fun fl g hg => ?_)
  · unfold encN at e1 e2
    refine And.intro (fun h => ?_) fun h => ?_ <;> (rw [show ((n : Int) == 2) = _ from h] at e1 e2)
    · rw [cond_true] at e1 e2
      refine WSs_cons O (WS_asg H.ok O (i := 31) (sto 31 (by decide) (by rfl)) (by rfl) (WE_lst O (by rfl) (WEs_cons O (by rfl) (WX_call H.ok O (by rfl) (by rfl) ⟨_, c_encode_utf16 H (r + 1), WEs_cons O (by rfl) (WE_vd H O 2 (H.n 2) rfl (WEs_cons O (by rfl) (WE_vd H O 11 (H.n 11) rfl (WEs_nil ⟨ns, o, false, .inr (.inl ⟨rfl, rfl, rfl⟩), by omega, badQ_ok hb ?_⟩))))⟩))))
      rw [e1]
      refine WEs_cons O (by rfl) (WX_callk H.ok O (by rfl) (by rfl) ⟨_, c_encode_utf16 H (r + 1), WEs_cons O (by rfl) (WE_vd H O 2 (H.n 2) rfl (WEs_cons O (by rfl) (WE_vd H O 11 (H.n 11) rfl (WEs_nil (WE_t ⟨ns, o, true, .inr (.inr ⟨rfl, rfl, rfl⟩), by omega, badQ_ok hb ?_⟩)))))⟩)
      rw [e2]
      exact WEs_nil (WSs_nil ⟨rfl, rfl, rfl, rfl, rfl, rfl, rfl, rfl, trivial⟩)
    · rw [cond_false] at e1 e2
      refine WSs_cons O (WS_asg H.ok O (i := 31) (sto 31 (by decide) (by rfl)) (by rfl) (WE_lst O (by rfl) (WEs_cons O (by rfl) (WX_call H.ok O (by rfl) (by rfl) ⟨_, c_encode_utf32 H (r + 2), WEs_cons O (by rfl) (WE_vd H O 2 (H.n 2) rfl (WEs_cons O (by rfl) (WE_vd H O 11 (H.n 11) rfl (WEs_nil ⟨ns, o, false, .inr (.inl ⟨rfl, rfl, rfl⟩), by omega, badQ_ok hb ?_⟩))))⟩))))
      rw [e1]
      refine WEs_cons O (by rfl) (WX_callk H.ok O (by rfl) (by rfl) ⟨_, c_encode_utf32 H (r + 2), WEs_cons O (by rfl) (WE_vd H O 2 (H.n 2) rfl (WEs_cons O (by rfl) (WE_vd H O 11 (H.n 11) rfl (WEs_nil (WE_t ⟨ns, o, true, .inr (.inr ⟨rfl, rfl, rfl⟩), by omega, badQ_ok hb ?_⟩)))))⟩)
      rw [e2]
      exact WEs_nil (WSs_nil ⟨rfl, rfl, rfl, rfl, rfl, rfl, rfl, rfl, trivial⟩)
  obtain ⟨rfl, hg⟩ := hg
  refine WS.sub hg ?_
  refine WSs_cons O (WS_ite O (WX.cut (Q' := fun b => b = false) (X' := fun _ => False) (WT_bo (u := true) (WTB_cons O (WT_cmp O (by rfl) (WE_vd H O 11 (H.n 11) rfl (WE_s ?_))))) (fun b hb => ?_) fun _ h => h.elim))
  · refine And.intro (fun h => ?_) fun h => rfl
    replace h : (o == ("be" : Str)) = true := h
    rw [h] at e1
    refine WTB_cons O (WT_cmp O (by rfl) (WX.cut (Q' := fun x => x = .cl (.bytes w)) (X' := fun _ => False) (WE_ife O (WT_cmp O (by rfl) (WE_vd H O 18 (H.n 18) rfl (WE_i ?_)))) (fun x hx => ?_) fun _ h => h.elim))
    · unfold encN at e1
      refine And.intro (fun h => ?_) fun h => ?_ <;> (rw [show ((n : Int) == 2) = _ from h] at e1)
      · rw [cond_true] at e1
        refine WX_call H.ok O (by rfl) (by rfl) ⟨_, c_encode_utf16 H (r + 1), WEs_cons O (by rfl) (WE_vd H O 2 (H.n 2) rfl (WEs_nil ⟨ns, "be", false, .inl ⟨rfl, rfl, rfl, rfl⟩, by omega, badQ_ok hb ?_⟩))⟩
        rw [show (("be" : Str) == "be") = true by decide, e1]
      · rw [cond_false] at e1
        refine WX_call H.ok O (by rfl) (by rfl) ⟨_, c_encode_utf32 H (r + 2), WEs_cons O (by rfl) (WE_vd H O 2 (H.n 2) rfl (WEs_nil ⟨ns, "be", false, .inl ⟨rfl, rfl, rfl, rfl⟩, by omega, badQ_ok hb ?_⟩))⟩
        rw [show (("be" : Str) == "be") = true by decide, e1]
    subst hx
    refine WE_vd H O 12 (H.n 12) rfl (cNe ?_)
    show (fun b => (b = true → _) ∧ (b = false → _)) (!(w == w))
    rw [beq_self_eq_true]
    exact And.intro (fun h => nomatch h) fun _ => rfl
  subst hb
  refine And.intro (fun h => nomatch h) fun _ => WSs_nil ?_
  refine WSs_cons O (WS_ite O (WX.cut (Q' := fun b => b = false) (X' := fun _ => False) ?_ (fun b hb => ?_) fun _ h => h.elim))
  · refine WT_bo (u := false) (WTB_cons O (WT_cmp O (by rfl) (WE_vd H O 31 (H.n 31) rfl (WE_lst O (by rfl) (WEs_cons O (by rfl) (WE_vd H O 12 (H.n 12) rfl (WEs_cons O (by rfl) (WE_bin O (WE_vd H O 33 (H.n 33) rfl (WE_vd H O 12 (H.n 12) rfl ?_))))))))))
    refine ⟨rfl, by omega, WEs_nil (Or.inr ⟨w, m ++ w, w, m ++ w, rfl, rfl, ?_⟩)⟩
    rw [beq_self_eq_true, beq_self_eq_true]
    refine And.intro (fun _ => ?_) fun h => nomatch h
    refine WTB_cons O (WT_cmp O (by rfl) (WX_call H.ok O (by rfl) (by rfl) ⟨_, c_told H (r + 2), WEs_cons O (by rfl) (WE_bin O (WE_vd H O 33 (H.n 33) rfl (WE_vd H O 12 (H.n 12) rfl ?_)))⟩))
    refine ⟨rfl, by omega, WEs_cons O (by rfl) (WE_vd H O 18 (H.n 18) rfl (WEs_cons O (by rfl) (WE_n (WEs_nil ⟨m ++ w, n, .none, rfl, rfl, .inl rfl, by rw [List.length_append]; omega, ?_⟩))))⟩
    rw [e3]
    refine WE_vd H O 2 (H.n 2) rfl (cNe (pEq_ints ?_))
    rw [decide_eq_true rfl]
    exact And.intro (fun _ => WTB_nil rfl) fun h => nomatch h
  subst hb
  refine And.intro (fun h => nomatch h) fun _ => WSs_nil ?_
  obtain ⟨o1, o2, x, ox, os⟩ := odd_ok a
  refine WSs_cons O (WS_asg H.ok O (i := 34) (sto 34 (by decide) (by rfl)) (by rfl) (WE_idx O (WE_lst O (by rfl) (WEs_cons O (by rfl) (WE_i (WEs_cons O (by rfl) (WE_i (WEs_cons O (by rfl) (WE_i (WEs_cons O (by rfl) (WE_neg O (WE_i (WEs_cons O (by rfl) (WE_i (WEs_nil (WE_bin O (WE_vd H O 13 (H.n 13) rfl (WE_i ⟨by decide, ⟨o1, o2, show 5 ≤ 4096 by decide, ?_⟩⟩))))))))))))))))))
  show isC (R.cl (odds.getD (a.fmod 5).toNat .none)) _
  rw [ox]
  refine WSs_cons O (WS_ret O (WE_cmp O (by rfl) (WX_call H.ok O (by rfl) (by rfl) ⟨_, c_refused H r, WEs_cons O (by rfl) (WE_bin O (WE_slT O (WE_vd H O 2 (H.n 2) rfl (WE_bin O (WE_vd H O 13 (H.n 13) rfl (WE_bin O (WE_bi H.ok O (f := 0) (by rfl) (by rfl) (WE_vd H O 2 (H.n 2) rfl ⟨by rw [List.length_map]; omega, WE_i ?_⟩))))))))⟩)))
  have hj : 0 ≤ a.fmod ((ns.length : Int) + 1) := by rw [fmod_emod _ (by omega)]; exact Int.emod_nonneg _ (by omega)
  rw [List.length_map]
  refine ⟨by omega, ⟨rfl, decide_eq_true hj, by rw [List.length_map]; omega, ?_⟩⟩
  have hcl : (cut (ns.map WData.int) none (some (a.fmod ((ns.length : Int) + 1)))) = (ns.take (a.fmod ((ns.length : Int) + 1)).toNat).map .int := by
    show ((ns.map WData.int).take _).drop 0 = _
    rw [List.drop_zero, List.map_take]
  rw [hcl]
  generalize (a.fmod ((ns.length : Int) + 1)).toNat = j
  have hjl : (ns.take j).length ≤ 400 := by rw [List.length_take]; omega
  refine WE_lst O (by rfl) (WEs_cons O (by rfl) (WE_vd H O 34 (H.n 34) rfl (WEs_cons O (by rfl) (WE_i (WEs_nil ⟨rfl, by rw [List.length_map]; show (ns.take j).length + 2 ≤ 4096; omega, WEs_cons O (by rfl) (WE_vd H O 18 (H.n 18) rfl (WEs_nil ⟨ns.take j ++ [x, 55297], n, by rw [List.map_append]; rfl, rfl, by rw [List.length_append]; show (ns.take j).length + 2 ≤ 900; omega, ?_⟩))⟩)))))
  rw [bad_odd hs j os [55297]]
  refine WE_vd H O 34 (H.n 34) rfl ?_
  show Q (.bool (x == x))
  rw [beq_self_eq_true]; exact q
end
end Mine
end
section
-- N7
set_option linter.unusedVariables false
set_option linter.unusedSimpArgs false
namespace Mine
open PySem PySem.Calls PyProof.Rows PySem.W
theorem rngL_range : ∀ (n : Nat) (a : Int), rngL a 1 n = (List.range n).map fun i => .int (a + i)
  | 0, _ => rfl
  | n + 1, a => by
    unfold rngL
    rw [rngL_range n (a + 1), List.range_succ_eq_map, List.map_cons, List.map_map, show a + ((0 : Nat) : Int) = a by omega]
    congr 1
    refine List.map_congr_left fun i _ => ?_
    show WData.int _ = WData.int _
    rw [Nat.succ_eq_add_one]
    congr 1; omega
theorem rng_one (n : Nat) : rngN 0 (n : Int) 1 = n := by
  unfold rngN Builtin.Range.rangeSize
  simp; omega
/-- the places of the units, as the law builds them -/
noncomputable def dueF : Int → List Int → List (Int × Bool)
  | _, [] => []
  | p, c :: ns => (p, false) :: (List.replicate (wid c - 1).toNat (p, true) ++ dueF (p + 1) ns)
theorem wid_or (c : Int) : wid c = 1 ∨ wid c = 2 := by unfold wid; cases decide (c < 65536) <;> simp
theorem wid_eq (c : Int) : 1 + (if decide (65535 < c) = true then 1 else 0 : Int) = wid c := by
  unfold wid
  by_cases h : 65535 < c
  · rw [decide_eq_false (show ¬ c < 65536 by omega), if_pos (decide_eq_true h)]; rfl
  · rw [decide_eq_true (show c < 65536 by omega), if_neg (by simpa using h)]; rfl
theorem dueF_len : ∀ (ns : List Int) (p : Int), (dueF p ns).length ≤ 2 * ns.length
  | [], _ => Nat.zero_le _
  | c :: ns, p => by
    unfold dueF
    rw [List.length_cons, List.length_append, List.length_replicate, List.length_cons]
    have := dueF_len ns (p + 1)
    have := wid_or c
    omega
theorem plc_due : ∀ (ns : List Int) (p : Int), (List.range ((dueF p ns).length + 2)).map (fun j : Nat => plc ns p (j : Int)) = dueF p ns ++ [(p + ns.length, false), (p + ns.length, false)]
  | [], p => by show [(p, false), (p, false)] = [(p + ((0 : Nat) : Int), false), (p + ((0 : Nat) : Int), false)]; rw [show p + ((0 : Nat) : Int) = p by omega]
  | c :: ns, p => by
    have ih := plc_due ns (p + 1)
    have e0 : plc (c :: ns) p ((0 : Nat) : Int) = (p, false) := by
      unfold plc; rcases wid_or c with h | h <;> (rw [h]; rfl)
    have e1 : ∀ j : Nat, wid c ≤ j → plc (c :: ns) p (j : Int) = plc ns (p + 1) ((j : Int) - wid c) := fun j h => by
      show (bif decide ((j : Int) < wid c) then _ else _) = _
      rw [decide_eq_false (by omega)]; rfl
    have ee : p + 1 + (ns.length : Int) = p + ((c :: ns).length : Nat) := by rw [List.length_cons]; omega
    rw [ee] at ih
    unfold dueF
    rcases wid_or c with h | h
    · have e3 : (wid c - 1).toNat = 0 := by omega
      rw [e3, List.replicate_zero, List.nil_append, List.length_cons, List.cons_append, ← ih, show (dueF (p + 1) ns).length + 1 + 2 = (dueF (p + 1) ns).length + 2 + 1 by omega, List.range_succ_eq_map, List.map_cons, e0, List.map_map]
      congr 1
      refine List.map_congr_left fun j _ => ?_
      show plc (c :: ns) p ((j + 1 : Nat) : Int) = _
      rw [e1 _ (by omega), h]; congr 1; omega
    · have e3 : (wid c - 1).toNat = 1 := by omega
      have e2 : plc (c :: ns) p ((1 : Nat) : Int) = (p, true) := by
        show (bif decide (((1 : Nat) : Int) < wid c) then (p, decide ((0 : Int) < ((1 : Nat) : Int))) else _) = _
        rw [h]; rfl
      rw [e3, show List.replicate 1 (p, true) = [(p, true)] from rfl, List.length_cons, List.length_append, List.length_singleton, List.cons_append, List.append_assoc, ← ih, show 1 + (dueF (p + 1) ns).length + 1 + 2 = (dueF (p + 1) ns).length + 2 + 1 + 1 by omega, List.range_succ_eq_map, List.range_succ_eq_map, List.map_cons, List.map_cons, List.map_cons, e0, List.map_map, List.map_map]
      show (p, false) :: plc (c :: ns) p ((1 : Nat) : Int) :: _ = _
      rw [e2]
      show _ = (p, false) :: (p, true) :: _
      congr 2
      refine List.map_congr_left fun j _ => ?_
      show plc (c :: ns) p ((j + 1 + 1 : Nat) : Int) = _
      rw [e1 _ (by omega), h]; congr 1; omega
noncomputable abbrev pbD (x : Int × Bool) : D := .tuple [.int x.1, .bool x.2]
noncomputable def pyPB (l : List (Int × Bool)) : List PyData := l.map fun x => .tuple [.int x.1, .bool x.2]
theorem ofPys_pb : ∀ l : List (Int × Bool), ofPys (pyPB l) = l.map pbD
  | [] => rfl
  | x :: is => by show ofPy (.tuple [.int x.1, .bool x.2]) :: ofPys (pyPB is) = _; rw [ofPys_pb is]; rfl
theorem sh_pb (l : List (Int × Bool)) : PyData.canLayAll0 (pyPB l) = true ∧ PyData.depthAll (pyPB l) ≤ 1 := by
  induction l with
  | nil => exact ⟨rfl, Nat.zero_le _⟩
  | cons x is ih =>
    obtain ⟨h1, h2⟩ := ih
    refine ⟨?_, ?_⟩
    · show (PyData.canLay0 (.tuple [.int x.1, .bool x.2]) && PyData.canLayAll0 (pyPB is)) = true
      rw [h1]; simp [PyData.canLay0, PyData.canLayAll0]
    · show max (PyData.depth (.tuple [.int x.1, .bool x.2])) (PyData.depthAll (pyPB is)) ≤ 1
      simp [PyData.depth, PyData.depthAll]; omega
theorem pEq_pb {l : List (Int × Bool)} {Q : Bool → Prop} (h : Q true) : pEq (.list (l.map pbD)) (.list (l.map pbD)) Q := by
  obtain ⟨h1, h2⟩ := sh_pb l
  have hl : PyData.canLay0 (.list (pyPB l)) = true := by simp [PyData.canLay0, h1]
  have hs : SeqAt.shaped (.list (pyPB l)) = true := by simp [SeqAt.shaped, PyData.canLay0, PyData.depth, h1]; omega
  exact ⟨.list (pyPB l), .list (pyPB l), by unfold ofPy; rw [ofPys_pb], by unfold ofPy; rw [ofPys_pb], hs, hs, by rw [SeqAt.eqv_refl _ hl]; exact h⟩
end Mine
end
section
-- P25
set_option linter.unusedVariables false
set_option maxRecDepth 100000
namespace Mine
open PySem PySem.Calls PyProof.Rows PySem.W
theorem cells_some {x : Str} : ∀ (ns : List (Str × NameKind)) (L L' : Nat) (acc acc' : List (Str × Addr)), ((acc.lookup x).isSome = true → (acc'.lookup x).isSome = true) → ((cellsFrom L ns acc).lookup x).isSome = true → ((cellsFrom L' ns acc').lookup x).isSome = true
  | [], _, _, _, _, h, e => h e
  | (n, k) :: r, L, L', acc, acc', h, e => by
    unfold cellsFrom at e ⊢
    cases hk : (k == NameKind.cell) with
    | false => rw [hk] at e; exact cells_some r L L' _ _ h e
    | true =>
      rw [hk] at e
      refine cells_some r (L + 1) (L' + 1) _ _ (fun q => ?_) e
      rw [List.lookup_cons] at q ⊢
      cases hx : x == n with
      | true => rfl
      | false => rw [hx] at q; exact h q
/-- a comprehension within a def with cells -/
theorem cpE {W : Wd} (H : Bh W) {fd : FuncData} {fa L : Addr} {Y : AP} {frs : List Env} {cs : Addr → List (Nat × Addr)} {scope : Scope} {x : Nat} {fv : List Nat} (hk : scope.kind = .function)
    (h : (∀ y ∈ scope.names, y.2 ≠ .cell ∧ (y.2 = .free → ((cellsFrom 0 fd.scope.names []).lookup y.1).isSome = true)) ∧ (x < 128 ∧ scope.names.lookup (nmOf x) = some .local) ∧ ∀ i ∈ fv, (nmOf i, NameKind.free) ∈ scope.names ∧ scope.names.lookup (nmOf i) = some .free ∧ fd.scope.names.lookup (nmOf i) = some .cell) :
    CpOk W (eFx fd fa L Y frs cs) scope x fv :=
  ⟨hk, fun y hy => (h.1 y hy).1, h.2.1, fun y hy e => cells_some _ _ _ _ _ (fun q => q) ((h.1 y hy).2 e), fun i hi => h.2.2 i hi⟩
theorem eFx_top {fd : FuncData} {fa L : Addr} {Y : AP} {frs : List Env} {cs : Addr → List (Nat × Addr)} : (eFx fd fa L Y frs cs).Top := ⟨frs, L, rfl, rfl⟩
section
variable {W : Wd} (H : Bh W)
include H
/-- a def of the text with cells of its own, from its rows -/
theorem fcC {i fa c : Nat} {n : Str} {dfl m : Value} {vs : Array Value} {t : Tok} {sp : Spec} {r : Nat} (x : Nat) (cs : Addr → List (Nat × Addr)) (e : (myK W.w.params).lookup fa = some ⟨.type "function", none, .func (mkF (stAt i) n n dfl m (.ref c)), #[]⟩)
    (ec : (myK W.w.params).lookup c = some ⟨.type "code", none, .fields vs, #[]⟩) (ev : vs[1]? = some (.str n t)) (h1 : (stScope (stAt i)).kind = .function) (h2 : (stScope (stAt i)).isCoroutine = false) (h3 : (stScope (stAt i)).isGenerator = false)
    (hd : (n == ("__debug__" : Str)) = false) (hm : nsIn (myK W.w.params) mainGlobals n = some (some (.ref fa))) (K : CelOk W (mkF (stAt i) n n dfl m (.ref c)) x cs)
    (h : ∀ ds kds Qd Xd, sp ds kds Qd Xd → kds = [] ∧ ∃ d, ds = [d] ∧ ∀ L Y frs, (eFx (mkF (stAt i) n n dfl m (.ref c)) fa L Y frs cs).Ok W →
      WS W (eFx (mkF (stAt i) n n dfl m (.ref c)) fa L Y frs cs) r [(x, .v d)] (execs (stBody (stAt i)) (callEnvC (mkF (stAt i) n n dfl m (.ref c)) L fa)) (fun fl _ => Qd (flD fl)) (fun _ _ => False)) : FnOk W (r + 1) n sp :=
  ⟨hd, fa, H.mg hm, contractC H.ok (H.def e ec ev h1 h2 h3) K h⟩
end
noncomputable def fI (f : Int → D) : D → D | .int c => f c | d => d
theorem fI_map (f : Int → D) (ns : List Int) : (ns.map WData.int).map (fI f) = ns.map f := by rw [List.map_map]; rfl
noncomputable def sp_places : Spec := fun ds kds Q X => ∃ ns : List Int, ds = [.list (ns.map .int)] ∧ kds = [] ∧ ns.length ≤ 400 ∧ Q (.bool true)
noncomputable def csP (L : Addr) : List (Nat × Addr) := [(2, L + 1), (9, L + 1 + 1)]
section
variable {W : Wd} (H : Bh W)
include H
theorem celP {m c : Value} : CelOk W (mkF (stAt 49) "_law_places_right" "_law_places_right" .none m c) 2 csP where
  clo := rfl
  bind := fun v => by rfl
  hx := by decide
  kx := .inr ⟨show (stScope (stAt 49)).names.lookup (nmOf 2) = some .cell by decide +kernel, fun L => by rfl⟩
  cel := fun L p hp => by
    rcases List.mem_cons.mp hp with rfl | hp
    · exact ⟨show (stScope (stAt 49)).names.lookup (nmOf 2) = some .cell by decide +kernel, show 2 < 128 by decide, by rfl⟩
    · rw [List.mem_singleton.mp hp]; exact ⟨show (stScope (stAt 49)).names.lookup (nmOf 9) = some .cell by decide +kernel, show 9 < 128 by decide, by rfl⟩
theorem c_places (r : Nat) : FnOk W (r + 2) "_law_places_right" sp_places := by
  refine fcC H 2 csP (i := 49) (fa := 282) (c := 281) (by rfl) (by rfl) (by rfl) (by rfl) (by rfl) (by rfl) (by decide +kernel) (by rfl) (celP H) fun ds kds Q X h => ?_
  obtain ⟨ns, rfl, rfl, hl, q⟩ := h
  refine ⟨rfl, _, rfl, fun L Y frs O => ?_⟩
  have hk9 : Sto W (eFx (mkF (stAt 49) "_law_places_right" "_law_places_right" .none (.str "law_nt0008_01" 485) (.ref 281)) 282 L Y frs csP) 9 := ⟨by decide, .inr ⟨_, List.mem_cons_of_mem _ (List.mem_singleton_self _)⟩⟩
  refine WSs_cons O (WS_asg H.ok O (i := 9) hk9 (by rfl) (WE_comp H.ok O (x := 1) (fv := []) (cpE H (by rfl) (by decide +kernel)) (by decide +kernel) (fun _ => rfl) (WIt_seq (i := 1) O (WE_vd H O 2 (H.n 2) rfl ?_))))
  refine ⟨by rw [List.length_map]; omega, _, rfl, fI fun c => .int (wid c), fun own C Z O' d hd => ?_, ?_⟩
  · obtain ⟨c, hc, rfl⟩ := List.mem_map.mp hd
    refine WE_bin O' (WE_i (WE_bi H.ok O' (f := 5) (by rfl) (by rfl) (WE_cmp O' (by rfl) (WE_vd H O' 1 (H.n 1) rfl (WE_i ?_)))))
    show WData.int _ = WData.int _
    rw [← wid_eq]
  rw [fI_map]
  refine WSs_cons O (WS_ite O (WX.cut (Q' := fun b => b = false) (X' := fun _ => False) (WT_cmp O (by rfl) (WX.cut (Q' := fun x => x = .cl (.list (((List.range (ns.length + 1)).map fun k => wids (ns.take k)).map .int))) (X' := fun _ => False) ?_ (fun x hx => ?_) fun _ h => h.elim)) (fun b hb => ?_) fun _ h => h.elim))
  · refine WE_comp H.ok O (x := 7) (fv := [2]) (cpE H (by rfl) (by decide +kernel)) (by decide +kernel) (fun _ => rfl) (WIt_rng1 H.ok O (i := 7) (by rfl) (by rfl) (WE_bin O (WE_bi H.ok O (f := 0) (by rfl) (by rfl) (WE_vd H O 2 (H.n 2) rfl ⟨by rw [List.length_map]; omega, WE_i ?_⟩))))
    rw [List.length_map]
    refine ⟨by omega, by omega, ?_⟩
    rw [show (ns.length : Int) + 1 = ((ns.length + 1 : Nat) : Int) by omega, rng_one, rngL_range]
    refine ⟨by rw [List.length_map, List.length_range]; omega, _, rfl, fI fun c => .int (wids (ns.take c.toNat)), fun own C Z O' d hd => ?_, ?_⟩
    · obtain ⟨k, hk, rfl⟩ := List.mem_map.mp hd
      refine WX_call H.ok O' (by rfl) (by rfl) ⟨_, c_units_ahead H r, WEs_cons O' (by rfl) (WE_vd H O' 2 (H.n 2) rfl (WEs_cons O' (by rfl) (WE_vd H O' 7 (H.n 7) rfl (WEs_nil ⟨ns, _, rfl, rfl, by omega, by omega, rfl⟩))))⟩
    · show R.cl (.list _) = R.cl (.list _)
      rw [List.map_map, List.map_map]
      congr 2
      refine List.map_congr_left fun k _ => ?_
      show WData.int (wids (ns.take (0 + (k : Int)).toNat)) = _
      rw [show (0 + (k : Int)).toNat = k by omega]; rfl
  · subst hx
    refine WE_comp H.ok O (x := 19) (fv := [9]) (cpE H (by rfl) (by decide +kernel)) (by decide +kernel) (fun _ => rfl) (WIt_rng1 H.ok O (i := 19) (by rfl) (by rfl) (WE_bin O (WE_bi H.ok O (f := 0) (by rfl) (by rfl) (WE_vd H O 2 (H.n 2) rfl ⟨by rw [List.length_map]; omega, WE_i ?_⟩))))
    rw [List.length_map]
    refine ⟨by omega, by omega, ?_⟩
    rw [show (ns.length : Int) + 1 = ((ns.length + 1 : Nat) : Int) by omega, rng_one, rngL_range]
    refine ⟨by rw [List.length_map, List.length_range]; omega, _, rfl, fI fun c => .int (wids (ns.take c.toNat)), fun own C Z O' d hd => ?_, ?_⟩
    · obtain ⟨k, hk, rfl⟩ := List.mem_map.mp hd
      refine WE_bi H.ok O' (f := 4) (by rfl) (by rfl) (WE_slT O' (WE_vd H O' 9 (H.n 9) rfl (WE_vd H O' 19 (H.n 19) rfl ⟨rfl, show decide ((0 : Int) ≤ 0 + (k : Int)) = true from decide_eq_true (by omega), by rw [List.length_map]; omega, ?_⟩)))
      refine ⟨(ns.take k).map wid, ?_, ?_⟩
      · show WData.list (((ns.map fun c => WData.int (wid c)).take (0 + (k : Int)).toNat).drop 0) = _
        rw [List.drop_zero, show (0 + (k : Int)).toNat = k by omega, ← List.map_take, List.map_map]; rfl
      · show WData.int (wids (ns.take k)) = WData.int (wids (ns.take (0 + (k : Int)).toNat))
        rw [show (0 + (k : Int)).toNat = k by omega]
    · refine cNe ?_
      rw [show ((List.range (ns.length + 1)).map fun i : Nat => WData.int (0 + (i : Int))).map (fI fun c => .int (wids (ns.take c.toNat))) = ((List.range (ns.length + 1)).map fun k => wids (ns.take k)).map .int from ?_]
      · refine pEq_ints ?_
        rw [decide_eq_true rfl]
        exact rfl
      · rw [List.map_map, List.map_map]
        refine List.map_congr_left fun k _ => ?_
        show WData.int (wids (ns.take (0 + (k : Int)).toNat)) = _
        rw [show (0 + (k : Int)).toNat = k by omega]; rfl
  subst hb
  refine And.intro (fun h => nomatch h) fun _ => WSs_nil ?_
  refine WSs_cons O (WS_asgL H.ok O (i := 32) (sto 32 (by decide) (by rfl)) (by rfl) (WEs_nil ?_))
  refine WSs_cons O (WS_for H.ok O eFx_top (Tgt.tup (i := 7) (j := 18) (.cons (i := 7) (.cons (i := 18) .nil))) (mem2 (sto 7 (by decide) (by rfl)) (sto 18 (by decide) (by rfl))) (fun _ => rfl) (WIt_enum H.ok O (i := 7) (j := 18) (by rfl) (by rfl) (WE_vd H O 9 (H.n 9) rfl ?_)))
  refine ⟨fun rest g => ∃ ms p ds, g = [(2, .v (.list (ns.map .int))), (9, .v (.list (ns.map fun c => .int (wid c)))), (32, .o (ds.map pbD))] ∧ rest = enumL p (ms.map fun c => .int (wid c)) ∧ p + ms.length = ns.length ∧ ds ++ dueF p ms = dueF 0 ns ∧ ds.length + 2 * ms.length ≤ 800,
    ⟨[(2, .v (.list (ns.map .int))), (9, .v (.list (ns.map fun c => .int (wid c)))), (32, .o [])], ⟨rfl, rfl, rfl, trivial⟩, ns, 0, [], rfl, rfl, by omega, rfl, by simp; omega⟩, fun d rest g ⟨ms, p, ds, hg, e, b, c, hn⟩ => ?_, fun g ⟨ms, p, ds, hg, e, b, c, hn⟩ => ?_⟩
  · subst hg
    cases ms with
    | nil => cases e
    | cons m ms =>
      cases e
      rw [List.length_cons] at b hn
      have hw := wid_or m
      replace c : ds ++ ((p, false) :: (List.replicate (wid m - 1).toNat (p, true) ++ dueF (p + 1) ms)) = dueF 0 ns := c
      refine ⟨[.int p, .int (wid m)], rfl, rfl, WSs_cons O (WS_asgA H.ok O (i := 32) (sto 32 (by decide) (by rfl)) (by rfl) (WE_bin O (WE_vo H O 32 (H.n 32) rfl (WE_lst O (by rfl) (WEs_cons O (by rfl) (WE_tup O (by rfl) (WEs_cons O (by rfl) (WE_vd H O 7 (H.n 7) rfl (WEs_cons O (by rfl) (WE_t (WEs_nil (WEs_nil ?_))))))))))))⟩
      refine ⟨rfl, by rw [List.length_map]; show ds.length + 1 ≤ 4096; omega, ?_⟩
      refine WE_bin O (WE_lst O (by rfl) (WEs_cons O (by rfl) (WE_tup O (by rfl) (WEs_cons O (by rfl) (WE_vd H O 7 (H.n 7) rfl (WEs_cons O (by rfl) (WE_t (WEs_nil (WEs_nil (WE_bin O (WE_vd H O 18 (H.n 18) rfl (WE_i ?_))))))))))))
      refine ⟨_, rfl, rfl, by omega, by omega, ?_⟩
      refine ⟨by rw [List.length_append, List.length_map, List.length_replicate]; show ds.length + 1 + _ ≤ 4096; omega, ?_⟩
      refine WSs_nil ⟨[(2, .v (.list (ns.map .int))), (9, .v (.list (ns.map fun c => .int (wid c)))), (32, .o ((ds ++ [(p, false)] ++ List.replicate (wid m - 1).toNat (p, true)).map pbD))], ⟨rfl, rfl, ?_, trivial⟩, ms, p + 1, _, rfl, rfl, by omega, ?_, ?_⟩
      · rw [List.map_append, List.map_append, List.map_replicate]; rfl
      · rw [List.append_assoc, List.append_assoc]; exact c
      · rw [List.length_append, List.length_append, List.length_replicate]; show ds.length + 1 + _ + _ ≤ 800; omega
  · cases ms with
    | cons _ _ => cases e
    | nil =>
      subst hg
      have c' : ds ++ [] = dueF 0 ns := c
      rw [List.append_nil] at c'
      have hdl := dueF_len ns 0
      rw [c']
      refine WSs_cons O (WS_ap H O 32 (H.n 32) (by rfl) (by rfl) rfl (WE_tup O (by rfl) (WEs_cons O (by rfl) (WE_bi H.ok O (f := 0) (by rfl) (by rfl) (WE_vd H O 2 (H.n 2) rfl ⟨by rw [List.length_map]; omega, WEs_cons O (by rfl) (WE_t (WEs_nil ⟨by rw [List.length_map]; omega, ?_⟩))⟩)))))
      refine WSs_cons O (WS_ap H O 32 (H.n 32) (by rfl) (by rfl) rfl (WE_tup O (by rfl) (WEs_cons O (by rfl) (WE_bi H.ok O (f := 0) (by rfl) (by rfl) (WE_vd H O 2 (H.n 2) rfl ⟨by rw [List.length_map]; omega, WEs_cons O (by rfl) (WE_t (WEs_nil ⟨by rw [List.length_append, List.length_map]; show _ + 1 ≤ 4096; omega, ?_⟩))⟩)))))
      have hlen : (dueF 0 ns ++ [((ns.length : Int), false), ((ns.length : Int), false)]).length = (dueF 0 ns).length + 2 := by rw [List.length_append]; rfl
      have hd := plc_due ns 0
      rw [Int.zero_add, ← hlen] at hd
      refine WS.sub (g₀ := [(2, .v (.list (ns.map .int))), (32, .o ((dueF 0 ns ++ [((ns.length : Int), false), ((ns.length : Int), false)]).map pbD))]) ⟨rfl, ?_, trivial⟩ ?_
      · show some (Mine.L.o ((dueF 0 ns).map pbD ++ [.tuple [.int ((ns.map WData.int).length : Nat), .bool false]] ++ [.tuple [.int ((ns.map WData.int).length : Nat), .bool false]])) = _
        rw [List.length_map, List.map_append, List.append_assoc]; rfl
      generalize dueF 0 ns ++ [((ns.length : Int), false), ((ns.length : Int), false)] = fin at hlen hd ⊢
      refine WSs_cons O (WS_ret O (WE_cmp O (by rfl) (WE_comp H.ok O (x := 0) (fv := [2]) (cpE H (by rfl) (by decide +kernel)) (by decide +kernel) (fun _ => rfl) (WIt_rng1 H.ok O (i := 0) (by rfl) (by rfl) (WE_bi H.ok O (f := 0) (by rfl) (by rfl) (WE_vd H O 32 (H.n 32) rfl ⟨by rw [List.length_map]; omega, ?_⟩))))))
      rw [List.length_map]
      refine ⟨by omega, by omega, ?_⟩
      rw [rng_one, rngL_range]
      refine ⟨by rw [List.length_map, List.length_range]; omega, _, rfl, fI fun c => pbD (plc ns 0 c), fun own C Z O' d hd => ?_, ?_⟩
      · obtain ⟨k, hk, rfl⟩ := List.mem_map.mp hd
        refine WE_bi H.ok O' (f := 3) (by rfl) (by rfl) (WX_call H.ok O' (by rfl) (by rfl) ⟨_, c_place_of_unit H r, WEs_cons O' (by rfl) (WE_vd H O' 2 (H.n 2) rfl (WEs_cons O' (by rfl) (WE_vd H O' 0 (H.n 0) rfl (WEs_nil ⟨ns, _, rfl, rfl, by omega, ?_⟩))))⟩)
        rfl
      · refine WE_vd H O 32 (H.n 32) rfl (cEq ?_)
        rw [show ((List.range fin.length).map fun i : Nat => WData.int (0 + (i : Int))).map (fI fun c => pbD (plc ns 0 c)) = fin.map pbD from ?_]
        · exact pEq_pb q
        · rw [← hd, List.map_map, List.map_map, List.length_map, List.length_range]
          refine List.map_congr_left fun k _ => ?_
          show pbD (plc ns 0 (0 + (k : Int))) = pbD (plc ns 0 (k : Int))
          rw [Int.zero_add]
end
end Mine
end
section
-- U38
set_option linter.unusedVariables false
set_option maxRecDepth 100000
namespace Mine
open PySem PySem.Calls PyProof.Rows PySem.W
section
open Builtin
theorem look_buffer : typeLookup (.type "bytes") "__buffer__" = pure (some (.builtin "bytes.__buffer__")) := by rw [typeLookup_type, builtinLookup_eq_fast]; kernel_rfl
theorem look_release : typeLookup (.type "bytes") "__release_buffer__" = pure none := by rw [typeLookup_type, builtinLookup_eq_fast]; kernel_rfl
theorem slot_join : Slot "bytes" "join" "bytes.join" :=
  .of (owner := "bytes") (n := "join") (by rw [typeLookup_type, builtinLookup_eq_fast]; kernel_rfl) (by decide +kernel) (by decide +kernel) (by decide +kernel)
    (by first | exact .inl (by decide +kernel) | exact .inr (by decide +kernel)) (by rw [isSubtype_type]; kernel_rfl)
theorem type_join : typeOf (.builtin "bytes.join") = pure (.type "method_descriptor") := by show builtinType _ = _; rw [builtinType_eq_fast]; kernel_rfl
theorem entry_join : entryFor table "bytes.join" = some Builtin.«bytes.join» := entryFor_of_tree (by kernel_rfl)
theorem args_join (a b : Value) : argsOk "bytes.join" ⟨[a, b], []⟩ := by
  unfold argsOk; rw [signature?_of (id := "bytes.join") (n := ['n', 'i', 'o', 'j']) (o := ['s', 'e', 't', 'y', 'b']) (by kernel_rfl) FB.owner_bytes]; kernel_rfl
theorem own_slot {M : Model} {A : Around} {E : Value → Shared → Prop} {s : Shared} {b : Array UInt8} {t : Tok} {Q : Bool → Shared → Prop} (h : Q true s) : wpAny M A (Bytes.slotIsOwn (.bytes b t) "__buffer__") Q E s := by
  unfold Bytes.slotIsOwn
  refine wpAny_bind (wpAny_specialOf (T := "bytes") (typeIs_bytes _ _ _) look_buffer ?_)
  show wpAny _ _ (if (!"bytes.__buffer__".endsWith ("." ++ "__buffer__")) = true then _ else _) _ _ _
  rw [if_neg (by decide +kernel)]
  refine wpAny_of_eq (a := true) ?_ h
  show isSubtype (.type "bytes") (.type _) = _
  rw [isSubtype_type]; kernel_rfl
theorem buf_bytes {M : Model} {A : Around} {E : Value → Shared → Prop} {s : Shared} {id : String} {b : Array UInt8} {t : Tok} {Q : Option (Array UInt8) → Shared → Prop} (h : Q (some b) s) : wpAny M A (Bytes.buffer? id (.bytes b t)) Q E s := by
  unfold Bytes.buffer?
  refine wpAny_bind (wpAny_specialOf (T := "bytes") (typeIs_bytes _ _ _) look_buffer ?_)
  refine wpAny_bind (own_slot ?_)
  rw [if_neg (by decide)]
  refine wpAny_bind (wpAny_specialOf (T := "bytes") (typeIs_bytes _ _ _) look_buffer ?_)
  refine wpAny_bind (wpAny_bind ?_)
  unfold Bytes.slotIsOwn
  refine wpAny_bind (wpAny_specialOf (T := "bytes") (typeIs_bytes _ _ _) look_release ?_)
  refine wpAny_pure (wpAny_pure ?_)
  rw [if_neg (by decide)]
  exact wpAny_bind (wpAny_of_eq (a := b) rfl (wpAny_pure h))
theorem take_bytes {M : Model} {A : Around} {E : Value → Shared → Prop} {s : Shared} {id : String} {b : Array UInt8} {t : Tok} {Q : Option (Array UInt8 × Option Value) → Shared → Prop} (h : Q (some (b, none)) s) : wpAny M A (Bytes.takeBufferQuiet? id (.bytes b t) 0) Q E s := by
  unfold Bytes.takeBufferQuiet?
  refine wpAny_bind (wpAny_attempt ?_)
  unfold Bytes.takeBuffer?
  refine wpAny_bind (wpAny_specialOf (T := "bytes") (typeIs_bytes _ _ _) look_buffer ?_)
  refine wpAny_bind (own_slot ?_)
  rw [if_neg (by decide)]
  refine wpAny_bind (wpAny_specialOf (T := "bytes") (typeIs_bytes _ _ _) look_buffer ?_)
  refine wpAny_bind ?_
  exact buf_bytes (wpAny_pure (wpAny_pure h))
noncomputable def BsAre (vs : List Value) (bs : List (List UInt8)) : Prop := vs.length = bs.length ∧ ∀ (i : Nat) (b : List UInt8), bs[i]? = some b → ∃ t, vs[i]? = some (Value.bytes b.toArray t)
theorem joined_flat (bs : List (List UInt8)) : Bytes.joined #[] (bs.map List.toArray) = bs.flatten.toArray := by
  unfold Bytes.joined
  suffices h : ∀ (bs : List (List UInt8)) (k : Nat) (o : Array UInt8), ((bs.map List.toArray).zipIdx k).foldl (fun out (x : Array UInt8 × Nat) => (if x.2 > 0 then out ++ #[] else out) ++ x.1) o = o ++ bs.flatten.toArray by
    have := h bs 0 #[]; rw [Array.empty_append] at this; exact this
  intro bs
  induction bs with
  | nil => intro k o; simp
  | cons b bs ih =>
    intro k o
    rw [List.map_cons, List.zipIdx_cons, List.foldl_cons, ih]
    simp
theorem parts_len (bs : List (List UInt8)) (k : Nat) : (bs.map List.toArray).foldl (fun (k : Nat) (x : Array UInt8) => k + x.size) k = k + bs.flatten.length := by
  induction bs generalizing k with
  | nil => rfl
  | cons b bs ih => rw [List.map_cons, List.foldl_cons, ih, List.flatten_cons, List.length_append, List.size_toArray, Nat.add_assoc]
theorem let_go {M : Model} {A : Around} {E : Value → Shared → Prop} {s : Shared} {keep : List Value} : ∀ {l : List Value} {Q : Unit → Shared → Prop}, Q () s → wpAny M A (Bytes.joinLetGo (l.map fun x => (x, none)) keep) Q E s
  | [], Q, h => wpAny_pure h
  | x :: l, Q, h => by
    show wpAny _ _ (letGo [x] _ >>= fun _ => Bytes.joinLetGo (l.map fun x => (x, none)) keep) _ _ _
    exact wpAny_bind (wpAny_letGo (let_go h))
theorem join_bytes {a : Addr} {t : Tok} {vs : List Value} {bs : List (List UInt8)} {n : Nat} (B : BsAre vs bs) (z : bs.flatten.length ≤ 4096) :
    Meets («bytes.join» ⟨[.bytes #[] t, .ref a], []⟩) (fun _ R s => s.heap.get? a = some { cls := .type "list", dict := none, data := .seq vs.toArray n, slots := #[] } ∧ ∀ t' k, R (.ok (.ret (.bytes bs.flatten.toArray t'))) { s with toks := k }) := by
  refine .of_wp fun prog w A R s hS => ?_
  obtain ⟨ho, h⟩ := hS
  show wpAny _ _ (Bytes.joinItems (.ref a) >>= fun r => _) _ _ s
  refine wpAny_bind ?_
  unfold Bytes.joinItems
  refine wpAny_bind (wpAny_typeOf (T := "list") ⟨_, ho, rfl⟩ ?_)
  rw [if_pos (by decide)]
  refine wpAny_pure ?_
  refine wpAny_bind (wpAny_seqItems ho rfl ?_)
  dsimp -zeta only
  lift_lets
  intro P0 T0 J
  rw [if_pos (by decide)]
  have hJ : wpAny (model prog w) A.in1 (J ()) (fun fin s' => ∃ v, fin = Fin.done (Flow.ret v) ∧ R (Except.ok (Flow.ret v)) s') (fun e s' => R (Except.error e) s') s := by
    show wpAny _ _ (forIn (m := Sem) [:vs.toArray.size] _ _ >>= _) _ _ _
    rw [Std.Legacy.Range.forIn_eq_forIn_range']
    simp only [Std.Legacy.Range.size, Nat.sub_zero, Nat.add_sub_cancel, Nat.div_one]
    refine wpAny_bind (wpAny_forIn_list _ (fun rest p s' => ∃ i, rest = List.range' i (vs.length - i) ∧ i ≤ vs.length ∧ p = (((bs.take i).map List.toArray).toArray, (vs.take i).map fun x => (x, none)) ∧ s' = s) _ ?_ ?_ _ _ ⟨0, by simp, Nat.zero_le _, rfl, rfl⟩)
    · rintro x rest' _ s' ⟨i, hr, hi, rfl, rfl⟩
      have hlt : i < vs.length := by
        rcases Nat.lt_or_ge i vs.length with h | h
        · exact h
        · rw [Nat.sub_eq_zero_of_le h] at hr; simp at hr
      obtain ⟨rfl, hrest⟩ : x = i ∧ rest' = List.range' (i + 1) (vs.length - (i + 1)) := by
        have e : vs.length - i = (vs.length - (i + 1)) + 1 := by omega
        rw [e, List.range'_succ] at hr
        injection hr with h1 h2
        exact ⟨h1, h2⟩
      obtain ⟨u, e⟩ := B.2 x (bs[x]'(B.1 ▸ hlt)) (List.getElem?_eq_getElem _)
      refine wpAny_bind (wpAny_seqItems ho rfl ?_)
      dsimp only
      have ex : vs.toArray.getD x Value.none = .bytes (bs[x]'(B.1 ▸ hlt)).toArray u := by
        rw [Array.getD_eq_getD_getElem?, List.getElem?_toArray, e]; rfl
      rw [if_neg ?_, ex]
      · refine wpAny_bind (wpAny_holding (take_bytes ?_))
        refine wpAny_bind (wpAny_seqItems ho rfl ?_)
        dsimp only
        rw [if_neg (by simp)]
        refine wpAny_pure ⟨x + 1, hrest, hlt, ?_, rfl⟩
        rw [List.take_add_one, List.take_add_one, e, List.getElem?_eq_getElem (show x < bs.length from B.1 ▸ hlt), List.map_append, List.map_append]
        refine Prod.ext ?_ rfl
        show Array.push _ _ = _
        simp only [List.push_toArray]
        rfl
      · rw [Bool.not_eq_true, Bool.or_eq_false_iff]
        refine ⟨by decide, ?_⟩
        rw [List.any_eq_false]
        intro y hy
        obtain ⟨v, hv, rfl⟩ := List.mem_map.mp hy
        obtain ⟨j, hj, rfl⟩ := List.getElem_of_mem (List.mem_of_mem_take hv)
        obtain ⟨u, e⟩ := B.2 j (bs[j]'(B.1 ▸ hj)) (List.getElem?_eq_getElem _)
        rw [List.getElem?_eq_getElem hj] at e
        have e' := Option.some.inj e
        show ¬ (vs[j].onHeap = true)
        rw [e']
        exact fun q => nomatch q
    · rintro p s' ⟨i, hr, hi, rfl, rfl⟩
      have hi' : i = vs.length := by
        rcases Nat.lt_or_ge i vs.length with h | h
        · rw [show vs.length - i = (vs.length - (i + 1)) + 1 by omega, List.range'_succ] at hr; cases hr
        · omega
      subst hi'
      rw [List.take_length, B.1, List.take_length]
      refine wpAny_bind (wpAny_of_eq (a := #[]) rfl ?_)
      dsimp only
      rw [if_neg ?_]
      · refine wpAny_bind ?_
        show wpAny _ _ (mkBytes (Bytes.joined #[] (bs.map List.toArray))) _ _ _
        rw [joined_flat]
        refine wpAny_mkBytes ?_ (Nat.le_trans (by rw [List.size_toArray]; exact z) big)
        refine wpAny_bind (wpAny_holding (wpAny_point ?_))
        exact wpAny_bind (let_go (wpAny_pure ⟨_, rfl, h _ _⟩))
      · show ¬ (Bytes.tooLong (((bs.map List.toArray).toArray).foldl (fun x1 x2 => x1 + x2.size) (0 * _)) = true)
        rw [Nat.zero_mul, List.foldl_toArray', parts_len]
        unfold Bytes.tooLong
        rw [decide_eq_true_eq, sizeLine_eq]
        · omega
        · rfl
  clear_value J P0 T0
  match vs, hJ, B with
  | [x], _, B =>
    obtain ⟨b, rfl⟩ : ∃ b, bs = [b] := by
      have := B.1
      match bs, this with
      | [b], _ => exact ⟨b, rfl⟩
    obtain ⟨u, e⟩ := B.2 0 b rfl
    cases e
    refine wpAny_bind (wpAny_typeOf (T := "bytes") (typeIs_bytes _ _ _) ?_)
    rw [if_pos (by decide)]
    refine wpAny_bind (wpAny_rule (wpAny_pure ⟨_, rfl, ?_⟩))
    have := h u s.toks
    rw [List.flatten_cons, List.flatten_nil, List.append_nil] at this
    exact this
  | [], hJ, _ => exact hJ
  | _ :: _ :: _, hJ, _ => exact hJ
end
theorem bs_are {h : Heap} {V : AP} : ∀ {bs : List (List UInt8)} {vs : List Value}, DenL h V vs (bs.map .bytes) → BsAre vs bs
  | [], _, r => by cases r; exact ⟨rfl, fun i b e => nomatch e⟩
  | b :: bs, _, r => by
    cases r with
    | cons a r =>
      obtain ⟨t, rfl⟩ := Den.t a
      obtain ⟨e, q⟩ := bs_are r
      refine ⟨congrArg Nat.succ e, fun i c hc => ?_⟩
      cases i with
      | zero => cases hc; exact ⟨t, rfl⟩
      | succ i => exact q i c hc
section
variable {W : Wd} {F : Fx} {r : Nat} {g : G} {Q : R → Prop} {X : Exc → Prop}
theorem WE_join (O : F.Ok W) {e : Expr} {p1 p2 p3 : Pos} {k : Nat} (he : notStar e = true) (hl : (p2.endLine == p3.line) = true)
    (h : WE W F r g e (fun x => pJoin x.d fun d => Q (.cl d)) X) : WE W F r g (.Call (.Attribute (.Constant (.bytes []) k p1) "join" p2) [e] [] p3) Q X := fun A s own Qs Es hA S hQ hE => by
  refine wpAny_Call_method rfl (few_one he) hl FB.plainAttrs_bytes slot_join type_join (Constant_bytes ⟨typeIs_bytes _ _ _, fun b q => (nomatch q), ?_⟩)
  rw [back_cons he]
  refine seqMethod1_meets slot_join entry_join (WX.seq (s := { s with toks := s.toks + 1 }) O h hA S (fun e s' x st ea xa => hE e s' x ((Step.tok _ _ _).trans st) ea xa) fun v s₁ x st S₁ rd q hE₁ => ?_)
  obtain ⟨bs, e, z1, z, q⟩ := q
  have t := RDen.t rd
  rw [e] at t
  obtain ⟨b, ws, rfl, ⟨n, lb⟩, dm⟩ := t
  refine ⟨typeIs_bytes _ _ _, args_join _ _, _, join_bytes (bs_are dm) z, lb, fun t' k => ?_⟩
  exact hQ _ _ (.cl _) ((Step.tok _ _ _).trans (st.trans (.tok _ _ _))) (.bytes _ _) q
end
end Mine
end
section
-- N8
set_option linter.unusedVariables false
set_option maxRecDepth 100000
namespace Mine
open PySem PySem.Calls PyProof.Rows PySem.W
theorem numC_nn : ∀ (l : List UInt8) {x : Int}, 0 ≤ x → 0 ≤ numC l x
  | [], x, h => h
  | b :: l, x, h => numC_nn l (by unfold bi; have := Int.natCast_nonneg b.toNat; omega)
theorem unitsR_nn (l : List UInt8) (n : Nat) (be : Bool) : ∀ (j : Nat) (a : Int), ∀ u ∈ unitsR l n be j a, 0 ≤ u
  | 0, _, _, h => nomatch h
  | j + 1, a, u, h => by
    rcases List.mem_cons.mp h with rfl | h
    · exact numC_nn _ (Int.le_refl 0)
    · exact unitsR_nn l n be j _ u h
theorem getD_nn {us : List Int} (h : ∀ u ∈ us, 0 ≤ u) (k : Nat) : 0 ≤ us.getD k 0 := by
  rw [List.getD_eq_getElem?_getD]
  cases e : us[k]? with
  | none => exact Int.le_refl 0
  | some u => exact h u (List.mem_of_getElem? e)
theorem scal_of {c : Int} (h0 : 0 ≤ c) (h1 : c ≤ 1114111) (h2 : c < 55296 ∨ 57344 ≤ c) : scal c = true := by
  unfold scal
  rw [decide_eq_true h0, decide_eq_true h1, Bool.true_and, Bool.true_and, Bool.not_eq_true', Bool.and_eq_false_iff]
  exact h2.imp (fun h => decide_eq_false (by omega)) fun h => decide_eq_false (by omega)
theorem stepR_scal {us : List Int} (h : ∀ u ∈ us, 0 ≤ u) (n k : Nat) : scal (stepR us n k).1 = true := by
  have h0 := getD_nn h k
  unfold stepR
  cases hp : pairAt us n k with
  | true =>
    unfold pairAt hiU loU at hp
    simp only [Bool.and_eq_true, decide_eq_true_eq] at hp
    exact scal_of (c := 65536 + 1024 * (us.getD k 0 - 55296) + us.getD (k + 1) 0 - 56320) (by omega) (by omega) (by omega)
  | false =>
    cases hb : half (us.getD k 0) || decide (1114111 < us.getD k 0) with
    | true => rfl
    | false =>
      unfold half at hb
      simp only [Bool.or_eq_false_iff, Bool.and_eq_false_iff, decide_eq_false_iff_not] at hb
      exact scal_of (c := us.getD k 0) h0 (by omega) (by omega)
theorem readR_scal {us : List Int} (h : ∀ u ∈ us, 0 ≤ u) (n : Nat) : ∀ m k, ∀ c ∈ (readR us n m k).1, scal c = true
  | 0, _, _, h => nomatch h
  | m + 1, k, c, hc => by
    rw [readR_succ] at hc
    cases hk : decide (k < us.length) with
    | false => rw [hk] at hc; cases hc
    | true =>
      rw [hk] at hc
      rcases List.mem_cons.mp hc with rfl | hc
      · exact stepR_scal h n k
      · exact readR_scal h n m _ c hc
theorem readI_scal (l : List UInt8) (n : Nat) (be : Bool) : ∀ c ∈ (readI l n be).1, scal c = true := by
  have h := readR_scal (unitsR_nn l n be (l.length / n) 0) n
  intro c hc
  unfold readI at hc
  cases e : ((l.length : Int).fmod n == 0) with
  | true => rw [e] at hc; exact h _ _ c hc
  | false =>
    rw [e] at hc
    rcases List.mem_append.mp hc with hc | hc
    · exact h _ _ c hc
    · rw [List.mem_singleton.mp hc]; rfl
theorem put_len' (u : Int) (n : Nat) (be : Bool) : (put u n be).length = n := by unfold put; rw [List.length_map]; exact (putI_ok u n be).2
noncomputable def halvesL : List Int := [65, 55296, 56320, 56319, 57343, 65279, 65534, 0, 57344, 65535, 55357, 56832]
noncomputable def numbersL : List Int := [65, 55296, 57343, 1114111, 1114112, 65279, 4294836224, 0, 57344, 55295, 65536, 4294967295]
noncomputable def someL (n : Nat) : List Int := bif (n : Int) == 2 then halvesL else numbersL
theorem someL_len (n : Nat) : (someL n).length = 12 := by unfold someL; cases (n : Int) == 2 <;> rfl
noncomputable def sizeN (f : Int) : Nat := bif f.fmod 2 == 0 then 2 else 4
theorem sizeN_ok (f : Int) : (sizeN f = 2 ∨ sizeN f = 4) ∧ 2 + 2 * f.fmod 2 = (sizeN f : Int) := by
  unfold sizeN
  have h : f.fmod 2 = 0 ∨ f.fmod 2 = 1 := by rw [fmod_emod _ (by decide)]; omega
  rcases h with h | h <;> rw [h]
  · exact ⟨.inl rfl, rfl⟩
  · exact ⟨.inr rfl, rfl⟩
noncomputable def ordN (f : Int) : Str := bif (f.fdiv 2).fmod 2 == 0 then "be" else "le"
theorem ordN_ok (f : Int) : ordN f = "be" ∨ ordN f = "le" := by unfold ordN; cases (f.fdiv 2).fmod 2 == 0 <;> simp
/-- a unit of the law -/
noncomputable def unitL (n : Nat) (v : Int) : Int := bif decide (0 < (v.fdiv 12).fmod 4) || decide (v < 12) then (someL n).getD (v.fmod 12).toNat 0 else ((v.fdiv 48).fmod 70000).fmod ((256 : Int) ^ n)
noncomputable def octL (f : Int) (n : Nat) (o : Str) (us : List Int) : List UInt8 := us.flatMap (fun u => put u n (o == "be")) ++ cut [216, 0, 220] none (some ((f.fdiv 4).fmod n))
theorem octL_len (f : Int) (n : Nat) (hn : n = 2 ∨ n = 4) (o : Str) (us : List Int) (h : us.length ≤ 8) : (us.flatMap (fun u => put u n (o == "be"))).length ≤ 32 ∧ (octL f n o us).length ≤ 100 := by
  have h1 := flat_length (f := fun u => put u n (o == "be")) (n := n) (fun u => put_len' u n _) us
  have h2 : n * us.length ≤ 4 * 8 := Nat.mul_le_mul (by omega) h
  refine ⟨by omega, ?_⟩
  unfold octL cut
  rw [List.length_append, h1, List.length_drop, List.length_take]
  show _ + (min _ 3 - 0) ≤ 100
  omega
end Mine
end
section
-- P26
set_option linter.unusedVariables false
set_option maxRecDepth 100000
namespace Mine
open PySem PySem.Calls PyProof.Rows PySem.W
noncomputable abbrev lawFd : FuncData := mkF (stAt 50) "law" "law" .none (.str "law_nt0008_01" 485) (.ref 286)
noncomputable def csL (L : Addr) : List (Nat × Addr) := [(18, L + 1), (11, L + 1 + 1), (38, L + 1 + 1 + 1)]
theorem WE_gt {W : Wd} {F : Fx} {r : Nat} {g : G} {Q : R → Prop} {X : Exc → Prop} (H : Bh W) (O : F.Ok W) {x : Str} {p : Pos} {a : Addr} {vs : List Value} {n : Nat} {ns : List Int} (e : nsIn (myK W.w.params) mainGlobals x = some (some (.ref a)))
    (ea : (myK W.w.params).lookup a = some ⟨.type "tuple", none, .seq vs.toArray n, #[]⟩) (I : IntsAre vs ns) (hk : F.env.kindOf x = some .globalImplicit) (hd : (x == ("__debug__" : Str)) = false) (q : Q (.cl (.tuple (ns.map .int)))) : WE W F r g (.Name x p) Q X :=
  WE_g H.ok O hk ⟨.tuple (ns.map .int), ⟨hd, _, mg_of H.K H.ok.nsg e, .tup ⟨n, H.K _ _ ea⟩ (fun z => nomatch z.symm.trans (H.K _ _ ea)) (den_ints I)⟩, q⟩
section
variable {W : Wd} (H : Bh W)
include H
theorem celL : CelOk W lawFd 35 csL where
  clo := rfl
  bind := fun v => by rfl
  hx := by decide
  kx := .inl (show (stScope (stAt 50)).names.lookup (nmOf 35) = some .local by decide +kernel)
  cel := fun L p hp => by
    rcases List.mem_cons.mp hp with rfl | hp
    · exact ⟨show (stScope (stAt 50)).names.lookup (nmOf 18) = some .cell by decide +kernel, show 18 < 128 by decide, by rfl⟩
    rcases List.mem_cons.mp hp with rfl | hp
    · exact ⟨show (stScope (stAt 50)).names.lookup (nmOf 11) = some .cell by decide +kernel, show 11 < 128 by decide, by rfl⟩
    · rw [List.mem_singleton.mp hp]; exact ⟨show (stScope (stAt 50)).names.lookup (nmOf 38) = some .cell by decide +kernel, show 38 < 128 by decide, by rfl⟩
theorem law_rest (r : Nat) (L : Addr) (Y : AP) (frs : List Env) (O : (eFx lawFd 287 L Y frs csL).Ok W) (cells : List Int) (hc : cells.length ≤ 9) :
    WS W (eFx lawFd 287 L Y frs csL) (r + 8) [(36, .v (.list (cells.map .int)))] (execs (stBody (stAt 50)).tail (callEnvC lawFd L 287)) (fun fl _ => fl = .rt (.bool true)) (fun _ _ => False) := by
  have k18 : Sto W (eFx lawFd 287 L Y frs csL) 18 := ⟨by decide, .inr ⟨_, List.mem_cons_self ..⟩⟩
  have k11 : Sto W (eFx lawFd 287 L Y frs csL) 11 := ⟨by decide, .inr ⟨_, List.mem_cons_of_mem _ (List.mem_cons_self ..)⟩⟩
  have k38 : Sto W (eFx lawFd 287 L Y frs csL) 38 := ⟨by decide, .inr ⟨_, List.mem_cons_of_mem _ (List.mem_cons_of_mem _ (List.mem_singleton_self _))⟩⟩
  refine WSs_cons O (WS_asg H.ok O (i := 37) (sto 37 (by decide) (by rfl)) (by rfl) (WX.cut (Q' := fun x => x = .cl (.int (cells.getD 0 0))) (X' := fun _ => False) (WE_ife O (WT_cmp O (by rfl) (WE_vd H O 36 (H.n 36) rfl (WE_lst O (by rfl) (WEs_nil (cNe (pEq_ints (b := []) ?_))))))) (fun x hx => ?_) fun _ h => h.elim))
  · cases cells with
    | nil => exact And.intro (fun h => nomatch h) fun _ => WE_i rfl
    | cons c cs =>
      refine And.intro (fun _ => ?_) fun h => nomatch h
      exact WE_idx O (WE_vd H O 36 (H.n 36) rfl (WE_i ⟨by decide, by rw [List.length_map, List.length_cons]; omega, by rw [List.length_map]; omega, rfl⟩))
  subst hx
  generalize cells.getD 0 0 = f
  obtain ⟨hn, en⟩ := sizeN_ok f
  have ho := ordN_ok f
  refine WSs_cons O (WS_asgT (xs := [18, 11]) H.ok O (.cons (i := 18) (.cons (i := 11) .nil)) (mem2 k18 k11) (by rfl) (by rfl) (WE_tup O (by rfl) (WEs_cons O (by rfl) (WE_bin O (WE_i (WE_bin O (WE_i (WE_bin O (WE_vd H O 37 (H.n 37) rfl (WE_i ⟨by decide, by decide, by decide, ?_⟩))))))))))
  refine WEs_cons O (by rfl) (WX.cut (Q' := fun x => x = .cl (.str (ordN f))) (X' := fun _ => False) (WE_ife O (WT_cmp O (by rfl) (WE_bin O (WE_bin O (WE_vd H O 37 (H.n 37) rfl (WE_i ⟨by decide, by decide, WE_i ⟨by decide, WE_i ?_⟩⟩)))))) (fun x hx => ?_) fun _ h => h.elim)
  · unfold ordN
    refine And.intro (fun h => ?_) fun h => ?_ <;> (rw [show ((f.fdiv 2).fmod 2 == 0) = _ from h]; exact WE_s rfl)
  subst hx
  rw [en]
  refine WEs_nil ⟨rfl, ?_⟩
  generalize sizeN f = n at hn
  generalize ordN f = o at ho
  clear en
  show WS W _ (r + 8) [(36, .v (.list (cells.map .int))), (37, .v (.int f)), (18, .v (.int n)), (11, .v (.str o))] _ _ _
  refine WSs_cons O (WS_asg H.ok O (i := 38) k38 (by rfl) (WX.cut (Q' := fun x => x = .cl (.tuple ((someL n).map .int))) (X' := fun _ => False) (WE_ife O (WT_cmp O (by rfl) (WE_vd H O 18 (H.n 18) rfl (WE_i ?_)))) (fun x hx => ?_) fun _ h => h.elim))
  · unfold someL
    refine And.intro (fun h => ?_) fun h => ?_ <;> (rw [show ((n : Int) == 2) = _ from h])
    · exact WE_gt H O (a := 220) (vs := [.int 65 487, .int 55296 488, .int 56320 489, .int 56319 490, .int 57343 491, .int 65279 492, .int 65534 493, .int 0 494, .int 57344 495, .int 65535 496, .int 55357 497, .int 56832 498]) (n := 0) (ns := halvesL) (by rfl) (by rfl) (by repeat constructor) (by rfl) (by decide +kernel) rfl
    · exact WE_gt H O (a := 221) (vs := [.int 65 500, .int 55296 501, .int 57343 502, .int 1114111 503, .int 1114112 504, .int 65279 505, .int 4294836224 506, .int 0 507, .int 57344 508, .int 55295 509, .int 65536 510, .int 4294967295 511]) (n := 0) (ns := numbersL) (by rfl) (by rfl) (by repeat constructor) (by rfl) (by decide +kernel) rfl
  subst hx
  show WS W _ (r + 8) [(36, .v (.list (cells.map .int))), (37, .v (.int f)), (18, .v (.int n)), (11, .v (.str o)), (38, .v (.tuple ((someL n).map .int)))] _ _ _
  refine WSs_cons O (WS_asgC H.ok O (y := 21) (sto 21 (by decide) (by rfl)) (x := 39) (fv := [18, 38]) (cpE H (by rfl) (by decide +kernel)) (by decide +kernel) (by rfl) (fun _ => rfl) (WIt_seq (i := 39) O (WE_slF O (WE_vd H O 36 (H.n 36) rfl (WE_i ⟨rfl, rfl, by rw [List.length_map]; omega, ?_⟩)))))
  have hl := someL_len n
  refine ⟨by show ((cells.map WData.int).drop 1).length ≤ 4096; rw [List.length_drop, List.length_map]; omega, _, rfl, fI fun v => .int (unitL n v), fun own C Z O' d hd => ?_, ?_⟩
  · obtain ⟨v, hv, rfl⟩ := List.mem_map.mp (List.mem_of_mem_drop hd)
    refine WE_ife O' (WX.cut (Q' := fun b => b = (decide (0 < (v.fdiv 12).fmod 4) || decide (v < 12))) (X' := fun _ => False) (WT_bo (u := false) (WTB_cons O' (WT_cmp O' (by rfl) (WE_bin O' (WE_bin O' (WE_vd H O' 39 (H.n 39) rfl (WE_i ⟨by decide, by decide, WE_i ⟨by decide, WE_i ?_⟩⟩))))))) (fun b hb => ?_) fun _ h => h.elim)
    · refine And.intro (fun h => ?_) fun h => ?_ <;> (rw [show decide (0 < (v.fdiv 12).fmod 4) = _ from h])
      · refine WTB_cons O' (WT_cmp O' (by rfl) (WE_vd H O' 39 (H.n 39) rfl (WE_i ?_)))
        refine And.intro (fun h => ?_) fun h => ?_ <;> (rw [show decide (v < 12) = _ from h])
        · exact WTB_nil rfl
        · rfl
      · rfl
    · have hu : unitL n v = bif b then (someL n).getD (v.fmod 12).toNat 0 else ((v.fdiv 48).fmod 70000).fmod ((256 : Int) ^ n) := by rw [hb]; rfl
      refine And.intro (fun h => ?_) fun h => ?_ <;> rw [h] at hu
      · have hm : 0 ≤ v.fmod 12 ∧ v.fmod 12 < 12 := by rw [fmod_emod _ (by decide)]; omega
        refine WE_idx O' (WE_vd H O' 38 (H.n 38) rfl (WE_bin O' (WE_vd H O' 39 (H.n 39) rfl (WE_i ⟨by decide, hm.1, ?_⟩))))
        refine ⟨by rw [List.length_map, hl]; exact hm.2, by rw [List.length_map, hl]; decide, ?_⟩
        show ((someL n).map WData.int).getD (v.fmod 12).toNat .none = .int (unitL n v)
        rw [hu, cond_true]
        have := getD_int (us := someL n) (k := (v.fmod 12).toNat) (by omega)
        rw [Int.toNat_natCast] at this
        exact this
      · have hp : (256 : Int) ^ n ≠ 0 := by rcases hn with rfl | rfl <;> decide
        refine WE_bin O' (WE_bin O' (WE_bin O' (WE_vd H O' 39 (H.n 39) rfl (WE_i ⟨by decide, by decide, WE_i ⟨by decide, WE_bin O' (WE_i (WE_vd H O' 18 (H.n 18) rfl ⟨by omega, by omega, by decide, hp, ?_⟩))⟩⟩))))
        show WData.int _ = .int (unitL n v)
        rw [hu, cond_false]
        rfl
  have e1 : (cut (cells.map WData.int) (some 1) none).map (fI fun v => .int (unitL n v)) = ((cells.drop 1).map (unitL n)).map .int := by
    show ((cells.map WData.int).drop 1).map _ = _
    rw [← List.map_drop, fI_map, List.map_map]; rfl
  rw [e1]
  have hus : ((cells.drop 1).map (unitL n)).length ≤ 8 := by rw [List.length_map, List.length_drop]; omega
  generalize (cells.drop 1).map (unitL n) = us at hus
  show WS W _ (r + 8) [(36, .v (.list (cells.map .int))), (37, .v (.int f)), (18, .v (.int n)), (11, .v (.str o)), (38, .v (.tuple ((someL n).map .int))), (21, .v (.list (us.map .int)))] _ _ _
  refine WS.sub (g₀ := [(37, .v (.int f)), (18, .v (.int n)), (11, .v (.str o)), (21, .v (.list (us.map .int)))]) ⟨rfl, rfl, rfl, rfl, trivial⟩ ?_
  obtain ⟨z1, z2⟩ := octL_len f n hn o us hus
  refine WSs_cons O (WS_asg H.ok O (i := 12) (sto 12 (by decide) (by rfl)) (by rfl) (WE_bin O (WE_join O (by rfl) (by rfl) (WE_comp H.ok O (x := 0) (fv := [18, 11]) (cpE H (by rfl) (by decide +kernel)) (by decide +kernel) (fun _ => rfl) (WIt_seq (i := 0) O (WE_vd H O 21 (H.n 21) rfl ?_))))))
  refine ⟨by rw [List.length_map]; omega, _, rfl, fI fun u => .bytes (put u n (o == "be")), fun own C Z O' d hd => ?_, ?_⟩
  · obtain ⟨u, hu, rfl⟩ := List.mem_map.mp hd
    exact WX_call H.ok O' (by rfl) (by rfl) ⟨_, c_put H (r + 7), WEs_cons O' (by rfl) (WE_vd H O' 0 (H.n 0) rfl (WEs_cons O' (by rfl) (WE_vd H O' 18 (H.n 18) rfl (WEs_cons O' (by rfl) (WE_vd H O' 11 (H.n 11) rfl (WEs_nil ⟨u, n, o, rfl, rfl, hn, rfl⟩))))))⟩
  rw [fI_map]
  refine ⟨us.map fun u => put u n (o == "be"), by rw [List.map_map]; rfl, by rw [List.length_map]; omega, by rw [← List.flatMap_def]; omega, ?_⟩
  rw [← List.flatMap_def]
  have hm : 0 ≤ (f.fdiv 4).fmod n := by rw [fmod_emod _ (by omega)]; exact Int.emod_nonneg _ (by omega)
  refine WE_slT O (WE_by (WE_bin O (WE_bin O (WE_vd H O 37 (H.n 37) rfl (WE_i ⟨by decide, by decide, WE_vd H O 18 (H.n 18) rfl ⟨by omega, ?_⟩⟩)))))
  refine ⟨rfl, decide_eq_true hm, by decide, rfl, ?_, ?_⟩
  · unfold octL at z2; rw [List.length_append] at z2; exact Nat.le_trans z2 (by decide)
  show WS W _ (r + 8) [(37, .v (.int f)), (18, .v (.int n)), (11, .v (.str o)), (21, .v (.list (us.map .int))), (12, .v (.bytes (octL f n o us)))] _ _ _
  refine WS.sub (g₀ := [(37, .v (.int f)), (18, .v (.int n)), (11, .v (.str o)), (12, .v (.bytes (octL f n o us)))]) ⟨rfl, rfl, rfl, rfl, trivial⟩ ?_
  generalize octL f n o us = l at z2
  clear z1 hm hus
  refine WSs_cons O (WS_ite O (WX.cut (Q' := fun b => b = false) (X' := fun _ => False) (WT_bo (u := false) (WTB_cons O (WT_not O (WT_val O (WX_call H.ok O (by rfl) (by rfl) ⟨_, c_dright H (r + 2), WEs_cons O (by rfl) (WE_vd H O 12 (H.n 12) rfl (WEs_cons O (by rfl) (WE_vd H O 18 (H.n 18) rfl (WEs_cons O (by rfl) (WE_vd H O 11 (H.n 11) rfl (WEs_nil ⟨l, n, .str o, rfl, rfl, hn, ?_, by omega, ?_⟩))))))⟩) (by rfl))))) (fun b hb => ?_) fun _ h => h.elim))
  · exact .inr ⟨_, rfl⟩
  · refine And.intro (fun _ => ?_) fun h => nomatch h
    exact WTB_cons O (WT_not O (WT_val O (WX_call H.ok O (by rfl) (by rfl) ⟨_, c_dright H (r + 2), WEs_cons O (by rfl) (WE_vd H O 12 (H.n 12) rfl (WEs_cons O (by rfl) (WE_vd H O 18 (H.n 18) rfl (WEs_cons O (by rfl) (WE_n (WEs_nil ⟨l, n, .none, rfl, rfl, hn, .inl rfl, by omega, And.intro (fun _ => WTB_nil rfl) fun h => nomatch h⟩))))))⟩) (by rfl)))
  subst hb
  refine And.intro (fun h => nomatch h) fun _ => WSs_nil ?_
  obtain ⟨y1, y2, _⟩ := readI_ok l n (o == "be")
  have y3 := readI_scal l n (o == "be")
  have y4 : l.length / n ≤ l.length := Nat.div_le_self _ _
  refine WSs_cons O (WS_asg H.ok O (i := 2) (sto 2 (by decide) (by rfl)) (by rfl) (WE_idx O (WX_call H.ok O (by rfl) (by rfl) ⟨_, c_read H (r + 6), WEs_cons O (by rfl) (WE_vd H O 12 (H.n 12) rfl (WEs_cons O (by rfl) (WE_vd H O 18 (H.n 18) rfl (WEs_cons O (by rfl) (WE_vd H O 11 (H.n 11) rfl (WEs_nil ⟨l, n, o, rfl, rfl, hn, by omega, WE_i ⟨by decide, show (0 : Int) < 2 by decide, show 2 ≤ 4096 by decide, ?_⟩⟩))))))⟩)))
  show WS W _ (r + 8) [(37, .v (.int f)), (18, .v (.int n)), (11, .v (.str o)), (12, .v (.bytes l)), (2, .v (.list ((readI l n (o == "be")).1.map .int)))] _ _ _
  refine WS.sub (g₀ := [(37, .v (.int f)), (18, .v (.int n)), (11, .v (.str o)), (2, .v (.list ((readI l n (o == "be")).1.map .int)))]) ⟨rfl, rfl, rfl, rfl, trivial⟩ ?_
  generalize (readI l n (o == "be")).1 = text at y1 y3
  refine WSs_cons O (WS_ret O (WE_bo (u := true) (WBO_cons O (WX_call H.ok O (by rfl) (by rfl) ⟨_, c_eright H r, WEs_cons O (by rfl) (WE_vd H O 2 (H.n 2) rfl (WEs_cons O (by rfl) (WE_vd H O 18 (H.n 18) rfl (WEs_cons O (by rfl) (WE_vd H O 11 (H.n 11) rfl (WEs_cons O (by rfl) (WE_bi H.ok O (f := 6) (by rfl) (by rfl) (WE_vd H O 37 (H.n 37) rfl (WEs_nil ⟨text, n, o, _, rfl, rfl, hn, ho, y3, by omega, Int.natCast_nonneg _, ?_⟩)))))))))⟩))))
  refine And.intro (fun _ => WBO_one (WE_bo (u := false) (WBO_cons O (WE_cmp O (by rfl) (WE_vd H O 18 (H.n 18) rfl (WE_i ?_)))))) fun h => nomatch h
  refine And.intro (fun h => ?_) fun _ => rfl
  exact WBO_one (WX_call H.ok O (by rfl) (by rfl) ⟨_, c_places H (r + 6), WEs_cons O (by rfl) (WE_vd H O 2 (H.n 2) rfl (WEs_nil ⟨text, rfl, rfl, by omega, rfl⟩))⟩)
end
end Mine
end
section
-- P27
set_option linter.unusedVariables false
set_option maxRecDepth 100000
namespace Mine
open PySem PySem.Calls PyProof.Rows PySem.W
section
variable {W : Wd} {F : Fx} {r : Nat} {g : G} {own : Own} {A : Around} {s : Shared}
/-- the first nine of the list that the law is given -/
theorem script_src (B : W.Ok) (O : F.Ok W) (hA : AOk F r A) (S : St W F own g s.heap) {a : Addr} {vs : List Value} {ns : List Int} {m : Str → Option Value} {j i : Nat} (hj : j < 128) (hk : F.env.kindOf (W.nm j) = some .local) (hm : s.heap.Ns F.env.locals m) (ha : m (W.nm j) = some (.ref a)) (hL : s.heap.IsList a vs.toArray)
    (hI : IntsAre vs ns) (hn : ns.length ≤ 63) {c : Int} (hc : 0 ≤ c) {k : Nat} {p0 p1 p2 p3 px : Pos} {Z : Value → Shared → Prop} {Es : Value → Shared → Prop}
    (hZ : ∀ it s₁ s₂ ds, Step F noA s s₁ → St W F own g s₁.heap → GStep s₁ s₂ → SrcOk W F A own (.Name (W.nm i) px) [i] s₁ s₂ it ds → ds = (ns.take c.toNat).map .int → Z it s₂) :
    wpAny W.M A (eval (.Subscript (.Name (W.nm j) p0) (.Slice none (some (.Constant (.int c) k p1)) none p2) p3) F.env) (fun x s₁ => wpAny W.M A (pyIter x) Z Es s₁) Es s := by
  have len := (den_ints (V := noA) (h := s.heap) hI).length
  rw [List.length_map] at len
  refine Subscript_ (wpAny_Name (wpAny_loadName_local O.kind hk hm ha ?_) (B.dbg j hj).1)
  refine wpAny_Slice (wpAny_pure ?_)
  refine wpAny_Constant_int (k := k) (pos := p1) ?_
  refine wpAny_pure ?_
  obtain ⟨ops, eo⟩ := sub_ops (.Slice none (some (.Constant (.int c) k p1)) none p2) (.ref a) (.ref s.heap.objs.size)
  have st : Stays s.heap (s.heap.push (slObj .none (.int c s.toks) .none)) := fun _ _ e => Heap.get?_push_of_some _ e
  obtain ⟨o, ho, hcl, n, hd⟩ := hL
  refine tail_any ⟨o, st _ _ ho, hcl⟩ slot_list_getitem.lookup ?_ eo
  refine wpAny_getItem_list_slice ⟨o, st _ _ ho, hcl, n, hd⟩ (Heap.IsSliceOf.new _ _ _ _) .none (.int _ _) .none (fun e => nomatch e) ?_ (Nat.le_trans (by simp only [List.size_toArray]; omega) big)
  have e : slicePick vs.toArray none (some c) none = (cut vs none (some c)).toArray := by rw [slicePick_plain, List.size_toArray, ← cut_eq vs rfl (show nn (some c) = true from decide_eq_true hc)]
  rw [e]
  have g1 : GStep s { s with heap := s.heap.push (slObj .none (.int c s.toks) .none), toks := s.toks + 1 } := GStep.push _ _ _
  have S₁ := S.step O g1.up
  have g2 := GStep.push { s with heap := s.heap.push (slObj .none (.int c s.toks) .none), toks := s.toks + 1 } { cls := .type "list", data := .seq (cut vs none (some c)).toArray } (s.toks + 1)
  have S₂ := S₁.step O g2.up
  refine seq_src (Q := fun ds => ds = (ns.take c.toNat).map .int) hA S₂ (den_list (s := { s with heap := s.heap.push (slObj .none (.int c s.toks) .none), toks := s.toks + 1 }) S₁.live (den_cut (den_ints hI) none (some c))) ?_ fun it s₂ ds gs src q => hZ it _ s₂ ds (g1.up.trans g2.up) S₂ gs src q
  show (((ns.map WData.int).take c.toNat).drop 0) = _
  rw [List.drop_zero, List.map_take]
end
theorem law_call {W : Wd} (H : Bh W) {A : Around} {s : Shared} (hst : Stays W.hb s.heap) {a : Addr} {vs : List Value} {ns : List Int} (hL : s.heap.IsList a vs.toArray) (hI : IntsAre vs ns) (hn : ns.length ≤ 63) (h1 : A.handled = none) (h2 : A.frames = some []) (h3 : A.depth + 10 < recursionLimit) (h4 : A.units + 250 < cLine)
    {R : Result → Shared → Prop} (hR : ∀ h' tk, Stays s.heap h' → R (.ok (.ret (.bool true))) { s with heap := h', toks := tk }) : codeAny W.M A (.call (.ref 287) ⟨[.ref a], []⟩) R s := by
  refine entryC H.ok (V := fun _ => False) (frs := []) (H.def (st := stAt 50) (n := "law") (q := "law") (dfl := .none) (m := .str "law_nt0008_01" 485) (fa := 287) (c := 286) (by rfl) (by rfl) (by rfl) (by rfl) (by rfl) (by rfl)) (celL H) (by omega) hst (fun _ h => nomatch h) (fun _ f => f.elim) (fun _ f => f.elim) (fun _ h => nomatch h) fun L h₀ tk nL hk O S0 S ld no => ?_
  have k35 : (eFx lawFd 287 L (fun _ => False) [] csL).env.kindOf (W.nm 35) = some .local := show (stScope (stAt 50)).names.lookup (nmOf 35) = some .local by decide +kernel
  obtain ⟨m, nsm, em⟩ := ld k35
  clear S0 ld
  have hA' : AOk (eFx lawFd 287 L (fun _ => False) [] csL) 8 (A.deeper (callEnvC lawFd L 287)) := ⟨h1, by show A.frames.map _ = _; rw [h2]; rfl, by show A.depth + 1 + 8 < _; omega, by show A.units + 3 + 16 * 8 + 100 < _; omega⟩
  have fin : ∀ (f : Flow) (s₂ : Shared) (own₂ : Own), SStep (eFx lawFd 287 L (fun _ => False) [] csL) (fun _ => none) own₂ { s with heap := h₀, toks := tk } s₂ → FlowAt (eFx lawFd 287 L (fun _ => False) [] csL) s₂.heap f (.rt (.bool true)) → R (.ok (.ret (match f with | .ret v => v | _ => .none))) s₂ := fun f s₂ own₂ st fa => by
    obtain ⟨v, rfl, dv⟩ := fa
    cases dv
    obtain ⟨h₂, t₂, rfl, k₂⟩ := st.1
    refine hR h₂ t₂ fun b o e => ?_
    have nz : ¬ Xf (eFx lawFd 287 L (fun _ => False) [] csL) (fun _ => none) b := fun y => by
      rcases y with y | ⟨_, y⟩
      · exact nomatch (nL b y).symm.trans e
      · cases y
    obtain ⟨sl, e', q⟩ := k₂ b o nz (hk b o e)
    rw [q fun y => ?_] at e'
    · exact e'
    · rw [List.mem_singleton.mp (show b ∈ [L] from y)] at e
      exact nomatch (nL _ (.inl rfl)).symm.trans e
  refine wpAny_execs_cons (asgC_at (Q := fun fl g => fl = .nx ∧ g = [(36, .v (.list ((ns.take 9).map .int)))]) (X := fun _ _ => False) H.ok O hA' S (fun f s₁ own₁ fl g₁ st₁ S₁ fa q => ?_) (fun e s' own' x g' st' S' ea xa => xa.elim) (y := 36) (sto 36 (by decide) (by rfl)) (x := 39) (fv := []) (cpE H (by rfl) (by decide +kernel)) (by decide +kernel) (by rfl) (fun _ => rfl) fun Z Es hZ hE => ?_)
  · obtain ⟨rfl, rfl⟩ := q
    cases fa
    exact law_rest H 0 L (fun _ => False) [] O (ns.take 9) (by rw [List.length_take]; omega) _ _ own₁ _ _ hA' S₁ (fun f s₂ own₂ fl g₂ st₂ S₂ fa q => by subst q; exact fin f s₂ own₂ (st₁.trans st₂) fa) fun e s' own' x g' st' S' ea xa => xa.elim
  · refine script_src H.ok O hA' S (by decide) k35 nsm em ?_ hI hn (by decide) fun it s₁ s₂ ds st S₁ gs src q => hZ it s₁ s₂ ds st S₁ gs src ?_
    · obtain ⟨o, e, r⟩ := hL
      exact ⟨o, hk _ _ e, r⟩
    · subst q
      refine ⟨by rw [List.length_map, List.length_take]; omega, _, rfl, fI .int, fun own C Z O' d hd => ?_, rfl, ?_⟩
      · obtain ⟨v, hv, rfl⟩ := List.mem_map.mp hd
        exact WE_bi H.ok O' (f := 5) (by rfl) (by rfl) (WE_vd H O' 39 (H.n 39) rfl rfl)
      · rw [fI_map]; rfl
end Mine
end
section
-- P28
set_option Elab.async false
set_option maxRecDepth 100000
set_option maxHeartbeats 8000000
namespace Mine
open PySem PySem.W PyProof.Rows
theorem boot_bi : ∀ k, bootBuiltins (biNm k) = some (biVal k)
  | 0 => by kernel_rfl | 1 => by kernel_rfl | 2 => by kernel_rfl | 3 => by kernel_rfl | 4 => by kernel_rfl | 5 => by kernel_rfl | 6 => by kernel_rfl | 7 => by kernel_rfl
  | _ + 8 => by show bootBuiltins "enumerate" = some (.type "enumerate"); kernel_rfl
theorem main_bi {P : Params} : ∀ k, nsIn (myK P) mainGlobals (biNm k) = some none
  | 0 => by rfl | 1 => by rfl | 2 => by rfl | 3 => by rfl | 4 => by rfl | 5 => by rfl | 6 => by rfl | 7 => by rfl
  | _ + 8 => by show nsIn (myK P) mainGlobals "enumerate" = some none; rfl
theorem name_bi' : ∀ k, biNm k ≠ "__name__"
  | 0 => by decide +kernel | 1 => by decide +kernel | 2 => by decide +kernel | 3 => by decide +kernel | 4 => by decide +kernel | 5 => by decide +kernel | 6 => by decide +kernel | 7 => by decide +kernel
  | _ + 8 => by show ("enumerate" : Str) ≠ "__name__"; decide +kernel
theorem walk : WalkO kq kLoose (XL kq []) kH.says PySem.Challenge.rw_nt0008_01.row.toRowW lawD [] (fun f vs => call f vs) := by
  intro w s₀ s₁ mg mb G Y fa o pm cd doc dV kV ho hd hcd hD hmg hg args vals as hpre hlay hrd hwl hlo
  have KX := kIn_of Y
  refine Ground.open G ?_
  intro T B D TE TW
  clear D
  wrow_args hpre hlay hrd hwl hlo
  all_goals (
    first | refine callC_kw (enter_call ?_) | refine enter_call ?_
    rename_i hL0 ra w1 r0 hI0 hr hc1 hc2)
  have H : Bh ⟨PySem.Challenge.rw_nt0008_01.row.prog, w, s₁.heap, mg, mb⟩ := ⟨⟨T.g, T.b, T.nolimit, nm_inj, nm_dbg, fun k => ⟨mg_none_of KX T.g (main_bi k), (T.builtins _ (name_bi' k)).trans (boot_bi k)⟩⟩, KX⟩
  have e := hmg.symm.trans (mg_of KX T.g (n := "law") (v := .ref 287) (by rfl))
  cases e
  refine law_call H (fun _ _ e => e) hL0 hI0 (by omega) rfl rfl (by decide +kernel) (by decide +kernel) fun h' tk st => ?_
  exact GoodW.toG ⟨.inl ⟨_, .bool true, [], rfl, fun _ => rfl, .bool _, postW_of (by rfl) (w_eq_bool (w_res rfl) w_lit) rfl, fun _ => ⟨List.nodup_nil, fun _ h => nomatch h⟩⟩, st, rfl, hg⟩
end Mine
end
theorem PySem.Challenge.cw_nt0008_01_holds : PySem.Challenge.rw_nt0008_01.Holds := by
  exact Mine.head Mine.walk
