import PyProof.Rows.All
import Wide.All
import OpenK.AllK
import Wide.FinOn
import KE.KLcPair
import Lean
import PySem.Challenge.RW_pq0290_01
section
open PySem PySem.W PySem.Calls PyProof.Rows
set_option Elab.async false
set_option maxRecDepth 1000000
set_option linter.unusedVariables false
namespace Mine

/-! ### the written part of the top, the trees of the defs named by their places -/
noncomputable def nth : List Stmt → Nat → Stmt
  | [], _ => .Pass ⟨0, 0, 0, 0⟩
  | s :: _, 0 => s
  | _ :: r, n + 1 => nth r n
noncomputable def sArgs : Stmt → Arguments
  | .FunctionDef (args := a) .. => a
  | _ => default
noncomputable def sBody : Stmt → List Stmt
  | .FunctionDef (body := b) .. => b
  | .ClassDef (body := b) .. => b
  | _ => []
noncomputable def sScope : Stmt → Scope
  | .FunctionDef (scope := s) .. => s
  | _ => default
noncomputable def fS (i : Nat) : Stmt := nth PySem.Challenge.pw_pq0290_01.main.body i
noncomputable def cS (i j : Nat) : Stmt := nth (sBody (fS i)) j
noncomputable def KK (P : Params) : Frag := [
 (3, { cls := .type "dict", data := Data.dict #[{ hash := PyData.keyHash P "__name__", key := .str "__name__" 165, val := .str "law_pq0290_01" 1144 }, { hash := PyData.keyHash P "__doc__", key := .str "__doc__" 166, val := .none }, { hash := PyData.keyHash P "__package__", key := .str "__package__" 167, val := .none }, { hash := PyData.keyHash P "__loader__", key := .str "__loader__" 168, val := .builtin "__main__.__loader__#opaque" }, { hash := PyData.keyHash P "__spec__", key := .str "__spec__" 169, val := .none }, { hash := PyData.keyHash P "__annotations__", key := .str "__annotations__" 170, val := .ref 6 }, { hash := PyData.keyHash P "__builtins__", key := .str "__builtins__" 171, val := .ref 4 }, { hash := PyData.keyHash P "__file__", key := .str "__file__" 173, val := .str "/claim/cut.py" 172 }, { hash := PyData.keyHash P "__cached__", key := .str "__cached__" 174, val := .none }, { hash := PyData.keyHash P "_wall", key := .str "_wall" 193, val := .ref 21 }, { hash := PyData.keyHash P "LispSignal", key := .str "LispSignal" 226, val := .ref 38 }, { hash := PyData.keyHash P "LONGEST", key := .str "LONGEST" 232, val := .int 4194304 231 }, { hash := PyData.keyHash P "need_writable", key := .str "need_writable" 239, val := .ref 48 }, { hash := PyData.keyHash P "need_room", key := .str "need_room" 247, val := .ref 55 }, { hash := PyData.keyHash P "reached", key := .str "reached" 258, val := .ref 62 }, { hash := PyData.keyHash P "tell_ahead", key := .str "tell_ahead" 268, val := .ref 69 }, { hash := PyData.keyHash P "tell_behind", key := .str "tell_behind" 279, val := .ref 76 }, { hash := PyData.keyHash P "text_out", key := .str "text_out" 289, val := .ref 83 }, { hash := PyData.keyHash P "text_in", key := .str "text_in" 298, val := .ref 90 }, { hash := PyData.keyHash P "hung_out", key := .str "hung_out" 307, val := .ref 97 }, { hash := PyData.keyHash P "hung_in", key := .str "hung_in" 317, val := .ref 104 }, { hash := PyData.keyHash P "put_in", key := .str "put_in" 328, val := .ref 111 }, { hash := PyData.keyHash P "insert_at", key := .str "insert_at" 338, val := .ref 119 }, { hash := PyData.keyHash P "insert", key := .str "insert" 347, val := .ref 127 }, { hash := PyData.keyHash P "delete", key := .str "delete" 359, val := .ref 134 }, { hash := PyData.keyHash P "replace", key := .str "replace" 374, val := .ref 142 }, { hash := PyData.keyHash P "NEWLINE", key := .str "NEWLINE" 378, val := .int 10 377 }, { hash := PyData.keyHash P "line_start", key := .str "line_start" 387, val := .ref 149 }, { hash := PyData.keyHash P "line_end", key := .str "line_end" 396, val := .ref 156 }, { hash := PyData.keyHash P "TAB", key := .str "TAB" 400, val := .int 9 399 }, { hash := PyData.keyHash P "BLANK", key := .str "BLANK" 402, val := .int 32 401 }, { hash := PyData.keyHash P "column_behind", key := .str "column_behind" 411, val := .ref 163 }, { hash := PyData.keyHash P "column_at", key := .str "column_at" 422, val := .ref 170 }, { hash := PyData.keyHash P "row_columns", key := .str "row_columns" 430, val := .ref 177 }, { hash := PyData.keyHash P "place_at", key := .str "place_at" 441, val := .ref 184 }, { hash := PyData.keyHash P "opened", key := .str "opened" 453, val := .ref 191 }, { hash := PyData.keyHash P "padded", key := .str "padded" 462, val := .ref 198 }, { hash := PyData.keyHash P "cut_at", key := .str "cut_at" 473, val := .ref 205 }, { hash := PyData.keyHash P "cut_between", key := .str "cut_between" 487, val := .ref 212 }, { hash := PyData.keyHash P "erased", key := .str "erased" 500, val := .ref 219 }, { hash := PyData.keyHash P "cleared", key := .str "cleared" 513, val := .ref 226 }, { hash := PyData.keyHash P "opened_up", key := .str "opened_up" 525, val := .ref 233 }, { hash := PyData.keyHash P "replaced", key := .str "replaced" 539, val := .ref 240 }, { hash := PyData.keyHash P "ROW_END", key := .str "ROW_END" 543, val := .int 10 542 }, { hash := PyData.keyHash P "Span", key := .str "Span" 580, val := .ref 257 }, { hash := PyData.keyHash P "rows_in", key := .str "rows_in" 589, val := .ref 268 }, { hash := PyData.keyHash P "column_of", key := .str "column_of" 599, val := .ref 275 }, { hash := PyData.keyHash P "span_of", key := .str "span_of" 614, val := .ref 282 }, { hash := PyData.keyHash P "common_many", key := .str "common_many" 624, val := .ref 289 }, { hash := PyData.keyHash P "put_row", key := .str "put_row" 638, val := .ref 296 }, { hash := PyData.keyHash P "put_rows", key := .str "put_rows" 654, val := .ref 303 }, { hash := PyData.keyHash P "delete_rectangle", key := .str "delete_rectangle" 660, val := .ref 308 }, { hash := PyData.keyHash P "clear_rectangle", key := .str "clear_rectangle" 666, val := .ref 313 }, { hash := PyData.keyHash P "open_rectangle", key := .str "open_rectangle" 672, val := .ref 318 }, { hash := PyData.keyHash P "string_rectangle", key := .str "string_rectangle" 678, val := .ref 323 }, { hash := PyData.keyHash P "GapText", key := .str "GapText" 798, val := .ref 410 }, { hash := PyData.keyHash P "Opaque", key := .str "Opaque" 842, val := .ref 445 }, { hash := PyData.keyHash P "Marker", key := .str "Marker" 895, val := .ref 487 }, { hash := PyData.keyHash P "Markers", key := .str "Markers" 993, val := .ref 555 }, { hash := PyData.keyHash P "Buffer", key := .str "Buffer" 1132, val := .ref 661 }, { hash := PyData.keyHash P "set_marker", key := .str "set_marker" 1143, val := .ref 670 }, { hash := PyData.keyHash P "_law_draw", key := .str "_law_draw" 1153, val := .ref 677 }, { hash := PyData.keyHash P "_law_spot", key := .str "_law_spot" 1163, val := .ref 684 }, { hash := PyData.keyHash P "_law_row", key := .str "_law_row" 1175, val := .ref 691 }, { hash := PyData.keyHash P "_law_column", key := .str "_law_column" 1189, val := .ref 698 }, { hash := PyData.keyHash P "_law_text", key := .str "_law_text" 1199, val := .ref 705 }, { hash := PyData.keyHash P "_law_done", key := .str "_law_done" 1210, val := .ref 712 }, { hash := PyData.keyHash P "law", key := .str "law" 1216, val := .ref 717 }] 68 }),
 (20, { cls := .type "code", data := Data.fields #[.str "_wall" 187, .str "_wall" 188, .str "/claim/cut.py" 189, .int 1 0, .int 1 0, .int 0 0, .int 0 0, .int 3 0, .ref 15, .bool true, .int 181 0, .ref 16, .none, .ref 17, .ref 18, .ref 19, .int 191 0, .int 1 0, .str "/claim/cut.py" 192] }),
 (21, ⟨.type "function", none, .func (.mk "_wall" "_wall" (sArgs (fS 0)) (.stmts (sBody (fS 0))) (sScope (fS 0)) (3) ([]) (.none) (.none) (.none) (.str "__main__" 164) (none) (.ref 20) (.none) (0)), #[]⟩),
 (34, { cls := .type "code", data := Data.fields #[.str "__init__" 208, .str "LispSignal.__init__" 209, .str "/claim/cut.py" 210, .int 7 0, .int 3 0, .int 0 0, .int 0 0, .int 3 0, .ref 29, .bool true, .int 181 0, .ref 30, .none, .ref 31, .ref 32, .ref 33, .int 214 0, .int 7 0, .str "/claim/cut.py" 215] }),
 (35, ⟨.type "function", none, .func (.mk "__init__" "LispSignal.__init__" (sArgs (cS 2 0)) (.stmts (sBody (cS 2 0))) (sScope (cS 2 0)) (3) ([]) (.none) (.none) (.none) (.str "emacs.errors" 194) (none) (.ref 34) (.none) (0)), #[]⟩),
 (47, { cls := .type "code", data := Data.fields #[.str "need_writable" 233, .str "need_writable" 234, .str "/claim/cut.py" 235, .int 12 0, .int 1 0, .int 0 0, .int 0 0, .int 3 0, .ref 42, .bool true, .int 181 0, .ref 43, .none, .ref 44, .ref 45, .ref 46, .int 237 0, .int 12 0, .str "/claim/cut.py" 238] }),
 (48, ⟨.type "function", none, .func (.mk "need_writable" "need_writable" (sArgs (fS 5)) (.stmts (sBody (fS 5))) (sScope (fS 5)) (3) ([]) (.none) (.none) (.none) (.str "emacs.editing" 227) (none) (.ref 47) (.none) (0)), #[]⟩),
 (54, { cls := .type "code", data := Data.fields #[.str "need_room" 240, .str "need_room" 241, .str "/claim/cut.py" 242, .int 15 0, .int 2 0, .int 0 0, .int 0 0, .int 3 0, .ref 49, .bool true, .int 181 0, .ref 50, .none, .ref 51, .ref 52, .ref 53, .int 245 0, .int 15 0, .str "/claim/cut.py" 246] }),
 (55, ⟨.type "function", none, .func (.mk "need_room" "need_room" (sArgs (fS 6)) (.stmts (sBody (fS 6))) (sScope (fS 6)) (3) ([]) (.none) (.none) (.none) (.str "emacs.editing" 227) (none) (.ref 54) (.none) (0)), #[]⟩),
 (61, { cls := .type "code", data := Data.fields #[.str "reached" 248, .str "reached" 249, .str "/claim/cut.py" 250, .int 18 0, .int 3 0, .int 0 0, .int 0 0, .int 3 0, .ref 56, .bool true, .int 181 0, .ref 57, .none, .ref 58, .ref 59, .ref 60, .int 256 0, .int 18 0, .str "/claim/cut.py" 257] }),
 (62, ⟨.type "function", none, .func (.mk "reached" "reached" (sArgs (fS 7)) (.stmts (sBody (fS 7))) (sScope (fS 7)) (3) ([]) (.none) (.none) (.none) (.str "emacs.editing" 227) (none) (.ref 61) (.none) (0)), #[]⟩),
 (68, { cls := .type "code", data := Data.fields #[.str "tell_ahead" 259, .str "tell_ahead" 260, .str "/claim/cut.py" 261, .int 23 0, .int 3 0, .int 0 0, .int 0 0, .int 3 0, .ref 63, .bool true, .int 181 0, .ref 64, .none, .ref 65, .ref 66, .ref 67, .int 266 0, .int 23 0, .str "/claim/cut.py" 267] }),
 (69, ⟨.type "function", none, .func (.mk "tell_ahead" "tell_ahead" (sArgs (fS 8)) (.stmts (sBody (fS 8))) (sScope (fS 8)) (3) ([]) (.none) (.none) (.none) (.str "emacs.editing" 227) (none) (.ref 68) (.none) (0)), #[]⟩),
 (75, { cls := .type "code", data := Data.fields #[.str "tell_behind" 269, .str "tell_behind" 270, .str "/claim/cut.py" 271, .int 26 0, .int 4 0, .int 0 0, .int 0 0, .int 3 0, .ref 70, .bool true, .int 181 0, .ref 71, .none, .ref 72, .ref 73, .ref 74, .int 277 0, .int 26 0, .str "/claim/cut.py" 278] }),
 (76, ⟨.type "function", none, .func (.mk "tell_behind" "tell_behind" (sArgs (fS 9)) (.stmts (sBody (fS 9))) (sScope (fS 9)) (3) ([]) (.none) (.none) (.none) (.str "emacs.editing" 227) (none) (.ref 75) (.none) (0)), #[]⟩),
 (82, { cls := .type "code", data := Data.fields #[.str "text_out" 280, .str "text_out" 281, .str "/claim/cut.py" 282, .int 30 0, .int 3 0, .int 0 0, .int 0 0, .int 3 0, .ref 77, .bool true, .int 181 0, .ref 78, .none, .ref 79, .ref 80, .ref 81, .int 287 0, .int 30 0, .str "/claim/cut.py" 288] }),
 (83, ⟨.type "function", none, .func (.mk "text_out" "text_out" (sArgs (fS 10)) (.stmts (sBody (fS 10))) (sScope (fS 10)) (3) ([]) (.none) (.none) (.none) (.str "emacs.editing" 227) (none) (.ref 82) (.none) (0)), #[]⟩),
 (89, { cls := .type "code", data := Data.fields #[.str "text_in" 290, .str "text_in" 291, .str "/claim/cut.py" 292, .int 38 0, .int 3 0, .int 0 0, .int 0 0, .int 3 0, .ref 84, .bool true, .int 181 0, .ref 85, .none, .ref 86, .ref 87, .ref 88, .int 296 0, .int 38 0, .str "/claim/cut.py" 297] }),
 (90, ⟨.type "function", none, .func (.mk "text_in" "text_in" (sArgs (fS 11)) (.stmts (sBody (fS 11))) (sScope (fS 11)) (3) ([]) (.none) (.none) (.none) (.str "emacs.editing" 227) (none) (.ref 89) (.none) (0)), #[]⟩),
 (96, { cls := .type "code", data := Data.fields #[.str "hung_out" 299, .str "hung_out" 300, .str "/claim/cut.py" 301, .int 45 0, .int 3 0, .int 0 0, .int 0 0, .int 3 0, .ref 91, .bool true, .int 181 0, .ref 92, .none, .ref 93, .ref 94, .ref 95, .int 305 0, .int 45 0, .str "/claim/cut.py" 306] }),
 (97, ⟨.type "function", none, .func (.mk "hung_out" "hung_out" (sArgs (fS 12)) (.stmts (sBody (fS 12))) (sScope (fS 12)) (3) ([]) (.none) (.none) (.none) (.str "emacs.editing" 227) (none) (.ref 96) (.none) (0)), #[]⟩),
 (103, { cls := .type "code", data := Data.fields #[.str "hung_in" 308, .str "hung_in" 309, .str "/claim/cut.py" 310, .int 50 0, .int 4 0, .int 0 0, .int 0 0, .int 3 0, .ref 98, .bool true, .int 181 0, .ref 99, .none, .ref 100, .ref 101, .ref 102, .int 315 0, .int 50 0, .str "/claim/cut.py" 316] }),
 (104, ⟨.type "function", none, .func (.mk "hung_in" "hung_in" (sArgs (fS 13)) (.stmts (sBody (fS 13))) (sScope (fS 13)) (3) ([]) (.none) (.none) (.none) (.str "emacs.editing" 227) (none) (.ref 103) (.none) (0)), #[]⟩),
 (110, { cls := .type "code", data := Data.fields #[.str "put_in" 318, .str "put_in" 319, .str "/claim/cut.py" 320, .int 55 0, .int 5 0, .int 0 0, .int 0 0, .int 3 0, .ref 105, .bool true, .int 181 0, .ref 106, .none, .ref 107, .ref 108, .ref 109, .int 326 0, .int 55 0, .str "/claim/cut.py" 327] }),
 (111, ⟨.type "function", none, .func (.mk "put_in" "put_in" (sArgs (fS 14)) (.stmts (sBody (fS 14))) (sScope (fS 14)) (3) ([]) (.none) (.none) (.none) (.str "emacs.editing" 227) (none) (.ref 110) (.none) (0)), #[]⟩),
 (112, { cls := .type "tuple", data := Data.seq #[.bool false] }),
 (118, { cls := .type "code", data := Data.fields #[.str "insert_at" 329, .str "insert_at" 330, .str "/claim/cut.py" 331, .int 68 0, .int 4 0, .int 0 0, .int 0 0, .int 3 0, .ref 113, .bool true, .int 181 0, .ref 114, .none, .ref 115, .ref 116, .ref 117, .int 336 0, .int 68 0, .str "/claim/cut.py" 337] }),
 (119, ⟨.type "function", none, .func (.mk "insert_at" "insert_at" (sArgs (fS 15)) (.stmts (sBody (fS 15))) (sScope (fS 15)) (3) ([]) (.ref 112) (.none) (.none) (.str "emacs.editing" 227) (none) (.ref 118) (.none) (0)), #[]⟩),
 (120, { cls := .type "tuple", data := Data.seq #[.bool false] }),
 (126, { cls := .type "code", data := Data.fields #[.str "insert" 339, .str "insert" 340, .str "/claim/cut.py" 341, .int 70 0, .int 3 0, .int 0 0, .int 0 0, .int 3 0, .ref 121, .bool true, .int 181 0, .ref 122, .none, .ref 123, .ref 124, .ref 125, .int 345 0, .int 70 0, .str "/claim/cut.py" 346] }),
 (127, ⟨.type "function", none, .func (.mk "insert" "insert" (sArgs (fS 16)) (.stmts (sBody (fS 16))) (sScope (fS 16)) (3) ([]) (.ref 120) (.none) (.none) (.str "emacs.editing" 227) (none) (.ref 126) (.none) (0)), #[]⟩),
 (133, { cls := .type "code", data := Data.fields #[.str "delete" 348, .str "delete" 349, .str "/claim/cut.py" 350, .int 72 0, .int 3 0, .int 0 0, .int 0 0, .int 3 0, .ref 128, .bool true, .int 181 0, .ref 129, .none, .ref 130, .ref 131, .ref 132, .int 357 0, .int 72 0, .str "/claim/cut.py" 358] }),
 (134, ⟨.type "function", none, .func (.mk "delete" "delete" (sArgs (fS 17)) (.stmts (sBody (fS 17))) (sScope (fS 17)) (3) ([]) (.none) (.none) (.none) (.str "emacs.editing" 227) (none) (.ref 133) (.none) (0)), #[]⟩),
 (135, { cls := .type "tuple", data := Data.seq #[.none] }),
 (141, { cls := .type "code", data := Data.fields #[.str "replace" 360, .str "replace" 361, .str "/claim/cut.py" 362, .int 83 0, .int 5 0, .int 0 0, .int 0 0, .int 3 0, .ref 136, .bool true, .int 181 0, .ref 137, .none, .ref 138, .ref 139, .ref 140, .int 372 0, .int 83 0, .str "/claim/cut.py" 373] }),
 (142, ⟨.type "function", none, .func (.mk "replace" "replace" (sArgs (fS 18)) (.stmts (sBody (fS 18))) (sScope (fS 18)) (3) ([]) (.ref 135) (.none) (.none) (.str "emacs.editing" 227) (none) (.ref 141) (.none) (0)), #[]⟩),
 (148, { cls := .type "code", data := Data.fields #[.str "line_start" 379, .str "line_start" 380, .str "/claim/cut.py" 381, .int 107 0, .int 2 0, .int 0 0, .int 0 0, .int 3 0, .ref 143, .bool true, .int 181 0, .ref 144, .none, .ref 145, .ref 146, .ref 147, .int 385 0, .int 107 0, .str "/claim/cut.py" 386] }),
 (149, ⟨.type "function", none, .func (.mk "line_start" "line_start" (sArgs (fS 21)) (.stmts (sBody (fS 21))) (sScope (fS 21)) (3) ([]) (.none) (.none) (.none) (.str "emacs.lines" 375) (none) (.ref 148) (.none) (0)), #[]⟩),
 (155, { cls := .type "code", data := Data.fields #[.str "line_end" 388, .str "line_end" 389, .str "/claim/cut.py" 390, .int 112 0, .int 2 0, .int 0 0, .int 0 0, .int 3 0, .ref 150, .bool true, .int 181 0, .ref 151, .none, .ref 152, .ref 153, .ref 154, .int 394 0, .int 112 0, .str "/claim/cut.py" 395] }),
 (156, ⟨.type "function", none, .func (.mk "line_end" "line_end" (sArgs (fS 22)) (.stmts (sBody (fS 22))) (sScope (fS 22)) (3) ([]) (.none) (.none) (.none) (.str "emacs.lines" 375) (none) (.ref 155) (.none) (0)), #[]⟩),
 (162, { cls := .type "code", data := Data.fields #[.str "column_behind" 403, .str "column_behind" 404, .str "/claim/cut.py" 405, .int 120 0, .int 3 0, .int 0 0, .int 0 0, .int 3 0, .ref 157, .bool true, .int 181 0, .ref 158, .none, .ref 159, .ref 160, .ref 161, .int 409 0, .int 120 0, .str "/claim/cut.py" 410] }),
 (163, ⟨.type "function", none, .func (.mk "column_behind" "column_behind" (sArgs (fS 26)) (.stmts (sBody (fS 26))) (sScope (fS 26)) (3) ([]) (.none) (.none) (.none) (.str "emacs.rectcols" 397) (none) (.ref 162) (.none) (0)), #[]⟩),
 (169, { cls := .type "code", data := Data.fields #[.str "column_at" 412, .str "column_at" 413, .str "/claim/cut.py" 414, .int 122 0, .int 3 0, .int 0 0, .int 0 0, .int 3 0, .ref 164, .bool true, .int 181 0, .ref 165, .none, .ref 166, .ref 167, .ref 168, .int 420 0, .int 122 0, .str "/claim/cut.py" 421] }),
 (170, ⟨.type "function", none, .func (.mk "column_at" "column_at" (sArgs (fS 27)) (.stmts (sBody (fS 27))) (sScope (fS 27)) (3) ([]) (.none) (.none) (.none) (.str "emacs.rectcols" 397) (none) (.ref 169) (.none) (0)), #[]⟩),
 (176, { cls := .type "code", data := Data.fields #[.str "row_columns" 423, .str "row_columns" 424, .str "/claim/cut.py" 425, .int 127 0, .int 2 0, .int 0 0, .int 0 0, .int 3 0, .ref 171, .bool true, .int 181 0, .ref 172, .none, .ref 173, .ref 174, .ref 175, .int 428 0, .int 127 0, .str "/claim/cut.py" 429] }),
 (177, ⟨.type "function", none, .func (.mk "row_columns" "row_columns" (sArgs (fS 28)) (.stmts (sBody (fS 28))) (sScope (fS 28)) (3) ([]) (.none) (.none) (.none) (.str "emacs.rectcols" 397) (none) (.ref 176) (.none) (0)), #[]⟩),
 (183, { cls := .type "code", data := Data.fields #[.str "place_at" 431, .str "place_at" 432, .str "/claim/cut.py" 433, .int 129 0, .int 3 0, .int 0 0, .int 0 0, .int 3 0, .ref 178, .bool true, .int 181 0, .ref 179, .none, .ref 180, .ref 181, .ref 182, .int 439 0, .int 129 0, .str "/claim/cut.py" 440] }),
 (184, ⟨.type "function", none, .func (.mk "place_at" "place_at" (sArgs (fS 29)) (.stmts (sBody (fS 29))) (sScope (fS 29)) (3) ([]) (.none) (.none) (.none) (.str "emacs.rectcols" 397) (none) (.ref 183) (.none) (0)), #[]⟩),
 (190, { cls := .type "code", data := Data.fields #[.str "opened" 442, .str "opened" 443, .str "/claim/cut.py" 444, .int 136 0, .int 3 0, .int 0 0, .int 0 0, .int 3 0, .ref 185, .bool true, .int 181 0, .ref 186, .none, .ref 187, .ref 188, .ref 189, .int 451 0, .int 136 0, .str "/claim/cut.py" 452] }),
 (191, ⟨.type "function", none, .func (.mk "opened" "opened" (sArgs (fS 30)) (.stmts (sBody (fS 30))) (sScope (fS 30)) (3) ([]) (.none) (.none) (.none) (.str "emacs.rectcols" 397) (none) (.ref 190) (.none) (0)), #[]⟩),
 (197, { cls := .type "code", data := Data.fields #[.str "padded" 454, .str "padded" 455, .str "/claim/cut.py" 456, .int 143 0, .int 3 0, .int 0 0, .int 0 0, .int 3 0, .ref 192, .bool true, .int 181 0, .ref 193, .none, .ref 194, .ref 195, .ref 196, .int 460 0, .int 143 0, .str "/claim/cut.py" 461] }),
 (198, ⟨.type "function", none, .func (.mk "padded" "padded" (sArgs (fS 31)) (.stmts (sBody (fS 31))) (sScope (fS 31)) (3) ([]) (.none) (.none) (.none) (.str "emacs.rectcols" 397) (none) (.ref 197) (.none) (0)), #[]⟩),
 (204, { cls := .type "code", data := Data.fields #[.str "cut_at" 463, .str "cut_at" 464, .str "/claim/cut.py" 465, .int 145 0, .int 3 0, .int 0 0, .int 0 0, .int 3 0, .ref 199, .bool true, .int 181 0, .ref 200, .none, .ref 201, .ref 202, .ref 203, .int 471 0, .int 145 0, .str "/claim/cut.py" 472] }),
 (205, ⟨.type "function", none, .func (.mk "cut_at" "cut_at" (sArgs (fS 32)) (.stmts (sBody (fS 32))) (sScope (fS 32)) (3) ([]) (.none) (.none) (.none) (.str "emacs.rectcols" 397) (none) (.ref 204) (.none) (0)), #[]⟩),
 (211, { cls := .type "code", data := Data.fields #[.str "cut_between" 474, .str "cut_between" 475, .str "/claim/cut.py" 476, .int 149 0, .int 4 0, .int 0 0, .int 0 0, .int 3 0, .ref 206, .bool true, .int 181 0, .ref 207, .none, .ref 208, .ref 209, .ref 210, .int 485 0, .int 149 0, .str "/claim/cut.py" 486] }),
 (212, ⟨.type "function", none, .func (.mk "cut_between" "cut_between" (sArgs (fS 33)) (.stmts (sBody (fS 33))) (sScope (fS 33)) (3) ([]) (.none) (.none) (.none) (.str "emacs.rectcols" 397) (none) (.ref 211) (.none) (0)), #[]⟩),
 (218, { cls := .type "code", data := Data.fields #[.str "erased" 488, .str "erased" 489, .str "/claim/cut.py" 490, .int 153 0, .int 4 0, .int 0 0, .int 0 0, .int 3 0, .ref 213, .bool true, .int 181 0, .ref 214, .none, .ref 215, .ref 216, .ref 217, .int 498 0, .int 153 0, .str "/claim/cut.py" 499] }),
 (219, ⟨.type "function", none, .func (.mk "erased" "erased" (sArgs (fS 34)) (.stmts (sBody (fS 34))) (sScope (fS 34)) (3) ([]) (.none) (.none) (.none) (.str "emacs.rectcols" 397) (none) (.ref 218) (.none) (0)), #[]⟩),
 (225, { cls := .type "code", data := Data.fields #[.str "cleared" 501, .str "cleared" 502, .str "/claim/cut.py" 503, .int 158 0, .int 4 0, .int 0 0, .int 0 0, .int 3 0, .ref 220, .bool true, .int 181 0, .ref 221, .none, .ref 222, .ref 223, .ref 224, .int 511 0, .int 158 0, .str "/claim/cut.py" 512] }),
 (226, ⟨.type "function", none, .func (.mk "cleared" "cleared" (sArgs (fS 35)) (.stmts (sBody (fS 35))) (sScope (fS 35)) (3) ([]) (.none) (.none) (.none) (.str "emacs.rectcols" 397) (none) (.ref 225) (.none) (0)), #[]⟩),
 (232, { cls := .type "code", data := Data.fields #[.str "opened_up" 514, .str "opened_up" 515, .str "/claim/cut.py" 516, .int 163 0, .int 4 0, .int 0 0, .int 0 0, .int 3 0, .ref 227, .bool true, .int 181 0, .ref 228, .none, .ref 229, .ref 230, .ref 231, .int 523 0, .int 163 0, .str "/claim/cut.py" 524] }),
 (233, ⟨.type "function", none, .func (.mk "opened_up" "opened_up" (sArgs (fS 36)) (.stmts (sBody (fS 36))) (sScope (fS 36)) (3) ([]) (.none) (.none) (.none) (.str "emacs.rectcols" 397) (none) (.ref 232) (.none) (0)), #[]⟩),
 (239, { cls := .type "code", data := Data.fields #[.str "replaced" 526, .str "replaced" 527, .str "/claim/cut.py" 528, .int 168 0, .int 5 0, .int 0 0, .int 0 0, .int 3 0, .ref 234, .bool true, .int 181 0, .ref 235, .none, .ref 236, .ref 237, .ref 238, .int 537 0, .int 168 0, .str "/claim/cut.py" 538] }),
 (240, ⟨.type "function", none, .func (.mk "replaced" "replaced" (sArgs (fS 37)) (.stmts (sBody (fS 37))) (sScope (fS 37)) (3) ([]) (.none) (.none) (.none) (.str "emacs.rectcols" 397) (none) (.ref 239) (.none) (0)), #[]⟩),
 (253, { cls := .type "code", data := Data.fields #[.str "__init__" 556, .str "Span.__init__" 557, .str "/claim/cut.py" 558, .int 175 0, .int 6 0, .int 0 0, .int 0 0, .int 3 0, .ref 248, .bool true, .int 181 0, .ref 249, .none, .ref 250, .ref 251, .ref 252, .int 565 0, .int 175 0, .str "/claim/cut.py" 566] }),
 (254, ⟨.type "function", none, .func (.mk "__init__" "Span.__init__" (sArgs (cS 40 0)) (.stmts (sBody (cS 40 0))) (sScope (cS 40 0)) (3) ([]) (.none) (.none) (.none) (.str "emacs.rectangles" 540) (none) (.ref 253) (.none) (0)), #[]⟩),
 (256, { cls := .type "dict", data := Data.dict #[{ hash := PyData.keyHash P "__module__", key := .str "__module__" 551, val := .str "emacs.rectangles" 540 }, { hash := PyData.keyHash P "__firstlineno__", key := .str "__firstlineno__" 555, val := .int 173 554 }, { hash := PyData.keyHash P "__init__", key := .str "__init__" 567, val := .ref 254 }, { hash := PyData.keyHash P "__static_attributes__", key := .str "__static_attributes__" 573, val := .ref 255 }, { hash := PyData.keyHash P "__dict__", key := .str "__dict__" 575, val := .ref 258 }, { hash := PyData.keyHash P "__weakref__", key := .str "__weakref__" 577, val := .ref 259 }, { hash := PyData.keyHash P "__doc__", key := .str "__doc__" 578, val := .none }] 4 }),
 (257, { cls := .type "type", data := Data.cls { name := "Span", bases := [.type "object"], mro := [.ref 257, .type "object"], ns := 256, qualname := "Span" }, slots := #[none, none, some (.str "Span" 544), some (.str "Span" 552), some (.builtin "object.__new__"), some (.bool true)] }),
 (267, { cls := .type "code", data := Data.fields #[.str "rows_in" 581, .str "rows_in" 582, .str "/claim/cut.py" 583, .int 181 0, .int 1 0, .int 0 0, .int 0 0, .int 3 0, .ref 262, .bool true, .int 181 0, .ref 263, .none, .ref 264, .ref 265, .ref 266, .int 587 0, .int 181 0, .str "/claim/cut.py" 588] }),
 (268, ⟨.type "function", none, .func (.mk "rows_in" "rows_in" (sArgs (fS 41)) (.stmts (sBody (fS 41))) (sScope (fS 41)) (3) ([]) (.none) (.none) (.none) (.str "emacs.rectangles" 540) (none) (.ref 267) (.none) (0)), #[]⟩),
 (274, { cls := .type "code", data := Data.fields #[.str "column_of" 590, .str "column_of" 591, .str "/claim/cut.py" 592, .int 189 0, .int 3 0, .int 0 0, .int 0 0, .int 3 0, .ref 269, .bool true, .int 181 0, .ref 270, .none, .ref 271, .ref 272, .ref 273, .int 597 0, .int 189 0, .str "/claim/cut.py" 598] }),
 (275, ⟨.type "function", none, .func (.mk "column_of" "column_of" (sArgs (fS 42)) (.stmts (sBody (fS 42))) (sScope (fS 42)) (3) ([]) (.none) (.none) (.none) (.str "emacs.rectangles" 540) (none) (.ref 274) (.none) (0)), #[]⟩),
 (281, { cls := .type "code", data := Data.fields #[.str "span_of" 600, .str "span_of" 601, .str "/claim/cut.py" 602, .int 192 0, .int 4 0, .int 0 0, .int 0 0, .int 3 0, .ref 276, .bool true, .int 181 0, .ref 277, .none, .ref 278, .ref 279, .ref 280, .int 612 0, .int 192 0, .str "/claim/cut.py" 613] }),
 (282, ⟨.type "function", none, .func (.mk "span_of" "span_of" (sArgs (fS 43)) (.stmts (sBody (fS 43))) (sScope (fS 43)) (3) ([]) (.none) (.none) (.none) (.str "emacs.rectangles" 540) (none) (.ref 281) (.none) (0)), #[]⟩),
 (288, { cls := .type "code", data := Data.fields #[.str "common_many" 615, .str "common_many" 616, .str "/claim/cut.py" 617, .int 197 0, .int 3 0, .int 0 0, .int 0 0, .int 3 0, .ref 283, .bool true, .int 181 0, .ref 284, .none, .ref 285, .ref 286, .ref 287, .int 622 0, .int 197 0, .str "/claim/cut.py" 623] }),
 (289, ⟨.type "function", none, .func (.mk "common_many" "common_many" (sArgs (fS 44)) (.stmts (sBody (fS 44))) (sScope (fS 44)) (3) ([]) (.none) (.none) (.none) (.str "emacs.rectangles" 540) (none) (.ref 288) (.none) (0)), #[]⟩),
 (295, { cls := .type "code", data := Data.fields #[.str "put_row" 625, .str "put_row" 626, .str "/claim/cut.py" 627, .int 202 0, .int 6 0, .int 0 0, .int 0 0, .int 3 0, .ref 290, .bool true, .int 181 0, .ref 291, .none, .ref 292, .ref 293, .ref 294, .int 636 0, .int 202 0, .str "/claim/cut.py" 637] }),
 (296, ⟨.type "function", none, .func (.mk "put_row" "put_row" (sArgs (fS 45)) (.stmts (sBody (fS 45))) (sScope (fS 45)) (3) ([]) (.none) (.none) (.none) (.str "emacs.rectangles" 540) (none) (.ref 295) (.none) (0)), #[]⟩),
 (302, { cls := .type "code", data := Data.fields #[.str "put_rows" 639, .str "put_rows" 640, .str "/claim/cut.py" 641, .int 206 0, .int 5 0, .int 0 0, .int 0 0, .int 3 0, .ref 297, .bool true, .int 181 0, .ref 298, .none, .ref 299, .ref 300, .ref 301, .int 652 0, .int 206 0, .str "/claim/cut.py" 653] }),
 (303, ⟨.type "function", none, .func (.mk "put_rows" "put_rows" (sArgs (fS 46)) (.stmts (sBody (fS 46))) (sScope (fS 46)) (3) ([]) (.none) (.none) (.none) (.str "emacs.rectangles" 540) (none) (.ref 302) (.none) (0)), #[]⟩),
 (307, { cls := .type "code", data := Data.fields #[.str "delete_rectangle" 655, .str "delete_rectangle" 656, .str "/claim/cut.py" 657, .int 215 0, .int 4 0, .int 0 0, .int 0 0, .int 3 0, .ref 304, .bool true, .int 181 0, .ref 305, .none, .none, .none, .ref 306, .int 658 0, .int 215 0, .str "/claim/cut.py" 659] }),
 (308, ⟨.type "function", none, .func (.mk "delete_rectangle" "delete_rectangle" (sArgs (fS 47)) (.stmts (sBody (fS 47))) (sScope (fS 47)) (3) ([]) (.none) (.none) (.none) (.str "emacs.rectangles" 540) (none) (.ref 307) (.none) (0)), #[]⟩),
 (312, { cls := .type "code", data := Data.fields #[.str "clear_rectangle" 661, .str "clear_rectangle" 662, .str "/claim/cut.py" 663, .int 218 0, .int 4 0, .int 0 0, .int 0 0, .int 3 0, .ref 309, .bool true, .int 181 0, .ref 310, .none, .none, .none, .ref 311, .int 664 0, .int 218 0, .str "/claim/cut.py" 665] }),
 (313, ⟨.type "function", none, .func (.mk "clear_rectangle" "clear_rectangle" (sArgs (fS 48)) (.stmts (sBody (fS 48))) (sScope (fS 48)) (3) ([]) (.none) (.none) (.none) (.str "emacs.rectangles" 540) (none) (.ref 312) (.none) (0)), #[]⟩),
 (317, { cls := .type "code", data := Data.fields #[.str "open_rectangle" 667, .str "open_rectangle" 668, .str "/claim/cut.py" 669, .int 221 0, .int 4 0, .int 0 0, .int 0 0, .int 3 0, .ref 314, .bool true, .int 181 0, .ref 315, .none, .none, .none, .ref 316, .int 670 0, .int 221 0, .str "/claim/cut.py" 671] }),
 (318, ⟨.type "function", none, .func (.mk "open_rectangle" "open_rectangle" (sArgs (fS 49)) (.stmts (sBody (fS 49))) (sScope (fS 49)) (3) ([]) (.none) (.none) (.none) (.str "emacs.rectangles" 540) (none) (.ref 317) (.none) (0)), #[]⟩),
 (322, { cls := .type "code", data := Data.fields #[.str "string_rectangle" 673, .str "string_rectangle" 674, .str "/claim/cut.py" 675, .int 224 0, .int 5 0, .int 0 0, .int 0 0, .int 3 0, .ref 319, .bool true, .int 181 0, .ref 320, .none, .none, .none, .ref 321, .int 676 0, .int 224 0, .str "/claim/cut.py" 677] }),
 (323, ⟨.type "function", none, .func (.mk "string_rectangle" "string_rectangle" (sArgs (fS 50)) (.stmts (sBody (fS 50))) (sScope (fS 50)) (3) ([]) (.none) (.none) (.none) (.str "emacs.rectangles" 540) (none) (.ref 322) (.none) (0)), #[]⟩),
 (336, { cls := .type "code", data := Data.fields #[.str "__init__" 693, .str "GapText.__init__" 694, .str "/claim/cut.py" 695, .int 230 0, .int 3 0, .int 0 0, .int 0 0, .int 3 0, .ref 331, .bool true, .int 181 0, .ref 332, .none, .ref 333, .ref 334, .ref 335, .int 699 0, .int 230 0, .str "/claim/cut.py" 700] }),
 (337, ⟨.type "function", none, .func (.mk "__init__" "GapText.__init__" (sArgs (cS 52 0)) (.stmts (sBody (cS 52 0))) (sScope (cS 52 0)) (3) ([]) (.none) (.none) (.none) (.str "emacs.gap" 679) (none) (.ref 336) (.none) (0)), #[]⟩),
 (343, { cls := .type "code", data := Data.fields #[.str "size" 702, .str "GapText.size" 703, .str "/claim/cut.py" 704, .int 236 0, .int 1 0, .int 0 0, .int 0 0, .int 3 0, .ref 338, .bool true, .int 181 0, .ref 339, .none, .ref 340, .ref 341, .ref 342, .int 706 0, .int 236 0, .str "/claim/cut.py" 707] }),
 (344, ⟨.type "function", none, .func (.mk "size" "GapText.size" (sArgs (cS 52 1)) (.stmts (sBody (cS 52 1))) (sScope (cS 52 1)) (3) ([]) (.none) (.none) (.none) (.str "emacs.gap" 679) (none) (.ref 343) (.none) (0)), #[]⟩),
 (350, { cls := .type "code", data := Data.fields #[.str "code" 709, .str "GapText.code" 710, .str "/claim/cut.py" 711, .int 239 0, .int 2 0, .int 0 0, .int 0 0, .int 3 0, .ref 345, .bool true, .int 181 0, .ref 346, .none, .ref 347, .ref 348, .ref 349, .int 714 0, .int 239 0, .str "/claim/cut.py" 715] }),
 (351, ⟨.type "function", none, .func (.mk "code" "GapText.code" (sArgs (cS 52 2)) (.stmts (sBody (cS 52 2))) (sScope (cS 52 2)) (3) ([]) (.none) (.none) (.none) (.str "emacs.gap" 679) (none) (.ref 350) (.none) (0)), #[]⟩),
 (357, { cls := .type "code", data := Data.fields #[.str "codes" 717, .str "GapText.codes" 718, .str "/claim/cut.py" 719, .int 244 0, .int 3 0, .int 0 0, .int 0 0, .int 3 0, .ref 352, .bool true, .int 181 0, .ref 353, .none, .ref 354, .ref 355, .ref 356, .int 724 0, .int 244 0, .str "/claim/cut.py" 725] }),
 (358, ⟨.type "function", none, .func (.mk "codes" "GapText.codes" (sArgs (cS 52 3)) (.stmts (sBody (cS 52 3))) (sScope (cS 52 3)) (3) ([]) (.none) (.none) (.none) (.str "emacs.gap" 679) (none) (.ref 357) (.none) (0)), #[]⟩),
 (364, { cls := .type "code", data := Data.fields #[.str "move_gap" 727, .str "GapText.move_gap" 728, .str "/claim/cut.py" 729, .int 252 0, .int 2 0, .int 0 0, .int 0 0, .int 3 0, .ref 359, .bool true, .int 181 0, .ref 360, .none, .ref 361, .ref 362, .ref 363, .int 733 0, .int 252 0, .str "/claim/cut.py" 734] }),
 (365, ⟨.type "function", none, .func (.mk "move_gap" "GapText.move_gap" (sArgs (cS 52 4)) (.stmts (sBody (cS 52 4))) (sScope (cS 52 4)) (3) ([]) (.none) (.none) (.none) (.str "emacs.gap" 679) (none) (.ref 364) (.none) (0)), #[]⟩),
 (371, { cls := .type "code", data := Data.fields #[.str "widen_gap" 736, .str "GapText.widen_gap" 737, .str "/claim/cut.py" 738, .int 263 0, .int 2 0, .int 0 0, .int 0 0, .int 3 0, .ref 366, .bool true, .int 181 0, .ref 367, .none, .ref 368, .ref 369, .ref 370, .int 742 0, .int 263 0, .str "/claim/cut.py" 743] }),
 (372, ⟨.type "function", none, .func (.mk "widen_gap" "GapText.widen_gap" (sArgs (cS 52 5)) (.stmts (sBody (cS 52 5))) (sScope (cS 52 5)) (3) ([]) (.none) (.none) (.none) (.str "emacs.gap" 679) (none) (.ref 371) (.none) (0)), #[]⟩),
 (378, { cls := .type "code", data := Data.fields #[.str "insert" 745, .str "GapText.insert" 746, .str "/claim/cut.py" 747, .int 269 0, .int 3 0, .int 0 0, .int 0 0, .int 3 0, .ref 373, .bool true, .int 181 0, .ref 374, .none, .ref 375, .ref 376, .ref 377, .int 751 0, .int 269 0, .str "/claim/cut.py" 752] }),
 (379, ⟨.type "function", none, .func (.mk "insert" "GapText.insert" (sArgs (cS 52 6)) (.stmts (sBody (cS 52 6))) (sScope (cS 52 6)) (3) ([]) (.none) (.none) (.none) (.str "emacs.gap" 679) (none) (.ref 378) (.none) (0)), #[]⟩),
 (385, { cls := .type "code", data := Data.fields #[.str "delete" 754, .str "GapText.delete" 755, .str "/claim/cut.py" 756, .int 275 0, .int 3 0, .int 0 0, .int 0 0, .int 3 0, .ref 380, .bool true, .int 181 0, .ref 381, .none, .ref 382, .ref 383, .ref 384, .int 761 0, .int 275 0, .str "/claim/cut.py" 762] }),
 (386, ⟨.type "function", none, .func (.mk "delete" "GapText.delete" (sArgs (cS 52 7)) (.stmts (sBody (cS 52 7))) (sScope (cS 52 7)) (3) ([]) (.none) (.none) (.none) (.str "emacs.gap" 679) (none) (.ref 385) (.none) (0)), #[]⟩),
 (392, { cls := .type "code", data := Data.fields #[.str "put" 764, .str "GapText.put" 765, .str "/claim/cut.py" 766, .int 285 0, .int 3 0, .int 0 0, .int 0 0, .int 3 0, .ref 387, .bool true, .int 181 0, .ref 388, .none, .ref 389, .ref 390, .ref 391, .int 770 0, .int 285 0, .str "/claim/cut.py" 771] }),
 (393, ⟨.type "function", none, .func (.mk "put" "GapText.put" (sArgs (cS 52 8)) (.stmts (sBody (cS 52 8))) (sScope (cS 52 8)) (3) ([]) (.none) (.none) (.none) (.str "emacs.gap" 679) (none) (.ref 392) (.none) (0)), #[]⟩),
 (399, { cls := .type "code", data := Data.fields #[.str "narrow_gap" 773, .str "GapText.narrow_gap" 774, .str "/claim/cut.py" 775, .int 288 0, .int 1 0, .int 0 0, .int 0 0, .int 3 0, .ref 394, .bool true, .int 181 0, .ref 395, .none, .ref 396, .ref 397, .ref 398, .int 777 0, .int 288 0, .str "/claim/cut.py" 778] }),
 (400, ⟨.type "function", none, .func (.mk "narrow_gap" "GapText.narrow_gap" (sArgs (cS 52 9)) (.stmts (sBody (cS 52 9))) (sScope (cS 52 9)) (3) ([]) (.none) (.none) (.none) (.str "emacs.gap" 679) (none) (.ref 399) (.none) (0)), #[]⟩),
 (406, { cls := .type "code", data := Data.fields #[.str "is_whole" 780, .str "GapText.is_whole" 781, .str "/claim/cut.py" 782, .int 291 0, .int 1 0, .int 0 0, .int 0 0, .int 3 0, .ref 401, .bool true, .int 181 0, .ref 402, .none, .ref 403, .ref 404, .ref 405, .int 784 0, .int 291 0, .str "/claim/cut.py" 785] }),
 (407, ⟨.type "function", none, .func (.mk "is_whole" "GapText.is_whole" (sArgs (cS 52 10)) (.stmts (sBody (cS 52 10))) (sScope (cS 52 10)) (3) ([]) (.none) (.none) (.none) (.str "emacs.gap" 679) (none) (.ref 406) (.none) (0)), #[]⟩),
 (409, { cls := .type "dict", data := Data.dict #[{ hash := PyData.keyHash P "__module__", key := .str "__module__" 688, val := .str "emacs.gap" 679 }, { hash := PyData.keyHash P "__firstlineno__", key := .str "__firstlineno__" 692, val := .int 228 691 }, { hash := PyData.keyHash P "__init__", key := .str "__init__" 701, val := .ref 337 }, { hash := PyData.keyHash P "size", key := .str "size" 708, val := .ref 344 }, { hash := PyData.keyHash P "code", key := .str "code" 716, val := .ref 351 }, { hash := PyData.keyHash P "codes", key := .str "codes" 726, val := .ref 358 }, { hash := PyData.keyHash P "move_gap", key := .str "move_gap" 735, val := .ref 365 }, { hash := PyData.keyHash P "widen_gap", key := .str "widen_gap" 744, val := .ref 372 }, { hash := PyData.keyHash P "insert", key := .str "insert" 753, val := .ref 379 }, { hash := PyData.keyHash P "delete", key := .str "delete" 763, val := .ref 386 }, { hash := PyData.keyHash P "put", key := .str "put" 772, val := .ref 393 }, { hash := PyData.keyHash P "narrow_gap", key := .str "narrow_gap" 779, val := .ref 400 }, { hash := PyData.keyHash P "is_whole", key := .str "is_whole" 786, val := .ref 407 }, { hash := PyData.keyHash P "__static_attributes__", key := .str "__static_attributes__" 791, val := .ref 408 }, { hash := PyData.keyHash P "__dict__", key := .str "__dict__" 793, val := .ref 411 }, { hash := PyData.keyHash P "__weakref__", key := .str "__weakref__" 795, val := .ref 412 }, { hash := PyData.keyHash P "__doc__", key := .str "__doc__" 796, val := .none }] 4 }),
 (410, { cls := .type "type", data := Data.cls { name := "GapText", bases := [.type "object"], mro := [.ref 410, .type "object"], ns := 409, qualname := "GapText" }, slots := #[none, none, some (.str "GapText" 681), some (.str "GapText" 689), some (.builtin "object.__new__"), some (.bool true)] }),
 (427, { cls := .type "code", data := Data.fields #[.str "shown" 813, .str "Opaque.shown" 814, .str "/claim/cut.py" 815, .int 296 0, .int 1 0, .int 0 0, .int 0 0, .int 3 0, .ref 422, .bool true, .int 181 0, .ref 423, .none, .ref 424, .ref 425, .ref 426, .int 817 0, .int 296 0, .str "/claim/cut.py" 818] }),
 (428, ⟨.type "function", none, .func (.mk "shown" "Opaque.shown" (sArgs (cS 54 0)) (.stmts (sBody (cS 54 0))) (sScope (cS 54 0)) (3) ([]) (.none) (.none) (.none) (.str "emacs.objects" 799) (none) (.ref 427) (.none) (0)), #[]⟩),
 (434, { cls := .type "code", data := Data.fields #[.str "kind" 820, .str "Opaque.kind" 821, .str "/claim/cut.py" 822, .int 299 0, .int 1 0, .int 0 0, .int 0 0, .int 3 0, .ref 429, .bool true, .int 181 0, .ref 430, .none, .ref 431, .ref 432, .ref 433, .int 824 0, .int 299 0, .str "/claim/cut.py" 825] }),
 (435, ⟨.type "function", none, .func (.mk "kind" "Opaque.kind" (sArgs (cS 54 1)) (.stmts (sBody (cS 54 1))) (sScope (cS 54 1)) (3) ([]) (.none) (.none) (.none) (.str "emacs.objects" 799) (none) (.ref 434) (.none) (0)), #[]⟩),
 (441, { cls := .type "code", data := Data.fields #[.str "same_as" 827, .str "Opaque.same_as" 828, .str "/claim/cut.py" 829, .int 302 0, .int 2 0, .int 0 0, .int 0 0, .int 3 0, .ref 436, .bool true, .int 181 0, .ref 437, .none, .ref 438, .ref 439, .ref 440, .int 832 0, .int 302 0, .str "/claim/cut.py" 833] }),
 (442, ⟨.type "function", none, .func (.mk "same_as" "Opaque.same_as" (sArgs (cS 54 2)) (.stmts (sBody (cS 54 2))) (sScope (cS 54 2)) (3) ([]) (.none) (.none) (.none) (.str "emacs.objects" 799) (none) (.ref 441) (.none) (0)), #[]⟩),
 (444, { cls := .type "dict", data := Data.dict #[{ hash := PyData.keyHash P "__module__", key := .str "__module__" 808, val := .str "emacs.objects" 799 }, { hash := PyData.keyHash P "__firstlineno__", key := .str "__firstlineno__" 812, val := .int 294 811 }, { hash := PyData.keyHash P "shown", key := .str "shown" 819, val := .ref 428 }, { hash := PyData.keyHash P "kind", key := .str "kind" 826, val := .ref 435 }, { hash := PyData.keyHash P "same_as", key := .str "same_as" 834, val := .ref 442 }, { hash := PyData.keyHash P "__static_attributes__", key := .str "__static_attributes__" 835, val := .ref 443 }, { hash := PyData.keyHash P "__dict__", key := .str "__dict__" 837, val := .ref 446 }, { hash := PyData.keyHash P "__weakref__", key := .str "__weakref__" 839, val := .ref 447 }, { hash := PyData.keyHash P "__doc__", key := .str "__doc__" 840, val := .none }] 4 }),
 (445, { cls := .type "type", data := Data.cls { name := "Opaque", bases := [.type "object"], mro := [.ref 445, .type "object"], ns := 444, qualname := "Opaque", subclasses := [.ref 487, .ref 661] }, slots := #[none, none, some (.str "Opaque" 801), some (.str "Opaque" 809), some (.builtin "object.__new__"), some (.bool true)] }),
 (462, { cls := .type "code", data := Data.fields #[.str "__init__" 857, .str "Marker.__init__" 858, .str "/claim/cut.py" 859, .int 307 0, .int 3 0, .int 0 0, .int 0 0, .int 3 0, .ref 457, .bool true, .int 181 0, .ref 458, .none, .ref 459, .ref 460, .ref 461, .int 863 0, .int 307 0, .str "/claim/cut.py" 864] }),
 (463, ⟨.type "function", none, .func (.mk "__init__" "Marker.__init__" (sArgs (cS 56 0)) (.stmts (sBody (cS 56 0))) (sScope (cS 56 0)) (3) ([]) (.none) (.none) (.none) (.str "emacs.markers" 843) (none) (.ref 462) (.none) (0)), #[]⟩),
 (469, { cls := .type "code", data := Data.fields #[.str "shown" 866, .str "Marker.shown" 867, .str "/claim/cut.py" 868, .int 313 0, .int 1 0, .int 0 0, .int 0 0, .int 3 0, .ref 464, .bool true, .int 181 0, .ref 465, .none, .ref 466, .ref 467, .ref 468, .int 870 0, .int 313 0, .str "/claim/cut.py" 871] }),
 (470, ⟨.type "function", none, .func (.mk "shown" "Marker.shown" (sArgs (cS 56 1)) (.stmts (sBody (cS 56 1))) (sScope (cS 56 1)) (3) ([]) (.none) (.none) (.none) (.str "emacs.markers" 843) (none) (.ref 469) (.none) (0)), #[]⟩),
 (476, { cls := .type "code", data := Data.fields #[.str "kind" 873, .str "Marker.kind" 874, .str "/claim/cut.py" 875, .int 316 0, .int 1 0, .int 0 0, .int 0 0, .int 3 0, .ref 471, .bool true, .int 181 0, .ref 472, .none, .ref 473, .ref 474, .ref 475, .int 877 0, .int 316 0, .str "/claim/cut.py" 878] }),
 (477, ⟨.type "function", none, .func (.mk "kind" "Marker.kind" (sArgs (cS 56 2)) (.stmts (sBody (cS 56 2))) (sScope (cS 56 2)) (3) ([]) (.none) (.none) (.none) (.str "emacs.markers" 843) (none) (.ref 476) (.none) (0)), #[]⟩),
 (483, { cls := .type "code", data := Data.fields #[.str "same_as" 880, .str "Marker.same_as" 881, .str "/claim/cut.py" 882, .int 319 0, .int 2 0, .int 0 0, .int 0 0, .int 3 0, .ref 478, .bool true, .int 181 0, .ref 479, .none, .ref 480, .ref 481, .ref 482, .int 885 0, .int 319 0, .str "/claim/cut.py" 886] }),
 (484, ⟨.type "function", none, .func (.mk "same_as" "Marker.same_as" (sArgs (cS 56 3)) (.stmts (sBody (cS 56 3))) (sScope (cS 56 3)) (3) ([]) (.none) (.none) (.none) (.str "emacs.markers" 843) (none) (.ref 483) (.none) (0)), #[]⟩),
 (486, { cls := .type "dict", data := Data.dict #[{ hash := PyData.keyHash P "__module__", key := .str "__module__" 852, val := .str "emacs.markers" 843 }, { hash := PyData.keyHash P "__firstlineno__", key := .str "__firstlineno__" 856, val := .int 305 855 }, { hash := PyData.keyHash P "__init__", key := .str "__init__" 865, val := .ref 463 }, { hash := PyData.keyHash P "shown", key := .str "shown" 872, val := .ref 470 }, { hash := PyData.keyHash P "kind", key := .str "kind" 879, val := .ref 477 }, { hash := PyData.keyHash P "same_as", key := .str "same_as" 887, val := .ref 484 }, { hash := PyData.keyHash P "__static_attributes__", key := .str "__static_attributes__" 892, val := .ref 485 }, { hash := PyData.keyHash P "__doc__", key := .str "__doc__" 893, val := .none }] 2 }),
 (487, { cls := .type "type", data := Data.cls { name := "Marker", bases := [.ref 445], mro := [.ref 487, .ref 445, .type "object"], ns := 486, qualname := "Marker" }, slots := #[some (.ref 450), none, some (.str "Marker" 845), some (.str "Marker" 853), some (.builtin "object.__new__"), some (.bool true)] }),
 (502, { cls := .type "code", data := Data.fields #[.str "__init__" 908, .str "Markers.__init__" 909, .str "/claim/cut.py" 910, .int 323 0, .int 1 0, .int 0 0, .int 0 0, .int 3 0, .ref 497, .bool true, .int 181 0, .ref 498, .none, .ref 499, .ref 500, .ref 501, .int 912 0, .int 323 0, .str "/claim/cut.py" 913] }),
 (503, ⟨.type "function", none, .func (.mk "__init__" "Markers.__init__" (sArgs (cS 57 0)) (.stmts (sBody (cS 57 0))) (sScope (cS 57 0)) (3) ([]) (.none) (.none) (.none) (.str "emacs.markers" 843) (none) (.ref 502) (.none) (0)), #[]⟩),
 (509, { cls := .type "code", data := Data.fields #[.str "numbers" 915, .str "Markers.numbers" 916, .str "/claim/cut.py" 917, .int 326 0, .int 1 0, .int 0 0, .int 0 0, .int 3 0, .ref 504, .bool true, .int 181 0, .ref 505, .none, .ref 506, .ref 507, .ref 508, .int 919 0, .int 326 0, .str "/claim/cut.py" 920] }),
 (510, ⟨.type "function", none, .func (.mk "numbers" "Markers.numbers" (sArgs (cS 57 1)) (.stmts (sBody (cS 57 1))) (sScope (cS 57 1)) (3) ([]) (.none) (.none) (.none) (.str "emacs.markers" 843) (none) (.ref 509) (.none) (0)), #[]⟩),
 (516, { cls := .type "code", data := Data.fields #[.str "put" 922, .str "Markers.put" 923, .str "/claim/cut.py" 924, .int 329 0, .int 3 0, .int 0 0, .int 0 0, .int 3 0, .ref 511, .bool true, .int 181 0, .ref 512, .none, .ref 513, .ref 514, .ref 515, .int 928 0, .int 329 0, .str "/claim/cut.py" 929] }),
 (517, ⟨.type "function", none, .func (.mk "put" "Markers.put" (sArgs (cS 57 2)) (.stmts (sBody (cS 57 2))) (sScope (cS 57 2)) (3) ([]) (.none) (.none) (.none) (.str "emacs.markers" 843) (none) (.ref 516) (.none) (0)), #[]⟩),
 (523, { cls := .type "code", data := Data.fields #[.str "drop" 931, .str "Markers.drop" 932, .str "/claim/cut.py" 933, .int 333 0, .int 2 0, .int 0 0, .int 0 0, .int 3 0, .ref 518, .bool true, .int 181 0, .ref 519, .none, .ref 520, .ref 521, .ref 522, .int 936 0, .int 333 0, .str "/claim/cut.py" 937] }),
 (524, ⟨.type "function", none, .func (.mk "drop" "Markers.drop" (sArgs (cS 57 3)) (.stmts (sBody (cS 57 3))) (sScope (cS 57 3)) (3) ([]) (.none) (.none) (.none) (.str "emacs.markers" 843) (none) (.ref 523) (.none) (0)), #[]⟩),
 (530, { cls := .type "code", data := Data.fields #[.str "within" 939, .str "Markers.within" 940, .str "/claim/cut.py" 941, .int 337 0, .int 3 0, .int 0 0, .int 0 0, .int 3 0, .ref 525, .bool true, .int 181 0, .ref 526, .none, .ref 527, .ref 528, .ref 529, .int 947 0, .int 337 0, .str "/claim/cut.py" 948] }),
 (531, ⟨.type "function", none, .func (.mk "within" "Markers.within" (sArgs (cS 57 4)) (.stmts (sBody (cS 57 4))) (sScope (cS 57 4)) (3) ([]) (.none) (.none) (.none) (.str "emacs.markers" 843) (none) (.ref 530) (.none) (0)), #[]⟩),
 (537, { cls := .type "code", data := Data.fields #[.str "inserted" 950, .str "Markers.inserted" 951, .str "/claim/cut.py" 952, .int 344 0, .int 4 0, .int 0 0, .int 0 0, .int 3 0, .ref 532, .bool true, .int 181 0, .ref 533, .none, .ref 534, .ref 535, .ref 536, .int 959 0, .int 344 0, .str "/claim/cut.py" 960] }),
 (538, ⟨.type "function", none, .func (.mk "inserted" "Markers.inserted" (sArgs (cS 57 5)) (.stmts (sBody (cS 57 5))) (sScope (cS 57 5)) (3) ([]) (.none) (.none) (.none) (.str "emacs.markers" 843) (none) (.ref 537) (.none) (0)), #[]⟩),
 (544, { cls := .type "code", data := Data.fields #[.str "deleted" 962, .str "Markers.deleted" 963, .str "/claim/cut.py" 964, .int 350 0, .int 3 0, .int 0 0, .int 0 0, .int 3 0, .ref 539, .bool true, .int 181 0, .ref 540, .none, .ref 541, .ref 542, .ref 543, .int 970 0, .int 350 0, .str "/claim/cut.py" 971] }),
 (545, ⟨.type "function", none, .func (.mk "deleted" "Markers.deleted" (sArgs (cS 57 6)) (.stmts (sBody (cS 57 6))) (sScope (cS 57 6)) (3) ([]) (.none) (.none) (.none) (.str "emacs.markers" 843) (none) (.ref 544) (.none) (0)), #[]⟩),
 (551, { cls := .type "code", data := Data.fields #[.str "replaced" 973, .str "Markers.replaced" 974, .str "/claim/cut.py" 975, .int 358 0, .int 4 0, .int 0 0, .int 0 0, .int 3 0, .ref 546, .bool true, .int 181 0, .ref 547, .none, .ref 548, .ref 549, .ref 550, .int 982 0, .int 358 0, .str "/claim/cut.py" 983] }),
 (552, ⟨.type "function", none, .func (.mk "replaced" "Markers.replaced" (sArgs (cS 57 7)) (.stmts (sBody (cS 57 7))) (sScope (cS 57 7)) (3) ([]) (.none) (.none) (.none) (.str "emacs.markers" 843) (none) (.ref 551) (.none) (0)), #[]⟩),
 (554, { cls := .type "dict", data := Data.dict #[{ hash := PyData.keyHash P "__module__", key := .str "__module__" 903, val := .str "emacs.markers" 843 }, { hash := PyData.keyHash P "__firstlineno__", key := .str "__firstlineno__" 907, val := .int 321 906 }, { hash := PyData.keyHash P "__init__", key := .str "__init__" 914, val := .ref 503 }, { hash := PyData.keyHash P "numbers", key := .str "numbers" 921, val := .ref 510 }, { hash := PyData.keyHash P "put", key := .str "put" 930, val := .ref 517 }, { hash := PyData.keyHash P "drop", key := .str "drop" 938, val := .ref 524 }, { hash := PyData.keyHash P "within", key := .str "within" 949, val := .ref 531 }, { hash := PyData.keyHash P "inserted", key := .str "inserted" 961, val := .ref 538 }, { hash := PyData.keyHash P "deleted", key := .str "deleted" 972, val := .ref 545 }, { hash := PyData.keyHash P "replaced", key := .str "replaced" 984, val := .ref 552 }, { hash := PyData.keyHash P "__static_attributes__", key := .str "__static_attributes__" 986, val := .ref 553 }, { hash := PyData.keyHash P "__dict__", key := .str "__dict__" 988, val := .ref 556 }, { hash := PyData.keyHash P "__weakref__", key := .str "__weakref__" 990, val := .ref 557 }, { hash := PyData.keyHash P "__doc__", key := .str "__doc__" 991, val := .none }] 4 }),
 (555, { cls := .type "type", data := Data.cls { name := "Markers", bases := [.type "object"], mro := [.ref 555, .type "object"], ns := 554, qualname := "Markers" }, slots := #[none, none, some (.str "Markers" 896), some (.str "Markers" 904), some (.builtin "object.__new__"), some (.bool true)] }),
 (567, { cls := .type "tuple", data := Data.seq #[.int 8 1008] }),
 (573, { cls := .type "code", data := Data.fields #[.str "__init__" 1009, .str "Buffer.__init__" 1010, .str "/claim/cut.py" 1011, .int 368 0, .int 4 0, .int 0 0, .int 0 0, .int 3 0, .ref 568, .bool true, .int 181 0, .ref 569, .none, .ref 570, .ref 571, .ref 572, .int 1016 0, .int 368 0, .str "/claim/cut.py" 1017] }),
 (574, ⟨.type "function", none, .func (.mk "__init__" "Buffer.__init__" (sArgs (cS 59 0)) (.stmts (sBody (cS 59 0))) (sScope (cS 59 0)) (3) ([]) (.ref 567) (.none) (.none) (.str "emacs.buffer" 994) (none) (.ref 573) (.none) (0)), #[]⟩),
 (580, { cls := .type "code", data := Data.fields #[.str "shown" 1019, .str "Buffer.shown" 1020, .str "/claim/cut.py" 1021, .int 390 0, .int 1 0, .int 0 0, .int 0 0, .int 3 0, .ref 575, .bool true, .int 181 0, .ref 576, .none, .ref 577, .ref 578, .ref 579, .int 1023 0, .int 390 0, .str "/claim/cut.py" 1024] }),
 (581, ⟨.type "function", none, .func (.mk "shown" "Buffer.shown" (sArgs (cS 59 1)) (.stmts (sBody (cS 59 1))) (sScope (cS 59 1)) (3) ([]) (.none) (.none) (.none) (.str "emacs.buffer" 994) (none) (.ref 580) (.none) (0)), #[]⟩),
 (587, { cls := .type "code", data := Data.fields #[.str "kind" 1026, .str "Buffer.kind" 1027, .str "/claim/cut.py" 1028, .int 393 0, .int 1 0, .int 0 0, .int 0 0, .int 3 0, .ref 582, .bool true, .int 181 0, .ref 583, .none, .ref 584, .ref 585, .ref 586, .int 1030 0, .int 393 0, .str "/claim/cut.py" 1031] }),
 (588, ⟨.type "function", none, .func (.mk "kind" "Buffer.kind" (sArgs (cS 59 2)) (.stmts (sBody (cS 59 2))) (sScope (cS 59 2)) (3) ([]) (.none) (.none) (.none) (.str "emacs.buffer" 994) (none) (.ref 587) (.none) (0)), #[]⟩),
 (594, { cls := .type "code", data := Data.fields #[.str "begin" 1033, .str "Buffer.begin" 1034, .str "/claim/cut.py" 1035, .int 396 0, .int 1 0, .int 0 0, .int 0 0, .int 3 0, .ref 589, .bool true, .int 181 0, .ref 590, .none, .ref 591, .ref 592, .ref 593, .int 1037 0, .int 396 0, .str "/claim/cut.py" 1038] }),
 (595, ⟨.type "function", none, .func (.mk "begin" "Buffer.begin" (sArgs (cS 59 3)) (.stmts (sBody (cS 59 3))) (sScope (cS 59 3)) (3) ([]) (.none) (.none) (.none) (.str "emacs.buffer" 994) (none) (.ref 594) (.none) (0)), #[]⟩),
 (601, { cls := .type "code", data := Data.fields #[.str "end" 1040, .str "Buffer.end" 1041, .str "/claim/cut.py" 1042, .int 399 0, .int 1 0, .int 0 0, .int 0 0, .int 3 0, .ref 596, .bool true, .int 181 0, .ref 597, .none, .ref 598, .ref 599, .ref 600, .int 1044 0, .int 399 0, .str "/claim/cut.py" 1045] }),
 (602, ⟨.type "function", none, .func (.mk "end" "Buffer.end" (sArgs (cS 59 4)) (.stmts (sBody (cS 59 4))) (sScope (cS 59 4)) (3) ([]) (.none) (.none) (.none) (.str "emacs.buffer" 994) (none) (.ref 601) (.none) (0)), #[]⟩),
 (608, { cls := .type "code", data := Data.fields #[.str "size" 1047, .str "Buffer.size" 1048, .str "/claim/cut.py" 1049, .int 402 0, .int 1 0, .int 0 0, .int 0 0, .int 3 0, .ref 603, .bool true, .int 181 0, .ref 604, .none, .ref 605, .ref 606, .ref 607, .int 1051 0, .int 402 0, .str "/claim/cut.py" 1052] }),
 (609, ⟨.type "function", none, .func (.mk "size" "Buffer.size" (sArgs (cS 59 5)) (.stmts (sBody (cS 59 5))) (sScope (cS 59 5)) (3) ([]) (.none) (.none) (.none) (.str "emacs.buffer" 994) (none) (.ref 608) (.none) (0)), #[]⟩),
 (615, { cls := .type "code", data := Data.fields #[.str "code_at" 1054, .str "Buffer.code_at" 1055, .str "/claim/cut.py" 1056, .int 405 0, .int 2 0, .int 0 0, .int 0 0, .int 3 0, .ref 610, .bool true, .int 181 0, .ref 611, .none, .ref 612, .ref 613, .ref 614, .int 1059 0, .int 405 0, .str "/claim/cut.py" 1060] }),
 (616, ⟨.type "function", none, .func (.mk "code_at" "Buffer.code_at" (sArgs (cS 59 6)) (.stmts (sBody (cS 59 6))) (sScope (cS 59 6)) (3) ([]) (.none) (.none) (.none) (.str "emacs.buffer" 994) (none) (.ref 615) (.none) (0)), #[]⟩),
 (622, { cls := .type "code", data := Data.fields #[.str "codes" 1062, .str "Buffer.codes" 1063, .str "/claim/cut.py" 1064, .int 410 0, .int 3 0, .int 0 0, .int 0 0, .int 3 0, .ref 617, .bool true, .int 181 0, .ref 618, .none, .ref 619, .ref 620, .ref 621, .int 1068 0, .int 410 0, .str "/claim/cut.py" 1069] }),
 (623, ⟨.type "function", none, .func (.mk "codes" "Buffer.codes" (sArgs (cS 59 7)) (.stmts (sBody (cS 59 7))) (sScope (cS 59 7)) (3) ([]) (.none) (.none) (.none) (.str "emacs.buffer" 994) (none) (.ref 622) (.none) (0)), #[]⟩),
 (629, { cls := .type "code", data := Data.fields #[.str "goto" 1071, .str "Buffer.goto" 1072, .str "/claim/cut.py" 1073, .int 413 0, .int 2 0, .int 0 0, .int 0 0, .int 3 0, .ref 624, .bool true, .int 181 0, .ref 625, .none, .ref 626, .ref 627, .ref 628, .int 1076 0, .int 413 0, .str "/claim/cut.py" 1077] }),
 (630, ⟨.type "function", none, .func (.mk "goto" "Buffer.goto" (sArgs (cS 59 8)) (.stmts (sBody (cS 59 8))) (sScope (cS 59 8)) (3) ([]) (.none) (.none) (.none) (.str "emacs.buffer" 994) (none) (.ref 629) (.none) (0)), #[]⟩),
 (636, { cls := .type "code", data := Data.fields #[.str "tick" 1079, .str "Buffer.tick" 1080, .str "/claim/cut.py" 1081, .int 416 0, .int 1 0, .int 0 0, .int 0 0, .int 3 0, .ref 631, .bool true, .int 181 0, .ref 632, .none, .ref 633, .ref 634, .ref 635, .int 1083 0, .int 416 0, .str "/claim/cut.py" 1084] }),
 (637, ⟨.type "function", none, .func (.mk "tick" "Buffer.tick" (sArgs (cS 59 9)) (.stmts (sBody (cS 59 9))) (sScope (cS 59 9)) (3) ([]) (.none) (.none) (.none) (.str "emacs.buffer" 994) (none) (.ref 636) (.none) (0)), #[]⟩),
 (643, { cls := .type "code", data := Data.fields #[.str "is_modified" 1086, .str "Buffer.is_modified" 1087, .str "/claim/cut.py" 1088, .int 419 0, .int 1 0, .int 0 0, .int 0 0, .int 3 0, .ref 638, .bool true, .int 181 0, .ref 639, .none, .ref 640, .ref 641, .ref 642, .int 1090 0, .int 419 0, .str "/claim/cut.py" 1091] }),
 (644, ⟨.type "function", none, .func (.mk "is_modified" "Buffer.is_modified" (sArgs (cS 59 10)) (.stmts (sBody (cS 59 10))) (sScope (cS 59 10)) (3) ([]) (.none) (.none) (.none) (.str "emacs.buffer" 994) (none) (.ref 643) (.none) (0)), #[]⟩),
 (650, { cls := .type "code", data := Data.fields #[.str "set_modified" 1093, .str "Buffer.set_modified" 1094, .str "/claim/cut.py" 1095, .int 422 0, .int 2 0, .int 0 0, .int 0 0, .int 3 0, .ref 645, .bool true, .int 181 0, .ref 646, .none, .ref 647, .ref 648, .ref 649, .int 1098 0, .int 422 0, .str "/claim/cut.py" 1099] }),
 (651, ⟨.type "function", none, .func (.mk "set_modified" "Buffer.set_modified" (sArgs (cS 59 11)) (.stmts (sBody (cS 59 11))) (sScope (cS 59 11)) (3) ([]) (.none) (.none) (.none) (.str "emacs.buffer" 994) (none) (.ref 650) (.none) (0)), #[]⟩),
 (657, { cls := .type "code", data := Data.fields #[.str "touch" 1101, .str "Buffer.touch" 1102, .str "/claim/cut.py" 1103, .int 425 0, .int 2 0, .int 0 0, .int 0 0, .int 3 0, .ref 652, .bool true, .int 181 0, .ref 653, .none, .ref 654, .ref 655, .ref 656, .int 1106 0, .int 425 0, .str "/claim/cut.py" 1107] }),
 (658, ⟨.type "function", none, .func (.mk "touch" "Buffer.touch" (sArgs (cS 59 12)) (.stmts (sBody (cS 59 12))) (sScope (cS 59 12)) (3) ([]) (.none) (.none) (.none) (.str "emacs.buffer" 994) (none) (.ref 657) (.none) (0)), #[]⟩),
 (660, { cls := .type "dict", data := Data.dict #[{ hash := PyData.keyHash P "__module__", key := .str "__module__" 1003, val := .str "emacs.buffer" 994 }, { hash := PyData.keyHash P "__firstlineno__", key := .str "__firstlineno__" 1007, val := .int 366 1006 }, { hash := PyData.keyHash P "__init__", key := .str "__init__" 1018, val := .ref 574 }, { hash := PyData.keyHash P "shown", key := .str "shown" 1025, val := .ref 581 }, { hash := PyData.keyHash P "kind", key := .str "kind" 1032, val := .ref 588 }, { hash := PyData.keyHash P "begin", key := .str "begin" 1039, val := .ref 595 }, { hash := PyData.keyHash P "end", key := .str "end" 1046, val := .ref 602 }, { hash := PyData.keyHash P "size", key := .str "size" 1053, val := .ref 609 }, { hash := PyData.keyHash P "code_at", key := .str "code_at" 1061, val := .ref 616 }, { hash := PyData.keyHash P "codes", key := .str "codes" 1070, val := .ref 623 }, { hash := PyData.keyHash P "goto", key := .str "goto" 1078, val := .ref 630 }, { hash := PyData.keyHash P "tick", key := .str "tick" 1085, val := .ref 637 }, { hash := PyData.keyHash P "is_modified", key := .str "is_modified" 1092, val := .ref 644 }, { hash := PyData.keyHash P "set_modified", key := .str "set_modified" 1100, val := .ref 651 }, { hash := PyData.keyHash P "touch", key := .str "touch" 1108, val := .ref 658 }, { hash := PyData.keyHash P "__static_attributes__", key := .str "__static_attributes__" 1129, val := .ref 659 }, { hash := PyData.keyHash P "__doc__", key := .str "__doc__" 1130, val := .none }] 2 }),
 (661, { cls := .type "type", data := Data.cls { name := "Buffer", bases := [.ref 445], mro := [.ref 661, .ref 445, .type "object"], ns := 660, qualname := "Buffer" }, slots := #[some (.ref 560), none, some (.str "Buffer" 996), some (.str "Buffer" 1004), some (.builtin "object.__new__"), some (.bool true)] }),
 (669, { cls := .type "code", data := Data.fields #[.str "set_marker" 1135, .str "set_marker" 1136, .str "/claim/cut.py" 1137, .int 430 0, .int 3 0, .int 0 0, .int 0 0, .int 3 0, .ref 664, .bool true, .int 181 0, .ref 665, .none, .ref 666, .ref 667, .ref 668, .int 1141 0, .int 430 0, .str "/claim/cut.py" 1142] }),
 (670, ⟨.type "function", none, .func (.mk "set_marker" "set_marker" (sArgs (fS 61)) (.stmts (sBody (fS 61))) (sScope (fS 61)) (3) ([]) (.none) (.none) (.none) (.str "emacs.placing" 1133) (none) (.ref 669) (.none) (0)), #[]⟩),
 (676, { cls := .type "code", data := Data.fields #[.str "_law_draw" 1146, .str "_law_draw" 1147, .str "/claim/cut.py" 1148, .int 439 0, .int 2 0, .int 0 0, .int 0 0, .int 3 0, .ref 671, .bool true, .int 181 0, .ref 672, .none, .ref 673, .ref 674, .ref 675, .int 1151 0, .int 439 0, .str "/claim/cut.py" 1152] }),
 (677, ⟨.type "function", none, .func (.mk "_law_draw" "_law_draw" (sArgs (fS 63)) (.stmts (sBody (fS 63))) (sScope (fS 63)) (3) ([]) (.none) (.none) (.none) (.str "law_pq0290_01" 1144) (none) (.ref 676) (.none) (0)), #[]⟩),
 (683, { cls := .type "code", data := Data.fields #[.str "_law_spot" 1154, .str "_law_spot" 1155, .str "/claim/cut.py" 1156, .int 441 0, .int 2 0, .int 0 0, .int 0 0, .int 3 0, .ref 678, .bool true, .int 181 0, .ref 679, .none, .ref 680, .ref 681, .ref 682, .int 1161 0, .int 441 0, .str "/claim/cut.py" 1162] }),
 (684, ⟨.type "function", none, .func (.mk "_law_spot" "_law_spot" (sArgs (fS 64)) (.stmts (sBody (fS 64))) (sScope (fS 64)) (3) ([]) (.none) (.none) (.none) (.str "law_pq0290_01" 1144) (none) (.ref 683) (.none) (0)), #[]⟩),
 (690, { cls := .type "code", data := Data.fields #[.str "_law_row" 1164, .str "_law_row" 1165, .str "/claim/cut.py" 1166, .int 447 0, .int 5 0, .int 0 0, .int 0 0, .int 3 0, .ref 685, .bool true, .int 181 0, .ref 686, .none, .ref 687, .ref 688, .ref 689, .int 1173 0, .int 447 0, .str "/claim/cut.py" 1174] }),
 (691, ⟨.type "function", none, .func (.mk "_law_row" "_law_row" (sArgs (fS 65)) (.stmts (sBody (fS 65))) (sScope (fS 65)) (3) ([]) (.none) (.none) (.none) (.str "law_pq0290_01" 1144) (none) (.ref 690) (.none) (0)), #[]⟩),
 (697, { cls := .type "code", data := Data.fields #[.str "_law_column" 1176, .str "_law_column" 1177, .str "/claim/cut.py" 1178, .int 456 0, .int 6 0, .int 0 0, .int 0 0, .int 3 0, .ref 692, .bool true, .int 181 0, .ref 693, .none, .ref 694, .ref 695, .ref 696, .int 1187 0, .int 456 0, .str "/claim/cut.py" 1188] }),
 (698, ⟨.type "function", none, .func (.mk "_law_column" "_law_column" (sArgs (fS 66)) (.stmts (sBody (fS 66))) (sScope (fS 66)) (3) ([]) (.none) (.none) (.none) (.str "law_pq0290_01" 1144) (none) (.ref 697) (.none) (0)), #[]⟩),
 (704, { cls := .type "code", data := Data.fields #[.str "_law_text" 1190, .str "_law_text" 1191, .str "/claim/cut.py" 1192, .int 466 0, .int 1 0, .int 0 0, .int 0 0, .int 3 0, .ref 699, .bool true, .int 181 0, .ref 700, .none, .ref 701, .ref 702, .ref 703, .int 1197 0, .int 466 0, .str "/claim/cut.py" 1198] }),
 (705, ⟨.type "function", none, .func (.mk "_law_text" "_law_text" (sArgs (fS 67)) (.stmts (sBody (fS 67))) (sScope (fS 67)) (3) ([]) (.none) (.none) (.none) (.str "law_pq0290_01" 1144) (none) (.ref 704) (.none) (0)), #[]⟩),
 (711, { cls := .type "code", data := Data.fields #[.str "_law_done" 1200, .str "_law_done" 1201, .str "/claim/cut.py" 1202, .int 471 0, .int 5 0, .int 0 0, .int 0 0, .int 3 0, .ref 706, .bool true, .int 181 0, .ref 707, .none, .ref 708, .ref 709, .ref 710, .int 1208 0, .int 471 0, .str "/claim/cut.py" 1209] }),
 (712, ⟨.type "function", none, .func (.mk "_law_done" "_law_done" (sArgs (fS 68)) (.stmts (sBody (fS 68))) (sScope (fS 68)) (3) ([]) (.none) (.none) (.none) (.str "law_pq0290_01" 1144) (none) (.ref 711) (.none) (0)), #[]⟩),
 (716, { cls := .type "code", data := Data.fields #[.str "law" 1211, .str "law" 1212, .str "/claim/cut.py" 1213, .int 480 0, .int 1 0, .int 0 0, .int 0 0, .int 3 0, .ref 713, .bool true, .int 181 0, .ref 714, .none, .none, .none, .ref 715, .int 1214 0, .int 480 0, .str "/claim/cut.py" 1215] }),
 (717, ⟨.type "function", none, .func (.mk "law" "law" (sArgs (fS 69)) (.stmts (sBody (fS 69))) (sScope (fS 69)) (3) ([]) (.none) (.none) (.none) (.str "law_pq0290_01" 1144) (none) (.ref 716) (.none) (0)), #[]⟩) ]
noncomputable def kAs : List Addr := [3, 20, 21, 34, 35, 47, 48, 54, 55, 61, 62, 68, 69, 75, 76, 82, 83, 89, 90, 96, 97, 103, 104, 110, 111, 112, 118, 119, 120, 126, 127, 133, 134, 135, 141, 142, 148, 149, 155, 156, 162, 163, 169, 170, 176, 177, 183, 184, 190, 191, 197, 198, 204, 205, 211, 212, 218, 219, 225, 226, 232, 233, 239, 240, 253, 254, 256, 257, 267, 268, 274, 275, 281, 282, 288, 289, 295, 296, 302, 303, 307, 308, 312, 313, 317, 318, 322, 323, 336, 337, 343, 344, 350, 351, 357, 358, 364, 365, 371, 372, 378, 379, 385, 386, 392, 393, 399, 400, 406, 407, 409, 410, 427, 428, 434, 435, 441, 442, 444, 445, 462, 463, 469, 470, 476, 477, 483, 484, 486, 487, 502, 503, 509, 510, 516, 517, 523, 524, 530, 531, 537, 538, 544, 545, 551, 552, 554, 555, 567, 573, 574, 580, 581, 587, 588, 594, 595, 601, 602, 608, 609, 615, 616, 622, 623, 629, 630, 636, 637, 643, 644, 650, 651, 657, 658, 660, 661, 669, 670, 676, 677, 683, 684, 690, 691, 697, 698, 704, 705, 711, 712, 716, 717]
theorem kAs_ok : ∀ P, kAs = (KK P).map (·.1) := fun P => by kernel_rfl
end Mine
end

section
open PySem PySem.W PySem.Calls PyProof.Rows
set_option Elab.async false
set_option maxRecDepth 100000
set_option linter.unusedVariables false
namespace Mine

/-- a value without its token -/
inductive MV where
  | none | bool (b : Bool) | int (i : Int) | str (x : Str) | ref (a : Addr) | bi (id : String) | ty (n : String)

inductive RV : MV → Value → Prop
  | none : RV .none .none
  | bool (b : Bool) : RV (.bool b) (.bool b)
  | int (i : Int) (t : Tok) : RV (.int i) (.int i t)
  | str (x : Str) (t : Tok) : RV (.str x) (.str x t)
  | ref (a : Addr) : RV (.ref a) (.ref a)
  | bi (id : String) : RV (.bi id) (.builtin id)
  | ty (n : String) : RV (.ty n) (.type n)

noncomputable def RVs : List MV → List Value → Prop
  | [], [] => True
  | a :: as, v :: vs => RV a v ∧ RVs as vs
  | _, _ => False

theorem lenS {α : Type} {l : List α} {n : Nat} (h : l.length = n + 1) : ∃ v r, l = v :: r ∧ r.length = n := by
  cases l with
  | nil => cases h
  | cons v r => exact ⟨v, r, rfl, Nat.succ.inj h⟩
theorem len1 {α : Type} {l : List α} (h : l.length = 1) : ∃ v1, l = [v1] := by
  obtain ⟨v, r, e, h2⟩ := lenS h
  subst e
  obtain rfl := List.eq_nil_of_length_eq_zero h2
  exact ⟨v, rfl⟩
theorem len2 {α : Type} {l : List α} (h : l.length = 2) : ∃ v1 v2, l = [v1, v2] := by
  obtain ⟨v, r, e, h2⟩ := lenS h
  subst e
  obtain ⟨v2, rfl⟩ := len1 h2
  exact ⟨v, v2, rfl⟩
theorem len3 {α : Type} {l : List α} (h : l.length = 3) : ∃ v1 v2 v3, l = [v1, v2, v3] := by
  obtain ⟨v, r, e, h2⟩ := lenS h
  subst e
  obtain ⟨v2, v3, rfl⟩ := len2 h2
  exact ⟨v, v2, v3, rfl⟩
theorem len4 {α : Type} {l : List α} (h : l.length = 4) : ∃ v1 v2 v3 v4, l = [v1, v2, v3, v4] := by
  obtain ⟨v, r, e, h2⟩ := lenS h
  subst e
  obtain ⟨v2, v3, v4, rfl⟩ := len3 h2
  exact ⟨v, v2, v3, v4, rfl⟩
theorem len5 {α : Type} {l : List α} (h : l.length = 5) : ∃ v1 v2 v3 v4 v5, l = [v1, v2, v3, v4, v5] := by
  obtain ⟨v, r, e, h2⟩ := lenS h
  subst e
  obtain ⟨v2, v3, v4, v5, rfl⟩ := len4 h2
  exact ⟨v, v2, v3, v4, v5, rfl⟩
theorem len6 {α : Type} {l : List α} (h : l.length = 6) : ∃ v1 v2 v3 v4 v5 v6, l = [v1, v2, v3, v4, v5, v6] := by
  obtain ⟨v, r, e, h2⟩ := lenS h
  subst e
  obtain ⟨v2, v3, v4, v5, v6, rfl⟩ := len5 h2
  exact ⟨v, v2, v3, v4, v5, v6, rfl⟩
theorem len7 {α : Type} {l : List α} (h : l.length = 7) : ∃ v1 v2 v3 v4 v5 v6 v7, l = [v1, v2, v3, v4, v5, v6, v7] := by
  obtain ⟨v, r, e, h2⟩ := lenS h
  subst e
  obtain ⟨v2, v3, v4, v5, v6, v7, rfl⟩ := len6 h2
  exact ⟨v, v2, v3, v4, v5, v6, v7, rfl⟩
theorem len8 {α : Type} {l : List α} (h : l.length = 8) : ∃ v1 v2 v3 v4 v5 v6 v7 v8, l = [v1, v2, v3, v4, v5, v6, v7, v8] := by
  obtain ⟨v, r, e, h2⟩ := lenS h
  subst e
  obtain ⟨v2, v3, v4, v5, v6, v7, v8, rfl⟩ := len7 h2
  exact ⟨v, v2, v3, v4, v5, v6, v7, v8, rfl⟩
theorem RVs.length : ∀ {as : List MV} {vs : List Value}, RVs as vs → vs.length = as.length
  | [], [], _ => rfl
  | _ :: _, _ :: _, h => by simp [RVs.length h.2]
  | [], _ :: _, h => h.elim
  | _ :: _, [], h => h.elim
theorem RVs.append : ∀ {as bs : List MV} {vs ws : List Value}, RVs as vs → RVs bs ws → RVs (as ++ bs) (vs ++ ws)
  | [], _, [], _, _, h => h
  | _ :: _, _, _ :: _, _, h, h' => ⟨h.1, RVs.append h.2 h'⟩
  | [], _, _ :: _, _, h, _ => h.elim
  | _ :: _, _, [], _, h, _ => h.elim
theorem RVs.take : ∀ (n : Nat) {as : List MV} {vs : List Value}, RVs as vs → RVs (as.take n) (vs.take n)
  | 0, _, _, _ => by simp [RVs]
  | n + 1, [], [], _ => by simp [RVs]
  | n + 1, _ :: _, _ :: _, h => by simpa [RVs] using ⟨h.1, RVs.take n h.2⟩
  | _ + 1, [], _ :: _, h => h.elim
  | _ + 1, _ :: _, [], h => h.elim
theorem RVs.drop : ∀ (n : Nat) {as : List MV} {vs : List Value}, RVs as vs → RVs (as.drop n) (vs.drop n)
  | 0, _, _, h => by simpa using h
  | n + 1, [], [], _ => by simp [RVs]
  | n + 1, _ :: _, _ :: _, h => by simpa using RVs.drop n h.2
  | _ + 1, [], _ :: _, h => h.elim
  | _ + 1, _ :: _, [], h => h.elim
theorem RVs.reverse : ∀ {as : List MV} {vs : List Value}, RVs as vs → RVs as.reverse vs.reverse
  | [], [], _ => by simp [RVs]
  | _ :: _, _ :: _, h => by simpa using RVs.append (RVs.reverse h.2) (show RVs [_] [_] from ⟨h.1, trivial⟩)
  | [], _ :: _, h => h.elim
  | _ :: _, [], h => h.elim
theorem RVs.get : ∀ {as : List MV} {vs : List Value} {i : Nat} {v : Value}, RVs as vs → vs[i]? = some v → ∃ a, as[i]? = some a ∧ RV a v
  | _ :: _, _ :: _, 0, _, h, e => by simp at e; subst e; exact ⟨_, rfl, h.1⟩
  | _ :: _, _ :: _, i + 1, _, h, e => by simp at e; simpa using RVs.get h.2 e
  | [], [], _, _, _, e => by simp at e
  | [], _ :: _, _, _, h, _ => h.elim
  | _ :: _, [], _, _, h, _ => h.elim
theorem RVs.get' : ∀ {as : List MV} {vs : List Value} {i : Nat} {a : MV}, RVs as vs → as[i]? = some a → ∃ v, vs[i]? = some v ∧ RV a v
  | _ :: _, _ :: _, 0, _, h, e => by simp at e; subst e; exact ⟨_, rfl, h.1⟩
  | _ :: _, _ :: _, i + 1, _, h, e => by simp at e; simpa using RVs.get' h.2 e
  | [], [], _, _, _, e => by simp at e
  | [], _ :: _, _, _, h, _ => h.elim
  | _ :: _, [], _, _, h, _ => h.elim
theorem RVs.flatten_replicate {as : List MV} {vs : List Value} (h : RVs as vs) : ∀ n : Nat, RVs (List.replicate n as).flatten (List.replicate n vs).flatten
  | 0 => by simp [RVs]
  | n + 1 => by simpa [List.replicate_succ] using h.append (RVs.flatten_replicate h n)

/-- an object without tokens -/
inductive MO where
  | lst (xs : List MV) | tup (xs : List MV) | inst (C dx : Addr) | flds (fs : List (Str × MV)) | idict (kvs : List (Int × MV)) | cell (v : Option MV) | raw (o : Obj)

noncomputable def REs : List (Str × MV) → List DictEntry → Prop
  | [], [] => True
  | f :: fs, e :: es => (∃ t, e.key = .str f.1 t) ∧ RV f.2 e.val ∧ REs fs es
  | _, _ => False

noncomputable def RIs : List (Int × MV) → List (Int × Value) → Prop
  | [], [] => True
  | f :: fs, e :: es => e.1 = f.1 ∧ RV f.2 e.2 ∧ RIs fs es
  | _, _ => False

noncomputable def ROp : Option MV → Option Value → Prop
  | .none, .none => True
  | some a, some v => RV a v
  | _, _ => False

noncomputable def RO (p : Program) (w : World) : MO → Obj → Prop
  | .lst xs, o => ∃ vs n, o = listOf vs.toArray n ∧ RVs xs vs ∧ xs.length ≤ sizeLine
  | .tup xs, o => ∃ vs n, o = { cls := .type "tuple", data := .seq vs.toArray n } ∧ RVs xs vs
  | .inst C dx, o => o = instObj C dx
  | .flds fs, o => ∃ es n, o = dictOf es n ∧ REs fs es ∧ fs.length ≤ 100
  | .idict kvs, o => ∃ es, o.IsDictOf (intKind p w) es ∧ RIs kvs es ∧ kvs.length ≤ 100 ∧ o.isFreed = false
  | .cell v, o => ∃ v', o.data = .cell v' ∧ ROp v v'
  | .raw o', o => o = o'

abbrev CLed := List (Addr × Obj)
abbrev Led := List (Addr × MO)
abbrev Loc := List (Str × MV)

noncomputable def LedR (p : Program) (w : World) : Led → CLed → Prop
  | [], [] => True
  | a :: as, o :: os => (a.1 = o.1 ∧ RO p w a.2 o.2) ∧ LedR p w as os
  | _, _ => False

theorem LedR.keys {p : Program} {w : World} : ∀ {M : Led} {l : CLed}, LedR p w M l → l.map (·.1) = M.map (·.1)
  | [], [], _ => rfl
  | _ :: _, _ :: _, h => by simp [h.1.1, LedR.keys h.2]
  | [], _ :: _, h => h.elim
  | _ :: _, [], h => h.elim
theorem LedR.append {p : Program} {w : World} : ∀ {M M' : Led} {l l' : CLed}, LedR p w M l → LedR p w M' l' → LedR p w (M ++ M') (l ++ l')
  | [], _, [], _, _, h => h
  | _ :: _, _, _ :: _, _, h, h' => ⟨h.1, LedR.append h.2 h'⟩
  | [], _, _ :: _, _, h, _ => h.elim
  | _ :: _, _, [], _, h, _ => h.elim
theorem LedR.split {p : Program} {w : World} : ∀ {M M' : Led} {l : CLed}, LedR p w (M ++ M') l → ∃ l₁ l₂, l = l₁ ++ l₂ ∧ LedR p w M l₁ ∧ LedR p w M' l₂
  | [], _, l, h => ⟨[], l, rfl, trivial, h⟩
  | _ :: _, _, [], h => h.elim
  | _ :: _, _, o :: _, h => by
    obtain ⟨l₁, l₂, rfl, h1, h2⟩ := LedR.split (M := _) (M' := _) h.2
    exact ⟨o :: l₁, l₂, rfl, ⟨h.1, h1⟩, h2⟩
theorem LedR.mem {p : Program} {w : World} : ∀ {M : Led} {l : CLed} {a : Addr} {m : MO}, LedR p w M l → (a, m) ∈ M → ∃ o, (a, o) ∈ l ∧ RO p w m o
  | x :: _, y :: _, a, m, h, hm => by
    rcases List.mem_cons.mp hm with e | hm
    · subst e; obtain ⟨y1, y2⟩ := y; have := h.1.1; simp at this; subst this; exact ⟨_, .head _, h.1.2⟩
    · obtain ⟨o, ho, hr⟩ := LedR.mem h.2 hm; exact ⟨o, .tail _ ho, hr⟩
  | [], _, _, _, _, hm => nomatch hm
  | _ :: _, [], _, _, h, _ => h.elim
theorem LedR.perm {p : Program} {w : World} {M M' : Led} (hp : M.Perm M') : ∀ {l : CLed}, LedR p w M l → ∃ l', l.Perm l' ∧ LedR p w M' l' := by
  induction hp with
  | nil => intro l h; cases l with
    | nil => exact ⟨[], .nil, trivial⟩
    | cons => exact h.elim
  | cons x _ ih => intro l h; cases l with
    | nil => exact h.elim
    | cons y l => obtain ⟨l', h1, h2⟩ := ih h.2; exact ⟨y :: l', h1.cons y, h.1, h2⟩
  | swap x y M => intro l h; match l, h with
    | a :: b :: l, h => exact ⟨b :: a :: l, .swap .., h.2.1, h.1, h.2.2⟩
    | [_], h => exact h.2.elim
    | [], h => exact h.elim
  | trans _ _ ih1 ih2 => intro l h; obtain ⟨l1, p1, h1⟩ := ih1 h; obtain ⟨l2, p2, h2⟩ := ih2 h1; exact ⟨l2, p1.trans p2, h2⟩

/-- where the walk stands: the program, the world, the written part, what is around, the block, what stood before, the budget of depth -/
structure Cx where
  prog : Program
  w : World
  K : Frag
  A : Around
  env : Env
  h₀ : Heap
  d : Nat

noncomputable def Ground (K : Frag) (h₀ : Heap) : Prop := K.In h₀ ∧ ∃ p loose mg mb, TopRead p loose mg mb h₀
noncomputable def Room (A : Around) (d : Nat) : Prop := A.handled = none ∧ A.depth + d < recursionLimit ∧ A.units + 8 * d + 100 < cLine

structure Cx.Ok (c : Cx) : Prop where
  g : Ground c.K c.h₀
  r : Room c.A c.d
  k : c.env.scope.kind = .function
  gl : c.env.globals = mainGlobals
  bl : c.env.builtins = builtinsNs

noncomputable def LocR (lm : Loc) (m : Str → Option Value) : Prop := ∀ x a, lm.lookup x = some a → ∃ v, m x = some v ∧ RV a v

/-- the state of the heap: the frame, the ledger (R: what others made, kept as it is) -/
noncomputable def Inv (c : Cx) (R : CLed) (h : Heap) (lm : Loc) (M : Led) : Prop :=
  ∃ m led, Fr c.h₀ c.env.locals h m ∧ News c.h₀ c.env.locals h (R ++ led) ∧ ((R ++ led).map (·.1)).Nodup ∧ LocR lm m ∧ LedR c.prog c.w M led

noncomputable def Same (s s' : Shared) : Prop := s'.gens = s.gens ∧ s'.drawn = s.drawn ∧ s'.os = s.os
theorem Same.refl (s : Shared) : Same s s := ⟨rfl, rfl, rfl⟩
theorem Same.trans {s s' s'' : Shared} (h : Same s s') (h' : Same s' s'') : Same s s'' := ⟨h'.1.trans h.1, h'.2.1.trans h.2.1, h'.2.2.trans h.2.2⟩
theorem Same.of {s : Shared} {h : Heap} {tk : Nat} : Same s { s with heap := h, toks := tk } := ⟨rfl, rfl, rfl⟩

abbrev NoE : Value → Shared → Prop := fun _ _ => False
abbrev Cx.M (c : Cx) : Model := model c.prog c.w

/-- what a tree of a value leaves -/
noncomputable def PostV (c : Cx) (R : CLed) (s : Shared) (lm : Loc) (k : MV → Led → Prop) : Value → Shared → Prop :=
  fun v s' => ∃ a M', RV a v ∧ Inv c R s'.heap lm M' ∧ Same s s' ∧ k a M'

/-- a tree of a value, from every state that the ledger tells -/
noncomputable def Tv (c : Cx) (t : Sem Value) (lm : Loc) (M : Led) (k : MV → Led → Prop) : Prop :=
  ∀ R s, Inv c R s.heap lm M → wpAny c.M c.A t (PostV c R s lm k) NoE s
noncomputable def Tu (c : Cx) (t : Sem Unit) (lm : Loc) (M : Led) (k : Loc → Led → Prop) : Prop :=
  ∀ R s, Inv c R s.heap lm M → wpAny c.M c.A t (fun _ s' => ∃ lm' M', Inv c R s'.heap lm' M' ∧ Same s s' ∧ k lm' M') NoE s
noncomputable def Tb (c : Cx) (t : Sem Bool) (lm : Loc) (M : Led) (k : Bool → Led → Prop) : Prop :=
  ∀ R s, Inv c R s.heap lm M → wpAny c.M c.A t (fun b s' => ∃ M', Inv c R s'.heap lm M' ∧ Same s s' ∧ k b M') NoE s
noncomputable def Tvs (c : Cx) (t : Sem (List Value)) (lm : Loc) (M : Led) (k : List MV → Led → Prop) : Prop :=
  ∀ R s, Inv c R s.heap lm M → wpAny c.M c.A t (fun vs s' => ∃ as M', RVs as vs ∧ Inv c R s'.heap lm M' ∧ Same s s' ∧ k as M') NoE s

noncomputable def PostF (c : Cx) (R : CLed) (s : Shared) (kN : Loc → Led → Prop) (kR : MV → Led → Prop) : Flow → Shared → Prop
  | .next, s' => ∃ lm' M', Inv c R s'.heap lm' M' ∧ Same s s' ∧ kN lm' M'
  | .ret v, s' => ∃ a lm' M', RV a v ∧ Inv c R s'.heap lm' M' ∧ Same s s' ∧ kR a M'
  | _, _ => False
noncomputable def Tf (c : Cx) (t : Sem Flow) (lm : Loc) (M : Led) (kN : Loc → Led → Prop) (kR : MV → Led → Prop) : Prop :=
  ∀ R s, Inv c R s.heap lm M → wpAny c.M c.A t (PostF c R s kN kR) NoE s

theorem wpNo {α : Type} {M : Model} {A : Around} {t : Sem α} {Q Q' : α → Shared → Prop} {s : Shared} (h : wpAny M A t Q NoE s) (hq : ∀ a s', Q a s' → Q' a s') : wpAny M A t Q' NoE s :=
  wpAny_mono h hq fun _ _ e => e
theorem wpAnyE {α : Type} {M : Model} {A : Around} {t : Sem α} {Q Q' : α → Shared → Prop} {E : Value → Shared → Prop} {s : Shared} (h : wpAny M A t Q NoE s) (hq : ∀ a s', Q a s' → Q' a s') : wpAny M A t Q' E s :=
  wpAny_mono h hq fun _ _ e => e.elim

theorem Tv.mono {c : Cx} {t : Sem Value} {lm : Loc} {M : Led} {k k' : MV → Led → Prop} (h : Tv c t lm M k) (hk : ∀ a M', k a M' → k' a M') : Tv c t lm M k' :=
  fun R s hs => wpNo (h R s hs) fun _ _ ⟨a, M', h1, h2, h3, h4⟩ => ⟨a, M', h1, h2, h3, hk _ _ h4⟩
theorem Tf.mono {c : Cx} {t : Sem Flow} {lm : Loc} {M : Led} {kN kN' : Loc → Led → Prop} {kR kR' : MV → Led → Prop} (h : Tf c t lm M kN kR) (hN : ∀ a M', kN a M' → kN' a M') (hR : ∀ a M', kR a M' → kR' a M') : Tf c t lm M kN' kR' :=
  fun R s hs => wpNo (h R s hs) fun f _ p => by
    cases f with
    | next => obtain ⟨a, M', h1, h2, h3⟩ := p; exact ⟨a, M', h1, h2, hN _ _ h3⟩
    | ret v => obtain ⟨a, l, M', h1, h2, h3, h4⟩ := p; exact ⟨a, l, M', h1, h2, h3, hR _ _ h4⟩
    | brk => exact p
    | cont => exact p

theorem PostV.mk {c : Cx} {R : CLed} {s : Shared} {lm : Loc} {k : MV → Led → Prop} {a : MV} {v : Value} {h : Heap} {tk : Nat} {M' : Led} (ha : RV a v) (hi : Inv c R h lm M') (hk : k a M') : PostV c R s lm k v { s with heap := h, toks := tk } :=
  ⟨a, M', ha, hi, Same.of, hk⟩
theorem PostV.from {c : Cx} {R : CLed} {s s₁ : Shared} {lm : Loc} {k : MV → Led → Prop} {v : Value} {s' : Shared} (h : Same s s₁) (p : PostV c R s₁ lm k v s') : PostV c R s lm k v s' := by
  obtain ⟨a, M', h1, h2, h3, h4⟩ := p; exact ⟨a, M', h1, h2, h.trans h3, h4⟩
theorem PostF.from {c : Cx} {R : CLed} {s s₁ : Shared} {kN : Loc → Led → Prop} {kR : MV → Led → Prop} {f : Flow} {s' : Shared} (h : Same s s₁) (p : PostF c R s₁ kN kR f s') : PostF c R s kN kR f s' := by
  cases f with
  | next => obtain ⟨a, M', h1, h2, h3⟩ := p; exact ⟨a, M', h1, h.trans h2, h3⟩
  | ret v => obtain ⟨a, l, M', h1, h2, h3, h4⟩ := p; exact ⟨a, l, M', h1, h2, h.trans h3, h4⟩
  | brk => exact p
  | cont => exact p

theorem Tv.use {c : Cx} {t : Sem Value} {lm : Loc} {M : Led} {k : MV → Led → Prop} (h : Tv c t lm M k) {R : CLed} {s : Shared} {Q : Value → Shared → Prop} {E : Value → Shared → Prop} (hs : Inv c R s.heap lm M)
    (hq : ∀ a v M' s', RV a v → Inv c R s'.heap lm M' → Same s s' → k a M' → Q v s') : wpAny c.M c.A t Q E s :=
  wpAnyE (h R s hs) fun v s' ⟨a, M', h1, h2, h3, h4⟩ => hq a v M' s' h1 h2 h3 h4
theorem Tb.use {c : Cx} {t : Sem Bool} {lm : Loc} {M : Led} {k : Bool → Led → Prop} (h : Tb c t lm M k) {R : CLed} {s : Shared} {Q : Bool → Shared → Prop} {E : Value → Shared → Prop} (hs : Inv c R s.heap lm M)
    (hq : ∀ b M' s', Inv c R s'.heap lm M' → Same s s' → k b M' → Q b s') : wpAny c.M c.A t Q E s :=
  wpAnyE (h R s hs) fun b s' ⟨M', h2, h3, h4⟩ => hq b M' s' h2 h3 h4
theorem Tu.use {c : Cx} {t : Sem Unit} {lm : Loc} {M : Led} {k : Loc → Led → Prop} (h : Tu c t lm M k) {R : CLed} {s : Shared} {Q : Unit → Shared → Prop} {E : Value → Shared → Prop} (hs : Inv c R s.heap lm M)
    (hq : ∀ lm' M' s', Inv c R s'.heap lm' M' → Same s s' → k lm' M' → Q () s') : wpAny c.M c.A t Q E s :=
  wpAnyE (h R s hs) fun _ s' ⟨lm', M', h2, h3, h4⟩ => hq lm' M' s' h2 h3 h4
theorem Tvs.use {c : Cx} {t : Sem (List Value)} {lm : Loc} {M : Led} {k : List MV → Led → Prop} (h : Tvs c t lm M k) {R : CLed} {s : Shared} {Q : List Value → Shared → Prop} {E : Value → Shared → Prop} (hs : Inv c R s.heap lm M)
    (hq : ∀ as vs M' s', RVs as vs → Inv c R s'.heap lm M' → Same s s' → k as M' → Q vs s') : wpAny c.M c.A t Q E s :=
  wpAnyE (h R s hs) fun vs s' ⟨as, M', h1, h2, h3, h4⟩ => hq as vs M' s' h1 h2 h3 h4

section
variable {c : Cx} {R : CLed} {h h' : Heap} {lm lm' : Loc} {M M' : Led}

theorem Inv.mem {a : Addr} {mo : MO} (I : Inv c R h lm M) (hm : (a, mo) ∈ M) : ∃ o, h.get? a = some o ∧ RO c.prog c.w mo o := by
  obtain ⟨m, led, F, N, nd, l1, l2⟩ := I
  obtain ⟨o, ho, hr⟩ := l2.mem hm
  exact ⟨o, (N _ (List.mem_append_right _ ho)).1, hr⟩

theorem Inv.perm (I : Inv c R h lm M) (hp : M.Perm M') : Inv c R h lm M' := by
  obtain ⟨m, led, F, N, nd, l1, l2⟩ := I
  obtain ⟨led', p, l2'⟩ := l2.perm hp
  exact ⟨m, led', F, fun q hq => N q ((p.append_left R).mem_iff.mpr hq), ((p.append_left R).map _).nodup_iff.mp nd, l1, l2'⟩

theorem Inv.locs (I : Inv c R h lm M) (hl : ∀ x a, lm'.lookup x = some a → lm.lookup x = some a) : Inv c R h lm' M := by
  obtain ⟨m, led, F, N, nd, l1, l2⟩ := I
  exact ⟨m, led, F, N, nd, fun x a e => l1 x a (hl x a e), l2⟩

theorem Inv.left (I : Inv c R h lm (M ++ M')) : ∃ R₂, Inv c (R ++ R₂) h lm M ∧ LedR c.prog c.w M' R₂ ∧ ∀ h' lm' M₁, Inv c (R ++ R₂) h' lm' M₁ → Inv c R h' lm' (M₁ ++ M') := by
  obtain ⟨m, led, F, N, nd, l1, l2⟩ := I
  obtain ⟨a, b, rfl, r1, r2⟩ := l2.split
  have p : (R ++ (a ++ b)).Perm (R ++ b ++ a) := by
    rw [List.append_assoc]; exact List.Perm.append_left R List.perm_append_comm
  refine ⟨b, ⟨m, a, F, fun q hq => N q (p.mem_iff.mpr hq), (p.map _).nodup_iff.mp nd, l1, r1⟩, r2, ?_⟩
  rintro h' lm' M₁ ⟨m', led', F', N', nd', l1', l2'⟩
  have p' : (R ++ b ++ led').Perm (R ++ (led' ++ b)) := by
    rw [List.append_assoc]; exact List.Perm.append_left R List.perm_append_comm
  exact ⟨m', led' ++ b, F', fun q hq => N' q (p'.mem_iff.mpr hq), (p'.map _).nodup_iff.mp nd', l1', l2'.append r2⟩

/-- less of the ledger -/
theorem Inv.drop (I : Inv c R h lm (M ++ M')) : Inv c R h lm M := by
  obtain ⟨m, led, F, N, nd, l1, l2⟩ := I
  obtain ⟨a, b, rfl, r1, r2⟩ := l2.split
  refine ⟨m, a, F, fun q hq => N q ?_, ?_, l1, r1⟩
  · rcases List.mem_append.mp hq with hq | hq
    · exact List.mem_append_left _ hq
    · exact List.mem_append_right _ (List.mem_append_left _ hq)
  · rw [← List.append_assoc, List.map_append] at nd
    exact (List.nodup_append.mp nd).1

theorem Inv.new {q : Addr} {o : Obj} {mo : MO} {m : Str → Option Value} {led : CLed} (F : Fr c.h₀ c.env.locals h' m) (N : News c.h₀ c.env.locals h' ((q, o) :: (R ++ led))) (nd : ((R ++ led).map (·.1)).Nodup) (hq : ∀ p ∈ R ++ led, p.1 < q)
    (l1 : LocR lm m) (l2 : LedR c.prog c.w M led) (hr : RO c.prog c.w mo o) : Inv c R h' lm ((q, mo) :: M) := by
  have p : ((q, o) :: (R ++ led)).Perm (R ++ (q, o) :: led) := List.perm_middle.symm
  refine ⟨m, (q, o) :: led, F, fun x hx => N x (p.mem_iff.mpr hx), (p.map _).nodup_iff.mp ?_, l1, ⟨⟨rfl, hr⟩, l2⟩⟩
  rw [List.map_cons]
  refine List.nodup_cons.mpr ⟨fun hm => ?_, nd⟩
  obtain ⟨x, hx, e⟩ := List.mem_map.mp hm
  exact absurd (hq x hx) (by rw [e]; exact Nat.lt_irrefl _)

theorem Inv.push {o : Obj} {mo : MO} (I : Inv c R h lm M) (hr : RO c.prog c.w mo o) (hf : o.isFreed = false) : Inv c R (h.push o) lm ((h.objs.size, mo) :: M) := by
  obtain ⟨m, led, F, N, nd, l1, l2⟩ := I
  exact Inv.new (F.push o) (N.push F o hf) nd (fun p hp => Heap.lt_size (N p hp).1) l1 l2 hr

theorem upd_nodup {d : Addr} {o o' : Obj} : ∀ {a b : CLed}, ((a ++ (d, o) :: b).map (·.1)).Nodup → Upd d o o' (a ++ (d, o) :: b) (a ++ (d, o') :: b)
  | [], b, nd => .head fun p hp e => by
    rw [List.nil_append, List.map_cons] at nd
    exact (List.nodup_cons.mp nd).1 (List.mem_map.mpr ⟨p, hp, e⟩)
  | x :: a, b, nd => by
    rw [List.cons_append, List.map_cons] at nd
    have q := List.nodup_cons.mp nd
    exact .tail (fun e => q.1 (List.mem_map.mpr ⟨(d, o), List.mem_append_right _ (.head _), e.symm⟩)) (upd_nodup q.2)

/-- one object of the ledger turned -/
inductive Up (d : Addr) (o o' : MO) : Led → Led → Prop
  | head {r : Led} : Up d o o' ((d, o) :: r) ((d, o') :: r)
  | tail {p : Addr × MO} {r r' : Led} : Up d o o' r r' → Up d o o' (p :: r) (p :: r')
theorem Up.split {d : Addr} {o o' : MO} : ∀ {l l' : Led}, Up d o o' l l' → ∃ a b, l = a ++ (d, o) :: b ∧ l' = a ++ (d, o') :: b
  | _, _, .head => ⟨[], _, rfl, rfl⟩
  | _, _, .tail (p := p) h => by obtain ⟨a, b, rfl, rfl⟩ := h.split; exact ⟨p :: a, b, rfl, rfl⟩
theorem Up.app {d : Addr} {o o' : MO} {a b : Led} : Up d o o' (a ++ (d, o) :: b) (a ++ (d, o') :: b) := by
  induction a with
  | nil => exact .head
  | cons x a ih => exact .tail ih
theorem Up.right {d : Addr} {o o' : MO} {r r' : Led} (a : Led) (h : Up d o o' r r') : Up d o o' (a ++ r) (a ++ r') := by
  induction a with
  | nil => exact h
  | cons x a ih => exact .tail ih
theorem Up.left {d : Addr} {o o' : MO} {r r' : Led} (b : Led) (h : Up d o o' r r') : Up d o o' (r ++ b) (r' ++ b) := by
  induction h with
  | head => exact .head
  | tail _ ih => exact .tail ih
theorem Up.mem {d : Addr} {o o' : MO} {l l' : Led} (h : Up d o o' l l') : (d, o) ∈ l := by
  obtain ⟨a, b, rfl, _⟩ := h.split; exact List.mem_append_right _ (.head _)

/-- what a turn of one object asks of a kit rule, and gives back -/
theorem Inv.up {d : Addr} {mo mo' : MO} (I : Inv c R h lm M) (U : Up d mo mo' M M') :
    ∃ m a b o, Fr c.h₀ c.env.locals h m ∧ News c.h₀ c.env.locals h (a ++ (d, o) :: b) ∧ ((a ++ (d, o) :: b).map (·.1)).Nodup ∧ LocR lm m ∧ RO c.prog c.w mo o ∧
      ∀ h' o', Fr c.h₀ c.env.locals h' m → News c.h₀ c.env.locals h' (a ++ (d, o') :: b) → RO c.prog c.w mo' o' → Inv c R h' lm M' := by
  obtain ⟨m, led, F, N, nd, l1, l2⟩ := I
  obtain ⟨A, B, rfl, rfl⟩ := U.split
  obtain ⟨la, lb, rfl, r1, r2⟩ := l2.split
  cases lb with
  | nil => exact r2.elim
  | cons x lb =>
    obtain ⟨x1, o⟩ := x
    have e : d = x1 := r2.1.1
    subst e
    refine ⟨m, R ++ la, lb, o, F, by rw [List.append_assoc]; exact N, by rw [List.append_assoc]; exact nd, l1, r2.1.2, fun h' o' F' N' hr => ⟨m, la ++ (d, o') :: lb, F', by rw [← List.append_assoc]; exact N', ?_, l1, r1.append ⟨⟨rfl, hr⟩, r2.2⟩⟩⟩
    simpa using nd

noncomputable def setL (x : Str) (a : MV) : Loc → Loc
  | [] => [(x, a)]
  | p :: r => if x == p.1 then (x, a) :: r else p :: setL x a r
theorem setL_lookup (x : Str) (a : MV) (y : Str) : ∀ lm : Loc, (setL x a lm).lookup y = if y = x then some a else lm.lookup y
  | [] => by
    unfold setL
    by_cases e : y = x
    · subst e; simp [List.lookup]
    · have : (y == x) = false := beq_eq_false_iff_ne.mpr e
      simp [List.lookup, this, e]
  | p :: r => by
    obtain ⟨p1, p2⟩ := p
    unfold setL
    by_cases e : x = p1
    · subst e
      rw [if_pos (by simp)]
      by_cases e : y = x
      · subst e; simp [List.lookup]
      · have : (y == x) = false := beq_eq_false_iff_ne.mpr e
        simp [List.lookup, this, e]
    · have hb : (x == p1) = false := beq_eq_false_iff_ne.mpr e
      simp only [hb, Bool.false_eq_true, if_false, List.lookup]
      by_cases e' : y = p1
      · subst e'; have : ¬ y = x := fun q => e q.symm; simp [this]
      · have hb' : (y == p1) = false := beq_eq_false_iff_ne.mpr e'
        simp only [hb']
        exact setL_lookup x a y r
theorem LocR.set {m : Str → Option Value} {x : Str} {a : MV} {v : Value} (l : LocR lm m) (ha : RV a v) : LocR (setL x a lm) (fun y => if y = x then some v else m y) := by
  intro y b e
  rw [setL_lookup] at e
  by_cases q : y = x
  · rw [if_pos q] at e; cases e; exact ⟨v, by simp [q], ha⟩
  · rw [if_neg q] at e; obtain ⟨u, hu, hr⟩ := l y b e; exact ⟨u, by simp [q, hu], hr⟩
end

end Mine
end

section
open PySem PySem.W PySem.Calls PyProof.Rows
set_option Elab.async false
set_option maxRecDepth 100000
set_option linter.unusedVariables false
namespace Mine
section
variable {c : Cx} {lm : Loc} {M : Led} {k : MV → Led → Prop}

theorem Inv.fr {R : CLed} {h : Heap} (I : Inv c R h lm M) : ∃ m, Fr c.h₀ c.env.locals h m := let ⟨m, _, F, _⟩ := I; ⟨m, F⟩
theorem Inv.kIn {R : CLed} {h : Heap} (ok : c.Ok) (I : Inv c R h lm M) : c.K.In h := by
  obtain ⟨m, F⟩ := I.fr; exact fun a o e => F.keep a o (ok.g.1 a o e)

theorem ev_local (ok : c.Ok) {x : Str} {pos : Pos} {a : MV} (hx : c.env.scope.names.lookup x = some .local) (hd : (x == ("__debug__" : Str)) = false) (hl : lm.lookup x = some a) (h : k a M) : Tv c (eval (.Name x pos) c.env) lm M k := by
  rintro R s ⟨m, led, F, N, nd, l1, l2⟩
  obtain ⟨v, hv, hr⟩ := l1 x a hl
  exact wpAny_Name (wpAny_loadName_local ok.k hx F.ns hv ⟨a, M, hr, ⟨m, led, F, N, nd, l1, l2⟩, .refl _, h⟩) hd

theorem ev_cell (ok : c.Ok) {x : Str} {pos : Pos} {a : MV} {ca : Addr} (hx : c.env.scope.names.lookup x = some .cell) (hd : (x == ("__debug__" : Str)) = false) (hc : c.env.cells.lookup x = some ca) (hm : (ca, MO.cell (some a)) ∈ M) (h : k a M) : Tv c (eval (.Name x pos) c.env) lm M k := by
  intro R s I
  obtain ⟨o, ho, v', hd', hr⟩ := I.mem hm
  cases v' with
  | none => exact hr.elim
  | some v => exact wpAny_Name (wpAny_loadName_cell ok.k hx hc ⟨o, ho, hd'⟩ ⟨a, M, hr, I, .refl _, h⟩) hd
theorem ev_free (ok : c.Ok) {x : Str} {pos : Pos} {a : MV} {ca : Addr} (hx : c.env.scope.names.lookup x = some .free) (hd : (x == ("__debug__" : Str)) = false) (hn : (x == ("__classdict__" : Str)) = false) (hc : c.env.cells.lookup x = some ca) (hm : (ca, MO.cell (some a)) ∈ M) (h : k a M) : Tv c (eval (.Name x pos) c.env) lm M k := by
  intro R s I
  obtain ⟨o, ho, v', hd', hr⟩ := I.mem hm
  cases v' with
  | none => exact hr.elim
  | some v => exact wpAny_Name (wpAny_loadName_free ok.k hx hc ⟨o, ho, hd'⟩ ⟨a, M, hr, I, .refl _, h⟩ hn) hd

theorem ev_glob (ok : c.Ok) {x : Str} {pos : Pos} {a : MV} {v : Value} (hx : c.env.scope.names.lookup x = some .globalImplicit) (hd : (x == ("__debug__" : Str)) = false) (e : nsIn c.K mainGlobals x = some (some v)) (hr : RV a v) (h : k a M) : Tv c (eval (.Name x pos) c.env) lm M k := by
  intro R s I
  obtain ⟨m, F⟩ := I.fr
  obtain ⟨X, p, loose, mg, mb, T⟩ := ok.g
  exact Name_function_global ok.k hx (loadGlobal_global (by rw [ok.gl]; exact T.g.keeps F.keep) (mg_of X T.g e) ⟨a, M, hr, I, .refl _, h⟩) hd
theorem ev_boot (ok : c.Ok) {x : Str} {pos : Pos} {a : MV} {v : Value} (hx : c.env.scope.names.lookup x = some .globalImplicit) (hd : (x == ("__debug__" : Str)) = false) (e : nsIn c.K mainGlobals x = some none) (hv : bootBuiltins x = some v) (hn : x ≠ "__name__") (hr : RV a v) (h : k a M) : Tv c (eval (.Name x pos) c.env) lm M k := by
  intro R s I
  obtain ⟨m, F⟩ := I.fr
  obtain ⟨X, p, loose, mg, mb, T⟩ := ok.g
  exact Name_function_global ok.k hx (loadGlobal_builtin (by rw [ok.gl]; exact T.g.keeps F.keep) (mg_none_of X T.g e) (by rw [ok.bl]; exact T.b.keeps F.keep) ((T.builtins x hn).trans hv) ⟨a, M, hr, I, .refl _, h⟩) hd

theorem ev_int {i : Int} {kd : Nat} {pos : Pos} (h : k (.int i) M) : Tv c (eval (.Constant (.int i) kd pos) c.env) lm M k :=
  fun _ _ I => wpAny_Constant_int ⟨_, M, .int i _, I, .of, h⟩
theorem ev_none {kd : Nat} {pos : Pos} (h : k .none M) : Tv c (eval (.Constant .none kd pos) c.env) lm M k :=
  fun _ _ I => wpAny_Constant_none ⟨_, M, .none, I, .refl _, h⟩
theorem ev_bool {b : Bool} {kd : Nat} {pos : Pos} (h : k (.bool b) M) : Tv c (eval (.Constant (.bool b) kd pos) c.env) lm M k :=
  fun _ _ I => wpAny_Constant_bool ⟨_, M, .bool b, I, .refl _, h⟩
theorem ev_str {x : Str} {kd : Nat} {pos : Pos} (h : k (.str x) M) : Tv c (eval (.Constant (.str x) kd pos) c.env) lm M k :=
  fun _ _ I => wpAny_Constant_str ⟨_, M, .str x _, I, .of, h⟩

/-- a tree upon values: what it leaves is told of the values without tokens -/
noncomputable def T1 (c : Cx) (t : Value → Sem Value) (a : MV) (lm : Loc) (M : Led) (k : MV → Led → Prop) : Prop := ∀ v, RV a v → Tv c (t v) lm M k
noncomputable def T2 (c : Cx) (t : Value → Value → Sem Value) (a b : MV) (lm : Loc) (M : Led) (k : MV → Led → Prop) : Prop := ∀ u v, RV a u → RV b v → Tv c (t u v) lm M k

theorem ev_binop {l r : Expr} {op : Operator} {pos : Pos} (h : Tv c (eval l c.env) lm M fun a M₁ => Tv c (eval r c.env) lm M₁ fun b M₂ => T2 c (binaryOp op) a b lm M₂ k) : Tv c (eval (.BinOp l op r pos) c.env) lm M k :=
  fun _ _ I => wpAny_BinOp (h.use I fun a v M₁ s₁ ha I₁ e₁ h₁ => h₁.use I₁ fun b u M₂ s₂ hb I₂ e₂ h₂ => (h₂ v u ha hb).use I₂ fun d z M₃ s₃ hd I₃ e₃ h₃ => ⟨d, M₃, hd, I₃, (e₁.trans e₂).trans e₃, h₃⟩)
theorem ev_compare1 {l r : Expr} {op : CmpOp} {pos : Pos} (h : Tv c (eval l c.env) lm M fun a M₁ => Tv c (eval r c.env) lm M₁ fun b M₂ => T2 c (compareOp op) a b lm M₂ k) (hm : behindInMarks op r = false) : Tv c (eval (.Compare l [op] [r] pos) c.env) lm M k :=
  fun _ _ I => wpAny_Compare1 (h.use I fun a v M₁ s₁ ha I₁ e₁ h₁ => h₁.use I₁ fun b u M₂ s₂ hb I₂ e₂ h₂ => (h₂ v u ha hb).use I₂ fun d z M₃ s₃ hd I₃ e₃ h₃ => ⟨d, M₃, hd, I₃, (e₁.trans e₂).trans e₃, h₃⟩) hm
theorem ev_unary {x : Expr} {op : UnaryOp} {pos : Pos} (h : Tv c (eval x c.env) lm M fun a M₁ => T1 c (unaryOp op) a lm M₁ k) : Tv c (eval (.UnaryOp op x pos) c.env) lm M k :=
  fun _ _ I => wpAny_UnaryOp (h.use I fun a v M₁ s₁ ha I₁ e₁ h₁ => (h₁ v ha).use I₁ fun d z M₃ s₃ hd I₃ e₃ h₃ => ⟨d, M₃, hd, I₃, e₁.trans e₃, h₃⟩)

theorem bin_add {i j : Int} (h : k (.int (i + j)) M) : T2 c (binaryOp .Add) (.int i) (.int j) lm M k := by
  rintro _ _ ⟨⟩ ⟨⟩ R s I; exact PySem.P.add_int ⟨_, M, .int _ _, I, .of, h⟩
theorem bin_sub {i j : Int} (h : k (.int (i - j)) M) : T2 c (binaryOp .Sub) (.int i) (.int j) lm M k := by
  rintro _ _ ⟨⟩ ⟨⟩ R s I; exact PySem.P.sub_int ⟨_, M, .int _ _, I, .of, h⟩
theorem bin_mod {i j : Int} (hj : 0 < j) (h : k (.int (i % j)) M) : T2 c (binaryOp .Mod) (.int i) (.int j) lm M k := by
  rintro _ _ ⟨⟩ ⟨⟩ R s I
  refine PyProof.Rows.mod_int' (by lia) ?_
  rw [Int.fmod_eq_emod_of_nonneg i (by lia : (0 : Int) ≤ j)]
  exact ⟨_, M, .int _ _, I, .of, h⟩
theorem cmp_lt {i j : Int} (h : k (.bool (decide (i < j))) M) : T2 c (compareOp .Lt) (.int i) (.int j) lm M k := by
  rintro _ _ ⟨⟩ ⟨⟩ R s I; exact PySem.P.lt_int ⟨_, M, .bool _, I, .refl _, h⟩
theorem cmp_le {i j : Int} (h : k (.bool (decide (i ≤ j))) M) : T2 c (compareOp .LtE) (.int i) (.int j) lm M k := by
  rintro _ _ ⟨⟩ ⟨⟩ R s I; exact PySem.P.le_int ⟨_, M, .bool _, I, .refl _, h⟩
theorem cmp_gt {i j : Int} (h : k (.bool (decide (j < i))) M) : T2 c (compareOp .Gt) (.int i) (.int j) lm M k := by
  rintro _ _ ⟨⟩ ⟨⟩ R s I; exact PySem.P.gt_int ⟨_, M, .bool _, I, .refl _, h⟩
theorem cmp_ge {i j : Int} (h : k (.bool (decide (j ≤ i))) M) : T2 c (compareOp .GtE) (.int i) (.int j) lm M k := by
  rintro _ _ ⟨⟩ ⟨⟩ R s I; exact PySem.P.ge_int ⟨_, M, .bool _, I, .refl _, h⟩
theorem cmp_eq {i j : Int} (h : k (.bool (decide (i = j))) M) : T2 c (compareOp .Eq) (.int i) (.int j) lm M k := by
  rintro _ _ ⟨⟩ ⟨⟩ R s I; exact PySem.P.eq_int ⟨.bool _, M, .bool _, I, .refl _, h⟩
theorem cmp_ne {i j : Int} (h : k (.bool (!decide (i = j))) M) : T2 c (compareOp .NotEq) (.int i) (.int j) lm M k := by
  rintro _ _ ⟨⟩ ⟨⟩ R s I; exact PySem.P.ne_int ⟨.bool _, M, .bool _, I, .refl _, h⟩
noncomputable def MV.isNone : MV → Bool
  | .none => true
  | _ => false
theorem RV.isNone {a : MV} {v : Value} (h : RV a v) : (v == Value.none) = a.isNone := by cases h <;> rfl
theorem cmp_is_none {a : MV} (h : k (.bool a.isNone) M) : T2 c (compareOp .Is) a .none lm M k := by
  rintro u _ ha ⟨⟩ R s I; exact is_none ⟨.bool _, M, .bool _, I, .refl _, by rw [ha.isNone]; exact h⟩
theorem cmp_isnot_none {a : MV} (h : k (.bool (!a.isNone)) M) : T2 c (compareOp .IsNot) a .none lm M k := by
  rintro u _ ha ⟨⟩ R s I; exact isNot_none ⟨.bool _, M, .bool _, I, .refl _, by rw [ha.isNone]; exact h⟩
theorem un_neg {i : Int} (h : k (.int (-i)) M) : T1 c (unaryOp .USub) (.int i) lm M k := by
  rintro _ ⟨⟩ R s I; exact PySem.P.neg_int ⟨_, M, .int _ _, I, .of, h⟩
end
end Mine
end

section
open PySem PySem.W PySem.Calls PyProof.Rows
set_option Elab.async false
set_option maxRecDepth 100000
set_option linter.unusedVariables false
namespace Mine

noncomputable def ilst (ns : List Int) : List MV := ns.map .int
theorem ints_are : ∀ {ns : List Int} {vs : List Value}, RVs (ilst ns) vs → IntsAre vs ns
  | [], [], _ => .nil
  | n :: ns, v :: vs, h => by
    have h1 : RV (.int n) v := h.1
    cases h1
    exact .cons _ _ (ints_are (show RVs (ilst ns) vs from h.2))
  | [], _ :: _, h => h.elim
  | _ :: _, [], h => h.elim
theorem of_ints_are {ns : List Int} {vs : List Value} (h : IntsAre vs ns) : RVs (ilst ns) vs := by
  induction h with
  | nil => trivial
  | cons n t _ ih => exact ⟨.int _ _, ih⟩

section
variable {c : Cx} {lm : Loc} {M : Led} {k : MV → Led → Prop}

theorem Inv.lst {R : CLed} {h : Heap} {l : Addr} {xs : List MV} (I : Inv c R h lm M) (hm : (l, MO.lst xs) ∈ M) : ∃ vs n, h.get? l = some (listOf vs.toArray n) ∧ h.IsList l vs.toArray ∧ RVs xs vs ∧ xs.length ≤ sizeLine ∧ vs.length = xs.length := by
  obtain ⟨o, ho, vs, n, rfl, hr, hz⟩ := I.mem hm
  exact ⟨vs, n, ho, ⟨_, ho, rfl, n, rfl⟩, hr, hz, hr.length⟩
theorem Inv.tup {R : CLed} {h : Heap} {l : Addr} {xs : List MV} (I : Inv c R h lm M) (hm : (l, MO.tup xs) ∈ M) : ∃ vs n, h.get? l = some { cls := .type "tuple", data := .seq vs.toArray n } ∧ IsTup h l vs.toArray ∧ RVs xs vs := by
  obtain ⟨o, ho, vs, n, rfl, hr⟩ := I.mem hm
  exact ⟨vs, n, ho, ⟨_, ho, rfl, n, rfl⟩, hr⟩

theorem RO.lst {p : Program} {w : World} {xs : List MV} {vs : List Value} {n : Nat} (hr : RVs xs vs) (hz : xs.length ≤ sizeLine) : RO p w (.lst xs) (listOf vs.toArray n) := ⟨vs, n, rfl, hr, hz⟩
theorem Inv.newLst {R : CLed} {h' : Heap} {q : Addr} {vs : List Value} {n : Nat} {xs : List MV} {m : Str → Option Value} {led : CLed} (F : Fr c.h₀ c.env.locals h' m) (N : News c.h₀ c.env.locals h' ((q, listOf vs.toArray n) :: (R ++ led))) (nd : ((R ++ led).map (·.1)).Nodup) (hq : ∀ p ∈ R ++ led, p.1 < q)
    (l1 : LocR lm m) (l2 : LedR c.prog c.w M led) (hr : RVs xs vs) (hz : xs.length ≤ sizeLine) : Inv c R h' lm ((q, .lst xs) :: M) := Inv.new F N nd hq l1 l2 (RO.lst hr hz)

theorem bin_add_lst {a b : Addr} {xs ys : List MV} (ha : (a, MO.lst xs) ∈ M) (hb : (b, MO.lst ys) ∈ M) (hz : xs.length + ys.length ≤ sizeLine) (h : ∀ q, k (.ref q) ((q, .lst (xs ++ ys)) :: M)) : T2 c (binaryOp .Add) (.ref a) (.ref b) lm M k := by
  rintro _ _ ⟨⟩ ⟨⟩ R s I
  obtain ⟨vs, n, _, hl, hr, _, hn⟩ := I.lst ha
  obtain ⟨ws, n', _, hl', hr', _, hn'⟩ := I.lst hb
  obtain ⟨m, led, F, N, nd, l1, l2⟩ := I
  refine add_arrays (hsz := by simp [hn, hn', hz]) F N hl hl' fun h' F' N' => ⟨_, _, .ref _, Inv.newLst F' N' nd (fun p hp => Heap.lt_size (N p hp).1) l1 l2 (hr.append hr') (by simpa using hz), .of, h _⟩

theorem bin_mul_lst {a : Addr} {xs : List MV} {x : Int} (ha : (a, MO.lst xs) ∈ M) (hx : -1000 ≤ x ∧ x < 1000) (hz : xs.length * x.toNat ≤ 256) (h : ∀ q, k (.ref q) ((q, .lst (List.replicate x.toNat xs).flatten) :: M)) : T2 c (binaryOp .Mult) (.ref a) (.int x) lm M k := by
  rintro _ _ ⟨⟩ ⟨⟩ R s I
  obtain ⟨vs, n, _, hl, hr, _, hn⟩ := I.lst ha
  obtain ⟨m, led, F, N, nd, l1, l2⟩ := I
  refine KMa.mul F N hl (by lia) (by lia) (by rw [hn]; exact hz) rfl fun D h' F' N' hq => ⟨_, _, .ref _, Inv.newLst F' N' nd hq l1 l2 (hr.flatten_replicate _) ?_, .of, h _⟩
  have e := (hr.flatten_replicate x.toNat).length
  have e2 : (List.replicate x.toNat xs).flatten.length = x.toNat * xs.length := by simp
  rw [e2, Nat.mul_comm, sizeLine_eq]; lia

theorem call_len {a : Addr} {xs : List MV} (ha : (a, MO.lst xs) ∈ M) (h : k (.int xs.length) M) : Tv c (call (.builtin "len") [.ref a]) lm M k := by
  intro R s I
  obtain ⟨vs, n, _, hl, hr, hz, hn⟩ := I.lst ha
  have e : vs.toArray.size = xs.length := by simp [hn]
  refine len_list hl ?_ ⟨_, M, .int _ _, I, .of, by rw [e]; exact h⟩
  rw [e]; rw [sizeLine_eq] at hz; lia

/-- an item of a list, the place from the front or from the end -/
noncomputable def itemAt (xs : List MV) (i : Int) : Option MV := if 0 ≤ i then xs[i.toNat]? else if 0 ≤ i + xs.length then xs[(i + xs.length).toNat]? else none

theorem sub_lst {value slice : Expr} {a : Addr} {xs : List MV} {i : Int} {x : MV} (ha : (a, MO.lst xs) ∈ M) (hx : itemAt xs i = some x) (h : k x M)
    (hs : ∀ t, subscripted slice false (.ref a) (.int i t) = operate [.ref a, .int i t] (getItem (.ref a) (.int i t))) : T2 c (subscriptTail value slice) (.ref a) (.int i) lm M k := by
  rintro _ v2 ⟨⟩ hv2 R s I
  obtain ⟨t, rfl⟩ : ∃ t, v2 = .int i t := by cases hv2; exact ⟨_, rfl⟩
  obtain ⟨vs, n, _, hl, hr, hz, hn⟩ := I.lst ha
  have hz' := hz; rw [sizeLine_eq] at hz'
  unfold itemAt at hx
  by_cases h0 : 0 ≤ i
  · rw [if_pos h0] at hx
    obtain ⟨v, hv, hrv⟩ := hr.get' hx
    have hlt := (List.getElem?_eq_some_iff.mp hx).1
    refine tail_any hl.typeIs slot_list_getitem.lookup (wpAny_getItem_list hl h0 (by lia) (by simpa using hv) ⟨_, M, hrv, I, .refl _, h⟩) (hs t)
  · rw [if_neg h0] at hx
    by_cases h1 : 0 ≤ i + xs.length
    · rw [if_pos h1] at hx
      obtain ⟨v, hv, hrv⟩ := hr.get' hx
      refine tail_any hl.typeIs slot_list_getitem.lookup (wpAny_getItem_list_neg hl (by lia) (by simp [hn]; lia) (by lia) (by simpa [hn] using hv) ⟨_, M, hrv, I, .refl _, h⟩) (hs t)
    · rw [if_neg h1] at hx; cases hx

/-- the parts of a slice -/
noncomputable def partOf : MV → Option (Option Int)
  | .none => some .none
  | .int i => some (some i)
  | _ => .none
theorem isPart {a : MV} {v : Value} {p : Option Int} (h : RV a v) (e : partOf a = some p) : IsPart v p := by
  cases h <;> cases e
  · exact .none
  · exact .int _ _
noncomputable def cut (xs : List MV) (lo hi : Option Int) : List MV := (xs.drop (kms_lo lo xs.length)).take (kms_hi hi xs.length - kms_lo lo xs.length)

theorem ev_slice {value : Expr} {lo hi : Option Expr} {p pos : Pos}
    (h : Tv c (eval value c.env) lm M fun o M₁ => Tv c (evalPart lo c.env) lm M₁ fun a M₂ => Tv c (evalPart hi c.env) lm M₂ fun b M₃ =>
      ∃ l xs pa pb, o = .ref l ∧ (l, MO.lst xs) ∈ M₃ ∧ partOf a = some pa ∧ partOf b = some pb ∧ ∀ q, k (.ref q) ((q, .lst (cut xs pa pb)) :: M₃)) :
    Tv c (eval (.Subscript value (.Slice lo hi none p) pos) c.env) lm M k := by
  intro R s I
  refine Subscript_ (h.use I fun o v M₁ s₁ ho I₁ e₁ h₁ => wpAny_Slice (h₁.use I₁ fun a va M₂ s₂ ha I₂ e₂ h₂ => h₂.use I₂ fun b vb M₃ s₃ hb I₃ e₃ h₃ => evalPart_none_step ?_))
  obtain ⟨l, xs, pa, pb, rfl, hm, ea, eb, hk⟩ := h₃
  cases ho
  refine kba_turn (value' := Expr.Name (Str.ofString "x") ⟨0, 0, 0, 0⟩) (fun _ => rfl) ?_
  obtain ⟨vs, n, _, hl, hr, hz, hn⟩ := I₃.lst hm
  obtain ⟨m, led, F, N, nd, l1, l2⟩ := I₃
  refine kms_slice_lit F N hl (isPart ha ea) (isPart hb eb) rfl (fun D h' F' N' hq => ⟨_, _, .ref _, Inv.newLst F' N' nd hq l1 l2 ?_ ?_, (e₁.trans e₂).trans (e₃.trans .of), hk _⟩) rfl (fun _ => rfl) (by simpa [hn] using hz)
  · unfold kms_pick cut
    rw [show (vs.toArray.toList) = vs from rfl, hn]
    exact (hr.drop _).take _
  · unfold cut
    rw [List.length_take, List.length_drop]; lia

theorem ev_reversed {value : Expr} {sp mp p pos : Pos} {kd : Nat}
    (h : Tv c (eval value c.env) lm M fun o M₁ => ∃ l xs, o = .ref l ∧ (l, MO.lst xs) ∈ M₁ ∧ ∀ q, k (.ref q) ((q, .lst xs.reverse) :: M₁)) :
    Tv c (eval (.Subscript value (.Slice none none (some (.UnaryOp .USub (.Constant (.int 1) kd mp) sp)) p) pos) c.env) lm M k := by
  intro R s I
  refine Subscript_ (h.use I fun o v M₁ s₁ ho I₁ e₁ h₁ => wpAny_Slice (evalPart_none_step (evalPart_none_step (evalPart_some_step (wpAny_UnaryOp (wpAny_Constant_int (PySem.P.neg_int ?_)))))))
  obtain ⟨l, xs, rfl, hm, hk⟩ := h₁
  cases ho
  refine kba_turn (value' := Expr.Name (Str.ofString "x") ⟨0, 0, 0, 0⟩) (fun _ => rfl) ?_
  obtain ⟨vs, n, _, hl, hr, hz, hn⟩ := I₁.lst hm
  obtain ⟨m, led, F, N, nd, l1, l2⟩ := I₁
  refine krv_lit (s := { s₁ with toks := s₁.toks + 1 + 1 }) (ops := _) F N hl (.int (-1) _) rfl (fun D h' F' N' hq => ⟨_, _, .ref _, Inv.newLst F' N' nd hq l1 l2 ?_ ?_, e₁.trans .of, hk _⟩) rfl (fun _ => rfl) (by simpa [hn] using hz)
  · exact hr.reverse
  · simpa using hz

theorem part_none (h : k .none M) : Tv c (evalPart none c.env) lm M k := fun R s I => evalPart_none_step ⟨_, M, .none, I, .refl _, h⟩
theorem part_some {e : Expr} (h : Tv c (eval e c.env) lm M k) : Tv c (evalPart (some e) c.env) lm M k := fun R s I => evalPart_some_step (h R s I)

theorem units_room (ok : c.Ok) : c.A.units + 64 < cLine := by have := ok.r.2.2; lia
theorem cmp_eq_ints (ok : c.Ok) {a b : Addr} {ns ms : List Int} (ha : (a, MO.lst (ilst ns)) ∈ M) (hb : (b, MO.lst (ilst ms)) ∈ M) (h : k (.bool (decide (ns = ms))) M) : T2 c (compareOp .Eq) (.ref a) (.ref b) lm M k := by
  rintro _ _ ⟨⟩ ⟨⟩ R s I
  obtain ⟨vs, n, _, hl, hr, _, _⟩ := I.lst ha
  obtain ⟨ws, n', _, hl', hr', _, _⟩ := I.lst hb
  exact eq_intsK hl (ints_are hr) hl' (ints_are hr') (units_room ok) ⟨_, M, .bool _, I, .refl _, h⟩
theorem cmp_ne_ints (ok : c.Ok) {a b : Addr} {ns ms : List Int} (ha : (a, MO.lst (ilst ns)) ∈ M) (hb : (b, MO.lst (ilst ms)) ∈ M) (h : k (.bool (!decide (ns = ms))) M) : T2 c (compareOp .NotEq) (.ref a) (.ref b) lm M k := by
  rintro _ _ ⟨⟩ ⟨⟩ R s I
  obtain ⟨vs, n, _, hl, hr, _, _⟩ := I.lst ha
  obtain ⟨ws, n', _, hl', hr', _, _⟩ := I.lst hb
  exact ne_intsK hl (ints_are hr) hl' (ints_are hr') (units_room ok) ⟨_, M, .bool _, I, .refl _, h⟩

end
end Mine
end

section
open PySem PySem.W PySem.Calls PyProof.Rows
set_option Elab.async false
set_option maxRecDepth 100000
set_option linter.unusedVariables false
namespace Mine

/-- less of a ledger, in any order -/
noncomputable def Less (M M₀ : Led) : Prop := ∃ X, M.Perm (M₀ ++ X)
theorem Less.refl (M : Led) : Less M M := ⟨[], by simp⟩
theorem Less.skip {x : Addr × MO} {M M₀ : Led} (h : Less M M₀) : Less (x :: M) M₀ := by
  obtain ⟨X, p⟩ := h
  exact ⟨x :: X, (p.cons x).trans List.perm_middle.symm⟩
theorem Less.cons {x : Addr × MO} {M M₀ : Led} (h : Less M M₀) : Less (x :: M) (x :: M₀) := by
  obtain ⟨X, p⟩ := h
  exact ⟨X, p.cons x⟩
theorem Less.trans {M M₁ M₂ : Led} (h : Less M M₁) (h' : Less M₁ M₂) : Less M M₂ := by
  obtain ⟨X, p⟩ := h
  obtain ⟨Y, q⟩ := h'
  exact ⟨Y ++ X, p.trans (by rw [← List.append_assoc]; exact q.append_right X)⟩
theorem Less.perm {M M' : Led} (p : M.Perm M') : Less M M' := ⟨[], by simpa using p⟩
theorem Less.app {A M M₀ : Led} (h : Less M M₀) : Less (A ++ M) (A ++ M₀) := by
  obtain ⟨X, p⟩ := h
  exact ⟨X, by rw [List.append_assoc]; exact p.append_left A⟩
theorem Less.drop {A M M₀ : Led} (h : Less M M₀) : Less (A ++ M) M₀ := by
  induction A with
  | nil => exact h
  | cons x A ih => exact ih.skip
theorem Less.nil (M : Led) : Less M [] := ⟨M, by simp⟩
theorem Inv.less {c : Cx} {R : CLed} {h : Heap} {lm : Loc} {M M₀ : Led} (I : Inv c R h lm M) (l : Less M M₀) : Inv c R h lm M₀ := by
  obtain ⟨X, p⟩ := l
  exact (I.perm p).drop

/-- the ends of a def's body: what is asked of what is left -/
noncomputable def PN (P : MV → Led → Prop) (_ : Loc) (M' : Led) : Prop := ∃ M₀, Less M' M₀ ∧ P .none M₀
noncomputable def PR (P : MV → Led → Prop) (a : MV) (M' : Led) : Prop := ∃ M₀, Less M' M₀ ∧ P a M₀
/-- a call of f upon the values as, from every state in which the ledger M stands: the contract -/
noncomputable def Does (prog : Program) (w : World) (K : Frag) (f : MV) (d : Nat) (as : List MV) (M : Led) (P : MV → Led → Prop) : Prop :=
  ∀ (A : Around) (h₀ : Heap) (s : Shared) (fv : Value) (args : List Value) (led : CLed),
    Room A d → Ground K h₀ → (∀ b o, h₀.get? b = some o → s.heap.get? b = some o) → h₀.objs.size ≤ s.heap.objs.size → RV f fv → RVs as args → LedR prog w M led → (∀ p ∈ led, s.heap.get? p.1 = some p.2 ∧ h₀.get? p.1 = none) → (led.map (·.1)).Nodup →
    codeAny (model prog w) A (.call fv ⟨args, []⟩) (fun r s' => ∃ v a M' led', r = .ok (.ret v) ∧ RV a v ∧ LedR prog w M' led' ∧ (∀ p ∈ led', s'.heap.get? p.1 = some p.2 ∧ (s.heap.get? p.1 = none ∨ p.1 ∈ led.map (·.1))) ∧ (led'.map (·.1)).Nodup ∧
      (∀ b o, s.heap.get? b = some o → b ∉ led.map (·.1) → s'.heap.get? b = some o) ∧ Same s s' ∧ P a M') s

theorem Does.mono {prog : Program} {w : World} {K : Frag} {f : MV} {d : Nat} {as : List MV} {M : Led} {P P' : MV → Led → Prop} (h : Does prog w K f d as M P) (hp : ∀ a M', P a M' → P' a M') : Does prog w K f d as M P' := by
  intro A h₀ s fv args led a1 a2 a3 a4 a5 a6 a7 a8 a9
  refine codeAny_mono (h A h₀ s fv args led a1 a2 a3 a4 a5 a6 a7 a8 a9) fun r s' z => ?_
  obtain ⟨v, a, M', led', e, b1, b2, b3, b4, b5, b6, b7⟩ := z
  exact ⟨v, a, M', led', e, b1, b2, b3, b4, b5, b6, hp _ _ b7⟩

/-- a call of a value upon values, within a block -/
noncomputable def TC (c : Cx) (f : MV) (as : List MV) (lm : Loc) (M : Led) (k : MV → Led → Prop) : Prop := ∀ fv vs, RV f fv → RVs as vs → Tv c (call fv vs) lm M k

section
variable {c : Cx} {lm : Loc} {M : Led} {k : MV → Led → Prop}

theorem tc_does (ok : c.Ok) {f : MV} {as : List MV} (h : Does c.prog c.w c.K f c.d as M k) : TC c f as lm M k := by
  intro fv vs hf hv R s I
  obtain ⟨m, led, F, N, nd, l1, l2⟩ := I
  have nd2 : (led.map (·.1)).Nodup := by rw [List.map_append] at nd; exact (List.nodup_append.mp nd).2.1
  have dis : ∀ p ∈ R, p.1 ∉ led.map (·.1) := fun p hp hq => by
    rw [List.map_append] at nd
    exact (List.nodup_append.mp nd).2.2 _ (List.mem_map_of_mem hp) _ hq rfl
  have hN : ∀ p ∈ led, s.heap.get? p.1 = some p.2 ∧ p.1 ≠ c.env.locals ∧ c.h₀.get? p.1 = none := fun p hp => N p (List.mem_append_right _ hp)
  have hsz : c.h₀.objs.size ≤ s.heap.objs.size := Nat.le_of_lt (Nat.lt_of_le_of_lt F.above F.ns.lt)
  refine wpAny_call (codeAny_mono (h c.A c.h₀ s fv vs led ok.r ok.g F.keep hsz hf hv l2 (fun p hp => ⟨(hN p hp).1, (hN p hp).2.2⟩) nd2) fun r s' z => ?_)
  obtain ⟨v, a, M', led', rfl, ha, l2', hl', nd', kept, same, hk⟩ := z
  have keepR : ∀ b o, s.heap.get? b = some o → (∀ p ∈ led, p.1 ≠ b) → s'.heap.get? b = some o := fun b o e hb => kept b o e fun hm => by
    obtain ⟨p, hp, e⟩ := List.mem_map.mp hm; exact hb p hp e
  have F' : Fr c.h₀ c.env.locals s'.heap m := by
    obtain ⟨oL, es, ep, hL, r⟩ := F.ns
    refine ⟨⟨oL, es, ep, keepR _ _ hL fun p hp => (hN p hp).2.1, r⟩, fun b o e => keepR b o (F.keep b o e) fun p hp q => ?_, F.above⟩
    have := (hN p hp).2.2; rw [q, e] at this; cases this
  refine ⟨a, M', ha, ⟨m, led', F', fun p hp => ?_, ?_, l1, l2'⟩, same, hk⟩
  · rcases List.mem_append.mp hp with hp | hp
    · have z := N p (List.mem_append_left _ hp)
      exact ⟨kept _ _ z.1 (dis p hp), z.2⟩
    · have z := hl' p hp
      refine ⟨z.1, ?_⟩
      rcases z.2 with e | e
      · refine ⟨fun q => ?_, ?_⟩
        · obtain ⟨oL, _, _, hL, _⟩ := F.ns
          rw [q, hL] at e; cases e
        · cases q : c.h₀.get? p.1 with
          | none => rfl
          | some o => rw [F.keep _ _ q] at e; cases e
      · obtain ⟨q, hq, e⟩ := List.mem_map.mp e
        rw [← e]; exact (hN q hq).2
  · rw [List.map_append]
    refine List.nodup_append.mpr ⟨?_, nd', ?_⟩
    · rw [List.map_append] at nd; exact (List.nodup_append.mp nd).1
    · intro x hx y hy e
      subst e
      obtain ⟨p, hp, rfl⟩ := List.mem_map.mp hx
      obtain ⟨q, hq, e⟩ := List.mem_map.mp hy
      rcases (hl' q hq).2 with z | z
      · have := (N p (List.mem_append_left _ hp)).1
        rw [← e] at this; rw [this] at z; cases z
      · exact dis p hp (e ▸ z)

/-- what may be called -/
noncomputable def Callable (K : Frag) : MV → Prop
  | .ref a => keepIn K (.ref a) = true
  | .bi _ | .ty _ => True
  | _ => False
theorem callable_looks {K : Frag} {f : MV} {fv : Value} (h : Callable K f) (hf : RV f fv) (Md : Model) (H : Heap) (X : K.In H) : ∃ k, (k = Keeper.frame ∨ k = Keeper.machine ∨ k = Keeper.boundFrame) ∧ Looks Md H (keeperOf fv) k := by
  cases hf with
  | ref a => exact keeps_K h H X
  | bi id => exact ⟨.machine, .inr (.inl rfl), Looks.of_pure rfl⟩
  | ty n => exact ⟨.machine, .inr (.inl rfl), Looks.of_pure rfl⟩
  | _ => exact h.elim

theorem args_nil {pos : Pos} {ks : List MV → Led → Prop} (h : ks [] M) : Tvs c (spliced (backTo pos (starEach [] c.env))) lm M ks := fun R s I => wpAny_items_nil ⟨[], M, trivial, I, .refl _, h⟩
theorem args_cons {pos : Pos} {e : Expr} {rest : List Expr} {ks : List MV → Led → Prop} (he : starEach (e :: rest) c.env = (false, eval e c.env) :: starEach rest c.env)
    (h : Tv c (eval e c.env) lm M fun a M₁ => Tvs c (spliced (backTo pos (starEach rest c.env))) lm M₁ fun as M₂ => ks (a :: as) M₂) : Tvs c (spliced (backTo pos (starEach (e :: rest) c.env))) lm M ks :=
  fun R s I => wpAny_items_cons (h.use I fun a v M₁ s₁ ha I₁ e₁ h₁ => h₁.use I₁ fun as vs M₂ s₂ hs I₂ e₂ h₂ => ⟨a :: as, M₂, ⟨ha, hs⟩, I₂, e₁.trans e₂, h₂⟩) he

theorem args_none {Md : Model} {A : Around} {E : Value → Shared → Prop} {s : Shared} {f : Value} {Q : Args → Shared → Prop} (h : wpAny Md A (spliced []) (fun vs s' => Q ⟨vs, []⟩ s') E s) : wpAny Md A (evalArgs f true [] []) Q E s := by
  unfold evalArgs
  show wpAny Md A (spliced [] >>= _) Q E s
  refine wpAny_bind (wpAny_mono h (fun vs s' h' => ?_) fun _ _ x => x)
  refine wpAny_bind (wpAny_pure (wpAny_holding ?_))
  exact wpAny_bind (wpAny_pure (wpAny_bind (wpAny_pure (wpAny_pure h'))))

theorem callWith_T (ok : c.Ok) {f : MV} {fv : Value} {first : List MV} {fvs : List Value} {pos pos' : Pos} {args : List Expr} (hf : RV f fv) (hc : Callable c.K f) (hfirst : RVs first fvs) (hp : (backTo pos' (starEach args c.env)).any (·.1) = false)
    (h : Tvs c (spliced (backTo pos' (starEach args c.env))) lm M fun as M₁ => TC c f (first ++ as) lm M₁ k) : Tv c (callWith pos fv fvs (backTo pos' (starEach args c.env)) []) lm M k := by
  intro R s I
  refine callWith_of (P := fun H => c.K.In H) (by rw [hp]; rfl) (fun H X => callable_looks hc hf c.M H X) ?_
  have main : wpAny c.M c.A (spliced (backTo pos' (starEach args c.env))) (fun vs s₁ => c.K.In s₁.heap ∧ wpAny c.M c.A (call fv (fvs ++ vs) []) (PostV c R s lm k) NoE s₁) NoE s :=
    h.use I fun as vs M₁ s₁ hs I₁ e₁ h₁ => ⟨I₁.kIn ok, wpNo (h₁ fv (fvs ++ vs) hf (hfirst.append hs) R s₁ I₁) fun v s' p => p.from e₁⟩
  revert main hp
  generalize backTo pos' (starEach args c.env) = ts
  intro hp main
  match ts, hp with
  | [], _ => exact args_none main
  | (false, x) :: rest, _ => exact evalArgs_plain main
  | (true, x) :: rest, hp => simp at hp

theorem plain_args (pos : Pos) (env : Env) : ∀ {args : List Expr}, args.any isStarred = false → (backTo pos (starEach args env)).any (·.1) = false
  | [], _ => rfl
  | e :: rest, h => by
    simp only [List.any_cons, Bool.or_eq_false_iff] at h
    have ih := plain_args pos env h.2
    cases e <;> first | (simp only [starEach, backTo, List.map_cons, List.any_cons, Bool.false_or] at ih ⊢; exact ih) | (simp [isStarred] at h)
theorem star_plain {e : Expr} {rest : List Expr} {env : Env} (h : isStarred e = false) : starEach (e :: rest) env = (false, eval e env) :: starEach rest env := by
  cases e <;> first | rfl | (simp [isStarred] at h)

theorem ev_call (ok : c.Ok) {x : Str} {p pos : Pos} {args : List Expr} (hs : args.any isStarred = false)
    (h : Tv c (eval (.Name x p) c.env) lm M fun f M₁ => Callable c.K f ∧ Tvs c (spliced (backTo pos (starEach args c.env))) lm M₁ fun as M₂ => TC c f as lm M₂ k) : Tv c (eval (.Call (.Name x p) args [] pos) c.env) lm M k := by
  intro R s I
  show wpAny c.M c.A (eval (.Name x p) c.env >>= fun fv => callWith pos fv [] (backTo pos (starEach args c.env)) []) _ _ s
  refine wpAny_bind (h.use I fun f fv M₁ s₁ hf I₁ e₁ h₁ => ?_)
  exact wpNo (callWith_T ok hf h₁.1 (first := []) (fvs := []) trivial (plain_args pos c.env hs) h₁.2 R s₁ I₁) fun v s' p => p.from e₁

/-- the method of that name: a function or a built-in that takes the object first -/
noncomputable def Meth (c : Cx) (lm : Loc) (M : Led) (a : MV) (name : Str) (f : MV) : Prop :=
  ∀ R (s : Shared) (v : Value) (pl : Sem Bool) (Q : Value × List Value → Shared → Prop), RV a v → Inv c R s.heap lm M → (∀ fv, RV f fv → Q (fv, [v]) s) → wpAny c.M c.A (getMethod v name pl) Q NoE s

theorem ev_mcall (ok : c.Ok) {o : Expr} {name : Str} {apos pos : Pos} {args : List Expr} (hs : args.any isStarred = false)
    (he : eval (.Call (.Attribute o name apos) args [] pos) c.env = (do
      let ov ← eval o c.env
      standAt apos.atName
      let (f, first) ← holding [ov] (getMethod ov name (do return (← importBound o c.env).getD true))
      callWith pos f first (backTo pos (starEach args c.env)) []))
    (h : Tv c (eval o c.env) lm M fun a M₁ => ∃ f, Meth c lm M₁ a name f ∧ Callable c.K f ∧ Tvs c (spliced (backTo pos (starEach args c.env))) lm M₁ fun as M₂ => TC c f (a :: as) lm M₂ k) :
    Tv c (eval (.Call (.Attribute o name apos) args [] pos) c.env) lm M k := by
  intro R s I
  rw [he]
  refine wpAny_bind (h.use I fun a v M₁ s₁ ha I₁ e₁ h₁ => wpAny_bind (wpAny_standAt (wpAny_bind (wpAny_holding ?_))))
  obtain ⟨f, hm, hc, hT⟩ := h₁
  refine hm R s₁ v _ _ ha I₁ fun fv hf => ?_
  exact wpNo (callWith_T ok hf hc (first := [a]) (fvs := [v]) ⟨ha, trivial⟩ (plain_args pos c.env hs) hT R s₁ I₁) fun v s' p => p.from e₁

theorem meth_lst {a : Addr} {xs : List MV} {name : Str} {id : String} (hm : (a, MO.lst xs) ∈ M) (slot : Slot "list" name id) (hty : typeOf (.builtin id) = pure (.type "method_descriptor")) : Meth c lm M (.ref a) name (.bi id) := by
  intro R s v pl Q hv I hq
  cases hv
  obtain ⟨vs, n, ho, _⟩ := I.lst hm
  exact getMethod_builtin ⟨_, ho, rfl⟩ PySem.F.plainAttrs_list slot hty (fun b e => by cases e; exact ⟨_, ho, rfl⟩) (hq _ (.bi id))

theorem tc_append {a : Addr} {xs : List MV} {x : MV} {M' : Led} (U : Up a (.lst xs) (.lst (xs ++ [x])) M M') (hz : xs.length < sizeLine) (h : k .none M') : TC c (.bi "list.append") [.ref a, x] lm M k := by
  intro fv vs hf hv R s I
  cases hf
  obtain ⟨va, vx, rfl⟩ := len2 hv.length
  have ha := hv.1
  have hx := hv.2.1
  cases ha
  obtain ⟨m, la, lb, o, F, N, nd, l1, ⟨us, n, rfl, hr, hz'⟩, back⟩ := I.up U
  have hn := hr.length
  refine append_K F N (upd_nodup nd) (fun h' F' N' => ⟨.none, M', .none, back h' _ F' N' ⟨us ++ [vx], n + 1, by simp, hr.append ⟨hx, trivial⟩, by simp; lia⟩, .of, h⟩) (by simpa [hn] using hz')

theorem tc_pop0 {a : Addr} {x : MV} {xs : List MV} {M' : Led} (U : Up a (.lst (x :: xs)) (.lst xs) M M') (h : k x M') : TC c (.bi "list.pop") [.ref a, .int 0] lm M k := by
  intro fv vs hf hv R s I
  cases hf
  obtain ⟨va, vi, rfl⟩ := len2 hv.length
  obtain ⟨ha, hi, _⟩ := hv
  cases ha; cases hi
  obtain ⟨m, la, lb, o, F, N, nd, l1, ⟨us, n, rfl, hr, hz'⟩, back⟩ := I.up U
  match us, hr with
  | u :: us, hr =>
    refine kl_popAt (k := 0) (p := []) (q := us) (y := u) F N (by decide) (by simp [seqIndex?]) rfl (upd_nodup nd) ?_ fun h' F' N' => ⟨x, M', hr.1, back h' _ F' N' ⟨us, n + 1, rfl, hr.2, by simp at hz'; lia⟩, .of, h⟩
    have := hr.2.length; simp at hz' ⊢; lia
end
end Mine
end

section
open PySem PySem.W PySem.Calls PyProof.Rows
set_option Elab.async false
set_option maxRecDepth 100000
set_option linter.unusedVariables false
namespace Mine

noncomputable def MV.handed : MV → Bool
  | .bi _ => false
  | _ => true
theorem RV.handed {a : MV} {v : Value} (h : RV a v) (e : a.handed = true) : handedIn v = true := by
  cases h <;> first | rfl | cases e

theorem REs.length : ∀ {fs : List (Str × MV)} {es : List DictEntry}, REs fs es → es.length = fs.length
  | [], [], _ => rfl
  | _ :: _, _ :: _, h => by simp [REs.length h.2.2]
  | [], _ :: _, h => h.elim
  | _ :: _, [], h => h.elim
theorem isStr_str {v : Value} {x y : Str} {t : Tok} (e : v = .str x t) : v.isStr y = (x == y) := by subst e; rfl
theorem REs.noRef : ∀ {fs : List (Str × MV)} {es : List DictEntry}, REs fs es → es.any (·.refKey) = false
  | [], [], _ => rfl
  | _ :: _, e :: _, h => by
    obtain ⟨t, ht⟩ := h.1
    simp only [List.any_cons, Bool.or_eq_false_iff]
    exact ⟨by unfold DictEntry.refKey; rw [ht], REs.noRef h.2.2⟩
  | [], _ :: _, h => h.elim
  | _ :: _, [], h => h.elim
theorem REs.find : ∀ {fs : List (Str × MV)} {es : List DictEntry} (x : Str), REs fs es →
    (∀ a, fs.lookup x = some a → ∃ e, es.find? (·.key.isStr x) = some e ∧ RV a e.val) ∧ (fs.lookup x = none → es.find? (·.key.isStr x) = none)
  | [], [], x, _ => ⟨fun _ h => (nomatch h), fun _ => rfl⟩
  | f :: fs, e :: es, x, h => by
    obtain ⟨⟨t, ht⟩, hv, hr⟩ := h
    have ih := REs.find x hr
    obtain ⟨f1, f2⟩ := f
    have hk : e.key.isStr x = (f1 == x) := isStr_str ht
    rw [List.lookup_cons, List.find?_cons, hk]
    by_cases q : x = f1
    · subst q
      simp only [beq_self_eq_true]
      exact ⟨fun a ha => ⟨e, rfl, by cases ha; exact hv⟩, fun h => (nomatch h)⟩
    · have q1 : (x == f1) = false := beq_eq_false_iff_ne.mpr q
      have q2 : (f1 == x) = false := beq_eq_false_iff_ne.mpr fun z => q z.symm
      simp only [q1, q2]
      exact ih
  | [], _ :: _, _, h => h.elim
  | _ :: _, [], _, h => h.elim
theorem REs.get {fs : List (Str × MV)} {es : List DictEntry} {x : Str} {a : MV} (h : REs fs es) (e : fs.lookup x = some a) : ∃ v, getL x es = some (some v) ∧ RV a v := by
  obtain ⟨d, hd, hv⟩ := (h.find x).1 a e
  exact ⟨d.val, by unfold getL; rw [hd], hv⟩
theorem REs.miss {fs : List (Str × MV)} {es : List DictEntry} {x : Str} (h : REs fs es) (e : fs.lookup x = none) : getL x es = some none := by
  unfold getL; rw [(h.find x).2 e, h.noRef]; rfl
theorem REs.known {fs : List (Str × MV)} {es : List DictEntry} (x : Str) (h : REs fs es) : (getL x es).isSome = true := by
  cases e : fs.lookup x with
  | none => rw [h.miss e]; rfl
  | some a => obtain ⟨v, hv, _⟩ := h.get e; rw [hv]; rfl
theorem REs.put {hsh : Int} {t : Tok} {a : MV} {v : Value} (x : Str) (ha : RV a v) : ∀ {fs : List (Str × MV)} {es : List DictEntry}, REs fs es → REs (setL x a fs) (putL x hsh (.str x t) v es)
  | [], [], _ => ⟨⟨t, rfl⟩, ha, trivial⟩
  | f :: fs, e :: es, h => by
    obtain ⟨⟨u, hu⟩, hv, hr⟩ := h
    obtain ⟨f1, f2⟩ := f
    have hk : e.key.isStr x = (f1 == x) := isStr_str hu
    unfold setL putL
    rw [hk]
    by_cases q : x = f1
    · subst q
      simp only [beq_self_eq_true, if_true]
      exact ⟨⟨u, hu⟩, ha, hr⟩
    · have q1 : (x == f1) = false := beq_eq_false_iff_ne.mpr q
      have q2 : (f1 == x) = false := beq_eq_false_iff_ne.mpr fun z => q z.symm
      simp only [q1, q2, Bool.false_eq_true, if_false]
      exact ⟨⟨u, hu⟩, hv, REs.put x ha hr⟩
  | [], _ :: _, h => h.elim
  | _ :: _, [], h => h.elim
theorem setL_length (x : Str) (a : MV) : ∀ fs : List (Str × MV), (setL x a fs).length ≤ fs.length + 1
  | [] => by simp [setL]
  | p :: r => by
    unfold setL
    split
    · simp
    · simp only [List.length_cons]; have := setL_length x a r; lia

/-- what the class says of a name of its instances' own -/
noncomputable def fieldOk (K : Frag) (C : Addr) (x : Str) : Bool :=
  plainGet K C x && hasDictIn K C && (findIn K (.ref C) x == some none) && (findIn K (.ref C) "__setattr__" == some (some (.builtin "object.__setattr__"))) && plainOver K C
structure FieldOk (K : Frag) (C : Addr) (x : Str) : Prop where
  g : plainGet K C x = true
  d : hasDictIn K C = true
  f : findIn K (.ref C) x = some none
  s : findIn K (.ref C) "__setattr__" = some (some (.builtin "object.__setattr__"))
  p : plainOver K C = true
structure MethOk (K : Frag) (C : Addr) (x : Str) (f : Addr) : Prop where
  g : plainGet K C x = true
  fd : findIn K (.ref C) x = some (some (.ref f))
  t : isFn K (.ref f) = true
  k : keepIn K (.ref f) = true

section
variable {c : Cx} {lm : Loc} {M : Led} {k : MV → Led → Prop}

theorem Inv.inst {R : CLed} {h : Heap} {x C dx : Addr} {fs : List (Str × MV)} (I : Inv c R h lm M) (hx : (x, MO.inst C dx) ∈ M) (hd : (dx, MO.flds fs) ∈ M) : ∃ es n, InstAt h x (instObj C dx) C (some (dictOf es n)) ∧ REs fs es := by
  obtain ⟨o, ho, rfl⟩ := I.mem hx
  obtain ⟨o', ho', es, n, rfl, hr, _⟩ := I.mem hd
  exact ⟨es, n, ⟨ho, rfl, rfl, ho'⟩, hr⟩

theorem get_field (ok : c.Ok) {x C dx : Addr} {fs : List (Str × MV)} {name : Str} {a : MV} {expr : Bool} (hc : FieldOk c.K C name) (hx : (x, MO.inst C dx) ∈ M) (hd : (dx, MO.flds fs) ∈ M) (hl : fs.lookup name = some a) (hh : a.handed = true) (h : k a M) :
    T1 c (fun v => getAttr v name expr) (.ref x) lm M k := by
  intro v hv R s I
  cases hv
  obtain ⟨es, n, IA, hr⟩ := I.inst hx hd
  obtain ⟨v, hv, hrv⟩ := hr.get hl
  obtain ⟨m, F⟩ := I.fr
  exact get_own F ok.g.1 IA hc.g hc.d hc.f (by rfl) hv (hrv.handed hh) ⟨a, M, hrv, I, .of, h⟩

theorem ev_attr {value : Expr} {attr : Str} {pos : Pos}
    (he : eval (.Attribute value attr pos) c.env = (do
      let o ← eval value c.env
      standAt pos.atName
      let r ← holding [o] (getAttr o attr true)
      letTemporaryGo value o r
      pure r))
    (h : Tv c (eval value c.env) lm M fun a M₁ => T1 c (fun v => getAttr v attr true) a lm M₁ k) : Tv c (eval (.Attribute value attr pos) c.env) lm M k :=
  fun R s I => Attribute_any_ (h.use I fun a v M₁ s₁ ha I₁ e₁ h₁ => wpNo (h₁ v ha R s₁ I₁) fun u s' p => p.from e₁) he

theorem set_field (ok : c.Ok) {x C dx : Addr} {fs : List (Str × MV)} {name : Str} {a : MV} {M' : Led} {ku : Loc → Led → Prop} (hc : FieldOk c.K C name) (hx : (x, MO.inst C dx) ∈ M) (U : Up dx (.flds fs) (.flds (setL name a fs)) M M') (hz : fs.length < 100) (h : ku lm M') :
    ∀ u v, RV (.ref x) u → RV a v → Tu c (setAttr u name v) lm M ku := by
  intro u v hu hv R s I
  cases hu
  obtain ⟨es, n, IA, hr⟩ := I.inst hx U.mem
  obtain ⟨m, la, lb, o, F, N, nd, l1, ⟨es', n', rfl, hr', hz'⟩, back⟩ := I.up U
  have e : dictOf es n = dictOf es' n' := by
    have h1 : s.heap.get? dx = some (dictOf es n) := IA.dict
    have h2 := (N (dx, dictOf es' n') (List.mem_append_right _ (.head _))).1
    have h3 := h1.symm.trans h2
    exact Option.some.inj h3
  rw [e] at IA
  have hlen := hr'.length
  refine set_dict F ok.g.1 N IA rfl hc.s hc.p (by unfold takerIn; rw [hc.f]; rfl) hc.d (hr'.known name) rfl (upd_nodup nd) ?_ fun h' F' N' => ⟨lm, M', back h' _ F' N' ⟨_, _, rfl, hr'.put name hv, ?_⟩, .of, h⟩
  · have := (hr'.put (hsh := PyData.keyHash c.w.params name) (t := s.toks + 1) name hv).length
    have h2 := setL_length name a fs
    lia
  · have h2 := setL_length name a fs
    lia

theorem meth_inst (ok : c.Ok) {x C dx : Addr} {fs : List (Str × MV)} {name : Str} {f : Addr} (hc : MethOk c.K C name f) (hx : (x, MO.inst C dx) ∈ M) (hd : (dx, MO.flds fs) ∈ M) (hl : fs.lookup name = none) : Meth c lm M (.ref x) name (.ref f) := by
  intro R s v pl Q hv I hq
  cases hv
  obtain ⟨es, n, IA, hr⟩ := I.inst hx hd
  obtain ⟨m, F⟩ := I.fr
  exact method_inst F ok.g.1 IA hc.g hc.fd hc.t (hr.miss hl) (hq _ (.ref f))
end

/-- what the class says of its making -/
structure MakeOk (K : Frag) (C fI : Addr) : Prop where
  m : makesIn K C = true
  i : findIn K (.ref C) "__init__" = some (some (.ref fI))
  t : isFn K (.ref fI) = true

theorem LedR.rcons {p : Program} {w : World} {a : Addr × MO} {M : Led} {o : Addr × Obj} {l : CLed} (h : a.1 = o.1) (h' : RO p w a.2 o.2) (h2 : LedR p w M l) : LedR p w (a :: M) (o :: l) := ⟨⟨h, h'⟩, h2⟩
end Mine
end

section
open PySem PySem.W PySem.Calls PyProof.Rows
set_option Elab.async false
set_option maxRecDepth 100000
set_option linter.unusedVariables false
namespace Mine

theorem does_of_def {prog : Program} {w : World} {K : Frag} {f : Addr} {d : Nat} {as : List MV} {M : Led} {P : MV → Led → Prop} {oc : Value} {od : Option Addr} {osl : Array (Option Value)} {name qual : Str} {params : Arguments} {body : List Stmt} {scope : Scope} {dV kV doc pm cdv ct : Value} {an : Option Addr} {lm : Loc}
    (ho : K.lookup f = some ⟨oc, od, .func (fnOf name qual params body scope dV kV doc pm an cdv ct), osl⟩) (hcd : codeIn K cdv qual = true)
    (bind : ∀ (s : Shared) (args : List Value), K.In s.heap → RVs as args → ∃ binds, BindsTo s (fnOf name qual params body scope dV kV doc pm an cdv ct) ⟨args, []⟩ binds ∧ LocR lm (fun y => binds.reverse.lookup y) ∧ ∀ y ∈ binds, scope.names.lookup y.1 = some .local)
    (hbody : ∀ c : Cx, c.Ok → c.prog = prog → c.w = w → c.K = K → c.d = d → c.env.scope = scope → Tf c (execs body c.env) lm M (PN P) (PR P))
    (hcell : ∀ x ∈ scope.names, x.2 ≠ .cell) (hco : scope.isCoroutine = false) (hgen : scope.isGenerator = false) (hk : scope.kind = .function) :
    Does prog w K (.ref f) (d + 1) as M P := by
  intro A h₀ s fv args led hroom hg hsub hsz hf hargs hled hat hnd
  cases hf
  have X : K.In s.heap := fun a o e => hsub _ _ (hg.1 a o e)
  obtain ⟨binds, hb, hl, hloc⟩ := bind s args X hargs
  obtain ⟨X₀, p, loose, mg, mb, T⟩ := hg
  obtain ⟨hh, hdep, hun⟩ := hroom
  refine codeAny_call_def (fd := fnOf name qual params body scope dV kV doc pm an cdv ct) (body := body) (binds := binds) (by lia) (X _ _ ho) rfl (T.nolimit.keeps hsub) (codeRec_of X hcd) rfl hb hcell hloc (fun h₁ hns hk₁ => ?_) hco hgen hk
  have sub₀ : ∀ b o, h₀.get? b = some o → (hideAll s.heap (led.map (·.1))).get? b = some o := fun b o e => hideAll_get _ (hsub b o e) fun q => by
    obtain ⟨x, hx, rfl⟩ := List.mem_map.mp q
    rw [(hat x hx).2] at e; cases e
  let c : Cx := ⟨prog, w, K, A.deeper (callEnv (fnOf name qual params body scope dV kV doc pm an cdv ct) s.heap.objs.size f), callEnv (fnOf name qual params body scope dV kV doc pm an cdv ct) s.heap.objs.size f, hideAll s.heap (led.map (·.1)), d⟩
  have ok : c.Ok := ⟨⟨fun a o e => sub₀ a o (X₀ a o e), p, loose, mg, mb, T.keeps sub₀⟩, ⟨hh, by show A.depth + 1 + d < _; lia, by show A.units + 3 + 8 * d + 100 < _; lia⟩, hk, rfl, rfl⟩
  have I : Inv c [] h₁ lm M := ⟨_, led, ⟨hns, fun b o e => hk₁ b o (of_hideAll _ e), Nat.le_of_eq (hideAll_size _ _)⟩,
    fun p hp => ⟨hk₁ _ _ (hat p hp).1, Nat.ne_of_lt (Heap.lt_size (hat p hp).1), hideAll_none _ (List.mem_map_of_mem hp)⟩, hnd, hl, hled⟩
  have fin : ∀ (a : MV) (v : Value) (lm' : Loc) (M' : Led) (s' : Shared), RV a v → Inv c [] s'.heap lm' M' → Same { s with heap := h₁, toks := s.toks + binds.length } s' → (∃ M₀, Less M' M₀ ∧ P a M₀) →
      ∃ v' a M' led', (Except.ok (Flow.ret v) : Result) = .ok (.ret v') ∧ RV a v' ∧ LedR prog w M' led' ∧ (∀ p ∈ led', s'.heap.get? p.1 = some p.2 ∧ (s.heap.get? p.1 = none ∨ p.1 ∈ led.map (·.1))) ∧ (led'.map (·.1)).Nodup ∧
        (∀ b o, s.heap.get? b = some o → b ∉ led.map (·.1) → s'.heap.get? b = some o) ∧ Same s s' ∧ P a M' := by
    rintro a v lm' M' s' ha I' same ⟨M₀, less, hP⟩
    obtain ⟨m', led', F', N', nd', _, l2'⟩ := I'.less less
    refine ⟨v, a, M₀, led', rfl, ha, l2', fun p hp => ⟨(N' p hp).1, ?_⟩, nd', fun b o e hb => F'.keep b o (hideAll_get _ e hb), ⟨same.1, same.2.1, same.2.2⟩, hP⟩
    by_cases q : p.1 ∈ led.map (·.1)
    · exact .inr q
    · refine .inl ?_
      cases e : s.heap.get? p.1 with
      | none => rfl
      | some o => have := (N' p hp).2.2; rw [show c.h₀.get? p.1 = some o from hideAll_get _ e q] at this; cases this
  refine wpAny_mono (hbody c ok rfl rfl rfl rfl rfl [] { s with heap := h₁, toks := s.toks + binds.length } I) (fun fl s' hp => ?_) fun _ _ e => e.elim
  cases fl with
  | next => obtain ⟨lm', M', I', same, hP⟩ := hp; exact fin _ _ lm' M' s' .none I' same hP
  | ret v => obtain ⟨a, lm', M', ha, I', same, hP⟩ := hp; exact fin a v lm' M' s' ha I' same hP
  | brk => exact hp.elim
  | cont => exact hp.elim

theorem does_make {prog : Program} {w : World} {K : Frag} {C fI : Addr} {d : Nat} {as : List MV} {M : Led} {P : MV → Led → Prop} (hm : MakeOk K C fI)
    (h : ∀ x dx, Does prog w K (.ref fI) d (.ref x :: as) ((x, .inst C dx) :: (dx, .flds []) :: M) (fun r M' => r = .none ∧ P (.ref x) M')) : Does prog w K (.ref C) (d + 1) as M P := by
  intro A h₀ s fv args led hroom hg hsub hsz hf hargs hled hat hnd
  cases hf
  have X : K.In s.heap := fun a o e => hsub _ _ (hg.1 a o e)
  obtain ⟨hh, hdep, hun⟩ := hroom
  obtain ⟨H, g, dr, t, os⟩ := s
  have k : ∀ b o, H.get? b = some o → ((H.push emptyDict).push (instObj C H.objs.size)).get? b = some o := fun b o e => Heap.get?_push_of_some _ (Heap.get?_push_of_some _ e)
  have hx : ((H.push emptyDict).push (instObj C H.objs.size)).get? (H.objs.size + 1) = some (instObj C H.objs.size) := by
    have := Heap.get?_push_size (H.push emptyDict) (o := instObj C H.objs.size) rfl
    rwa [Heap.size_push] at this
  have hd : ((H.push emptyDict).push (instObj C H.objs.size)).get? H.objs.size = some emptyDict := Heap.get?_push_of_some _ (Heap.get?_push_size _ rfl)
  have none0 : ∀ b, H.objs.size ≤ b → H.get? b = none := fun b hb => by
    cases e : H.get? b with
    | none => rfl
    | some o => exact absurd (Heap.lt_size e) (Nat.not_lt.mpr hb)
  have none1 : ∀ b, H.objs.size ≤ b → h₀.get? b = none := fun b hb => by
    cases e : h₀.get? b with
    | none => rfl
    | some o => have := hsub _ _ e; rw [none0 b hb] at this; cases this
  have lt : ∀ p ∈ led, p.1 < H.objs.size := fun p hp => Heap.lt_size (hat p hp).1
  refine make_core (makes_of X hm.m) (looks_findIn X hm.i) (fun self => bind_fn X self (beq_iff_eq.mp hm.t)) (.inl rfl) ?_
  have key := h (H.objs.size + 1) H.objs.size (A.under (.builtin "type.__call__" ⟨.ref C :: args, []⟩)) h₀ ⟨(H.push emptyDict).push (instObj C H.objs.size), g, dr, t, os⟩ (.ref fI) (.ref (H.objs.size + 1) :: args)
    ((H.objs.size + 1, instObj C H.objs.size) :: (H.objs.size, emptyDict) :: led) ⟨hh, by show A.depth + 1 + d < _; lia, ?_⟩ hg (fun b o e => k b o (hsub b o e)) (by rw [Heap.size_push, Heap.size_push]; exact Nat.le_trans hsz (Nat.le_succ_of_le (Nat.le_succ _))) (.ref fI) ⟨.ref _, hargs⟩
    (LedR.rcons rfl rfl (LedR.rcons rfl ⟨[], 0, rfl, trivial, by simp⟩ hled)) ?_ ?_
  · refine codeAny_mono key fun r s' z => ?_
    obtain ⟨v, a, M', led', rfl, ha, l2, hl, nd, kept, same, rfl, hP⟩ := z
    cases ha
    refine ⟨rfl, .ref (H.objs.size + 1), .ref (H.objs.size + 1), M', led', rfl, .ref _, l2, fun p hp => ⟨(hl p hp).1, ?_⟩, nd, fun b o e hb => kept b o (k b o e) ?_, same, hP⟩
    · rcases (hl p hp).2 with e | e
      · left
        cases q : H.get? p.1 with
        | none => rfl
        | some o => have := k _ _ q; rw [this] at e; cases e
      · simp only [List.map_cons, List.mem_cons] at e
        rcases e with e | e | e
        · left; exact none0 _ (by rw [e]; lia)
        · left; exact none0 _ (by rw [e]; exact Nat.le_refl _)
        · right; exact e
    · simp only [List.map_cons, List.mem_cons]
      have hlt := Heap.lt_size e
      rintro (q | q | q)
      · rw [q] at hlt; exact absurd (show H.objs.size + 1 < H.objs.size from hlt) (by lia)
      · rw [q] at hlt; exact absurd (show H.objs.size < H.objs.size from hlt) (by lia)
      · exact hb q
  · show A.units + Code.cUnits _ + 8 * d + 100 < _
    have : Code.cUnits (.builtin "type.__call__" ⟨.ref C :: args, []⟩) ≤ 3 := by
      first | exact Nat.le_of_ble_eq_true rfl | (unfold Code.cUnits; split <;> simp_all)
    lia
  · intro p hp
    rcases List.mem_cons.mp hp with rfl | hp
    · exact ⟨hx, none1 _ (by show H.objs.size ≤ H.objs.size + 1; lia)⟩
    · rcases List.mem_cons.mp hp with rfl | hp
      · exact ⟨hd, none1 _ (Nat.le_refl _)⟩
      · exact ⟨k _ _ (hat p hp).1, (hat p hp).2⟩
  · simp only [List.map_cons]
    refine List.nodup_cons.mpr ⟨fun q => ?_, List.nodup_cons.mpr ⟨fun q => ?_, hnd⟩⟩
    · rcases List.mem_cons.mp q with q | q
      · exact absurd q (Nat.ne_of_gt (Nat.lt_succ_self _))
      · obtain ⟨x, hx, e⟩ := List.mem_map.mp q
        have := lt x hx; rw [e] at this; exact absurd this (by show ¬ H.objs.size + 1 < H.objs.size; lia)
    · obtain ⟨x, hx, e⟩ := List.mem_map.mp q
      have := lt x hx; rw [e] at this; exact absurd this (Nat.lt_irrefl _)

end Mine
end

section
open PySem PySem.W PySem.Calls PyProof.Rows
set_option Elab.async false
set_option maxRecDepth 100000
set_option linter.unusedVariables false
namespace Mine

/-- a value stored at a target -/
noncomputable def TA (c : Cx) (t : Expr) (a : MV) (lm : Loc) (M : Led) (ku : Loc → Led → Prop) : Prop := ∀ v, RV a v → Tu c (assign t c.env v) lm M ku
noncomputable def TAs (c : Cx) (ts : List (Value → Sem Unit)) (as : List MV) (lm : Loc) (M : Led) (ku : Loc → Led → Prop) : Prop := ∀ vs, RVs as vs → Tu c (assignInOrder ts vs) lm M ku

section
variable {c : Cx} {lm : Loc} {M : Led} {k : MV → Led → Prop} {ku : Loc → Led → Prop} {kb : Bool → Led → Prop} {kN : Loc → Led → Prop} {kR : MV → Led → Prop}

theorem Tu.from {t : Sem Unit} {R : CLed} {s s₁ : Shared} {lm₁ : Loc} {M₁ : Led} (h : Tu c t lm₁ M₁ ku) (I : Inv c R s₁.heap lm₁ M₁) (e : Same s s₁) : wpAny c.M c.A t (fun _ s' => ∃ lm' M', Inv c R s'.heap lm' M' ∧ Same s s' ∧ ku lm' M') NoE s₁ :=
  wpNo (h R s₁ I) fun _ s' ⟨l, m, a, b, d⟩ => ⟨l, m, a, e.trans b, d⟩
theorem Tf.from {t : Sem Flow} {R : CLed} {s s₁ : Shared} {lm₁ : Loc} {M₁ : Led} (h : Tf c t lm₁ M₁ kN kR) (I : Inv c R s₁.heap lm₁ M₁) (e : Same s s₁) : wpAny c.M c.A t (PostF c R s kN kR) NoE s₁ :=
  wpNo (h R s₁ I) fun _ s' p => p.from e
theorem Tb.from {t : Sem Bool} {R : CLed} {s s₁ : Shared} {lm₁ : Loc} {M₁ : Led} (h : Tb c t lm₁ M₁ kb) (I : Inv c R s₁.heap lm₁ M₁) (e : Same s s₁) : wpAny c.M c.A t (fun b s' => ∃ M', Inv c R s'.heap lm₁ M' ∧ Same s s' ∧ kb b M') NoE s₁ :=
  wpNo (h R s₁ I) fun _ s' ⟨m, a, b, d⟩ => ⟨m, a, e.trans b, d⟩
theorem Tv.from {t : Sem Value} {R : CLed} {s s₁ : Shared} {lm₁ : Loc} {M₁ : Led} (h : Tv c t lm₁ M₁ k) (I : Inv c R s₁.heap lm₁ M₁) (e : Same s s₁) : wpAny c.M c.A t (PostV c R s lm₁ k) NoE s₁ :=
  wpNo (h R s₁ I) fun _ s' p => p.from e

theorem noClass (ok : c.Ok) : (c.env.scope.kind == .class || (c.env.scope.kind == .module && c.env.locals != c.env.globals)) = false := by rw [ok.k]; rfl
theorem store_local (ok : c.Ok) {x : Str} {a : MV} {v : Value} (hx : c.env.scope.names.lookup x = some .local) (ha : RV a v) (h : ku (setL x a lm) M) : Tu c (storeName c.env x v) lm M ku := by
  rintro R s ⟨m, led, F, N, nd, l1, l2⟩
  exact wpAny_storeName_local hx F.ns (fun h' hn hs => ⟨_, M, ⟨_, led, F.set hn hs, N.set hs, nd, l1.set ha, l2⟩, .of, h⟩) (noClass ok)
theorem store_cell (ok : c.Ok) {x : Str} {a : MV} {v : Value} {ca : Addr} {old : Option MV} {M' : Led} (hx : c.env.scope.names.lookup x = some .cell) (ha : RV a v) (hc : c.env.cells.lookup x = some ca) (U : Up ca (.cell old) (.cell (some a)) M M') (h : ku lm M') : Tu c (storeName c.env x v) lm M ku := by
  intro R s I
  obtain ⟨m, la, lb, o, F, N, nd, l1, ⟨v', hd, hr⟩, back⟩ := I.up U
  have hm := N (ca, o) (List.mem_append_right _ (.head _))
  obtain ⟨pre, post, e1, e2, n1, n2⟩ := (upd_nodup (o' := o) nd).split
  refine wpAny_storeName_cell ok.k hx hc ⟨o, hm.1, hd⟩ fun h' hv hs => ?_
  obtain ⟨o', ho', hd'⟩ := hv
  refine ⟨lm, M', back h' o' ⟨F.ns.sameBut hs (Ne.symm hm.2.1), fun b ob e => (hs.2 b (fun q => ?_)).trans (F.keep b ob e), F.above⟩ (fun p hp => ?_) ⟨some v, hd', ha⟩, .of, h⟩
  · rw [q, hm.2.2] at e; cases e
  · have dis : ∀ q ∈ la ++ lb, q.1 ≠ ca := by
      intro q hq e
      rw [List.map_append, List.map_cons] at nd
      have nd' := List.nodup_append.mp nd
      rcases List.mem_append.mp hq with hq | hq
      · exact nd'.2.2 q.1 (List.mem_map_of_mem hq) ca (List.mem_cons_self ..) e
      · exact (List.nodup_cons.mp nd'.2.1).1 (List.mem_map.mpr ⟨q, hq, e⟩)
    rcases List.mem_append.mp hp with hp | hp
    · have z := N p (List.mem_append_left _ hp)
      exact ⟨(hs.2 _ (dis p (List.mem_append_left _ hp))).trans z.1, z.2⟩
    · rcases List.mem_cons.mp hp with rfl | hp
      · exact ⟨ho', hm.2⟩
      · have z := N p (List.mem_append_right _ (.tail _ hp))
        exact ⟨(hs.2 _ (dis p (List.mem_append_right _ hp))).trans z.1, z.2⟩

theorem ta_local (ok : c.Ok) {x : Str} {p : Pos} {a : MV} (hx : c.env.scope.names.lookup x = some .local) (h : ku (setL x a lm) M) : TA c (.Name x p) a lm M ku :=
  fun v ha R s I => wpAny_assign_Name (store_local ok hx ha h R s I)
theorem ta_cell (ok : c.Ok) {x : Str} {p : Pos} {a : MV} {ca : Addr} {old : Option MV} {M' : Led} (hx : c.env.scope.names.lookup x = some .cell) (hc : c.env.cells.lookup x = some ca) (U : Up ca (.cell old) (.cell (some a)) M M') (h : ku lm M') : TA c (.Name x p) a lm M ku :=
  fun v ha R s I => wpAny_assign_Name (store_cell ok hx ha hc U h R s I)
theorem ta_attr {o : Expr} {attr : Str} {pos : Pos} {a : MV} (h : Tv c (eval o c.env) lm M fun b M₁ => ∀ u v, RV b u → RV a v → Tu c (setAttr u attr v) lm M₁ ku) : TA c (.Attribute o attr pos) a lm M ku := by
  intro v ha R s I
  rw [arm_assign_Attribute]
  refine wpAny_bind (wpAny_holding (h.use I fun b u M₁ s₁ hb I₁ e₁ h₁ => wpAny_bind (wpAny_standAt (wpAny_bind (wpAny_holding ((h₁ u v hb ha).use I₁ fun lm' M' s₂ I₂ e₂ h₂ => ?_))))))
  exact wpAny_release ⟨lm', M', I₂, e₁.trans e₂, h₂⟩
theorem ta_sub {o i : Expr} {pos : Pos} {a : MV} (h : Tv c (eval o c.env) lm M fun b M₁ => Tv c (eval i c.env) lm M₁ fun j M₂ => ∀ u w v, RV b u → RV j w → RV a v → Tu c (setItem u w v) lm M₂ ku) : TA c (.Subscript o i pos) a lm M ku := by
  intro v ha R s I
  rw [arm_assign_Subscript]
  refine wpAny_bind (wpAny_holding (h.use I fun b u M₁ s₁ hb I₁ e₁ h₁ => wpAny_bind (wpAny_holding (h₁.use I₁ fun j w M₂ s₂ hj I₂ e₂ h₂ => wpAny_bind (wpAny_standAt (wpAny_bind (wpAny_holding ((h₂ u w v hb hj ha).use I₂ fun lm' M' s₃ I₃ e₃ h₃ => ?_))))))))
  exact wpAny_release ⟨lm', M', I₃, (e₁.trans e₂).trans e₃, h₃⟩

theorem tas_nil {ts : List (Value → Sem Unit)} (h : ku lm M) : TAs c ts [] lm M ku := by
  intro vs hv R s I
  match vs, hv with
  | [], _ => cases ts <;> exact wpAny_pure ⟨lm, M, I, .refl _, h⟩
theorem tas_cons {t : Expr} {ts : List (Value → Sem Unit)} {a : MV} {as : List MV} (h : TA c t a lm M fun lm' M' => TAs c ts as lm' M' ku) : TAs c (assign t c.env :: ts) (a :: as) lm M ku := by
  intro vs hv R s I
  match vs, hv with
  | v :: vs, hv =>
    show wpAny c.M c.A (holding vs (assign t c.env v) >>= fun _ => assignInOrder ts vs) _ _ s
    exact wpAny_bind (wpAny_holding ((h v hv.1).use I fun lm' M' s₁ I₁ e₁ h₁ => (h₁ vs hv.2).from I₁ e₁))

theorem assignEach_plain {env : Env} : ∀ {es : List Expr}, es.any isStarred = false → assignEach es env = es.map fun e => (false, assign e env)
  | [], _ => rfl
  | e :: rest, h => by
    simp only [List.any_cons, Bool.or_eq_false_iff] at h
    have ih := assignEach_plain (env := env) h.2
    cases e <;> first | (exfalso; simp [isStarred] at h; done) | (simp only [assignEach, List.map_cons, ih])

theorem ta_tuple (ok : c.Ok) {es : List Expr} {n : Nat} {pos : Pos} {t : Addr} {xs : List MV} (hs : es.any isStarred = false) (hm : (t, MO.tup xs) ∈ M) (hl : es.length = xs.length) (h : TAs c (es.map fun e => assign e c.env) xs lm M ku) : TA c (.Tuple es n pos) (.ref t) lm M ku := by
  intro v ha R s I
  cases ha
  obtain ⟨vs, n', ho, ht, hr⟩ := I.tup hm
  have hI := I
  obtain ⟨m, led, F, N, nd, l1, l2⟩ := I
  have e := assignEach_plain (env := c.env) hs
  refine unpackN_ F N ht ok.r.1 (by rw [e]; simp [hr.length, hl]) (by rw [e]; simp) fun h' F' N' => ?_
  rw [e]
  have : (es.map fun e => (false, assign e c.env)).map (·.2) = es.map fun e => assign e c.env := by simp
  rw [this]
  exact (h vs hr).from (s₁ := { s with heap := h' }) ⟨m, led, F', N', nd, l1, l2⟩ .of

/-! ### truth -/
theorem tb_value {e : Expr} (he : ∀ whole, isTrue e c.env whole = (do let v ← whole; standAt e.pos; holding [v] (truthy v))) (h : Tv c (eval e c.env) lm M fun a M₁ => ∃ b, a = .bool b ∧ kb b M₁) : Tb c (isTrue e c.env (eval e c.env)) lm M kb :=
  fun R s I => wpAny_isTrue_value (h.use I fun a v M₁ s₁ ha I₁ e₁ ⟨b, e, h₁⟩ => by subst e; cases ha; exact wpAny_truthy_bool ⟨M₁, I₁, e₁, h₁⟩) (he _)
theorem tb_compare1 {l r : Expr} {op : CmpOp} {pos : Pos} (hm : behindInMarks op r = false) (h : Tv c (eval l c.env) lm M fun a M₁ => Tv c (eval r c.env) lm M₁ fun b M₂ => T2 c (compareOp op) a b lm M₂ fun d M₃ => ∃ b, d = .bool b ∧ kb b M₃) :
    Tb c (isTrue (.Compare l [op] [r] pos) c.env (eval (.Compare l [op] [r] pos) c.env)) lm M kb :=
  fun R s I => wpAny_isTrue_Compare1 (h.use I fun a v M₁ s₁ ha I₁ e₁ h₁ => h₁.use I₁ fun b u M₂ s₂ hb I₂ e₂ h₂ => (h₂ v u ha hb).use I₂ fun d z M₃ s₃ hd I₃ e₃ ⟨b, e, h₃⟩ => by
    subst e; cases hd; exact wpAny_truthy_bool ⟨M₃, I₃, (e₁.trans e₂).trans e₃, h₃⟩) hm
theorem tb_chain2 {l r r' : Expr} {op op' : CmpOp} {pos : Pos} (hm : lastMarks [op, op'] [r, r'] = false) (h : Tv c (eval l c.env) lm M fun a M₁ => Tv c (eval r c.env) lm M₁ fun b M₂ => T2 c (compareOp op) a b lm M₂ fun d M₃ => ∃ t, d = .bool t ∧
      (t = true → Tv c (eval r' c.env) lm M₃ fun e M₄ => T2 c (compareOp op') b e lm M₄ fun d M₅ => ∃ b, d = .bool b ∧ kb b M₅) ∧ (t = false → kb false M₃)) :
    Tb c (isTrue (.Compare l [op, op'] [r, r'] pos) c.env (eval (.Compare l [op, op'] [r, r'] pos) c.env)) lm M kb := by
  intro R s I
  refine isTrue_chain (h.use I fun a v M₁ s₁ ha I₁ e₁ h₁ => ?_) hm
  show wpAny c.M c.A (do
    let rv ← holding [v] (eval r c.env)
    standAt pos
    let d ← holding [v, rv] (compareOp op v rv)
    release [v, rv] [d]
    if ← holding [d, rv] (truthy d) then testChain pos rv [op'] [eval r' c.env] else pure false) _ _ _
  refine wpAny_bind (wpAny_holding (h₁.use I₁ fun b u M₂ s₂ hb I₂ e₂ h₂ => wpAny_bind (wpAny_standAt (wpAny_bind (wpAny_holding ((h₂ v u ha hb).use I₂ fun d z M₃ s₃ hd I₃ e₃ h₃ => wpAny_bind (wpAny_release ?_)))))))
  obtain ⟨t, e, ht, hf⟩ := h₃
  subst e; cases hd
  refine wpAny_bind (wpAny_holding (wpAny_truthy_bool ?_))
  cases t with
  | false => exact wpAny_pure ⟨M₃, I₃, (e₁.trans e₂).trans e₃, hf rfl⟩
  | true =>
    show wpAny c.M c.A (do
      let rv ← holding [u] (eval r' c.env)
      standAt pos
      let d ← operate [u, rv] (compareOp op' u rv)
      holding [d] (truthy d)) _ _ _
    refine wpAny_bind (wpAny_holding ((ht rfl).use I₃ fun e w M₄ s₄ he I₄ e₄ h₄ => wpAny_bind (wpAny_standAt (wpAny_bind (wpAny_operate' ((h₄ u w hb he).use I₄ fun d z M₅ s₅ hd I₅ e₅ ⟨b, e, h₅⟩ => wpAny_holding ?_))))))
    subst e; cases hd
    exact wpAny_truthy_bool ⟨M₅, I₅, (((e₁.trans e₂).trans e₃).trans e₄).trans e₅, h₅⟩
theorem tb_not {x : Expr} {pos : Pos} {w : Sem Value} (h : Tb c (isTrue x c.env (eval x c.env)) lm M fun b M₁ => kb (!b) M₁) : Tb c (isTrue (.UnaryOp .Not x pos) c.env w) lm M kb :=
  fun R s I => wpAny_isTrue_Not (wpNo (h R s I) fun b s' ⟨M', a, e, z⟩ => ⟨M', a, e, z⟩)
theorem tb_bool {op : BoolOp} {es : List Expr} {pos : Pos} {w : Sem Value} (h : Tb c (allTrue op es c.env) lm M kb) : Tb c (isTrue (.BoolOp op es pos) c.env w) lm M kb :=
  fun R s I => wpAny_isTrue_BoolOp (h R s I)
theorem all_and_nil (h : kb true M) : Tb c (allTrue .And [] c.env) lm M kb := fun R s I => wpAny_allTrue_And_nil ⟨M, I, .refl _, h⟩
theorem all_or_nil (h : kb false M) : Tb c (allTrue .Or [] c.env) lm M kb := fun R s I => wpAny_allTrue_Or_nil ⟨M, I, .refl _, h⟩
theorem all_and_cons {x : Expr} {rest : List Expr} (h : Tb c (isTrue x c.env (eval x c.env)) lm M fun b M₁ => (b = true → Tb c (allTrue .And rest c.env) lm M₁ kb) ∧ (b = false → kb false M₁)) : Tb c (allTrue .And (x :: rest) c.env) lm M kb :=
  fun R s I => wpAny_allTrue_And_cons (h.use I fun b M₁ s₁ I₁ e₁ h₁ => by
    cases b with
    | true => exact (h₁.1 rfl).from I₁ e₁
    | false => exact ⟨M₁, I₁, e₁, h₁.2 rfl⟩)
theorem all_or_cons {x : Expr} {rest : List Expr} (h : Tb c (isTrue x c.env (eval x c.env)) lm M fun b M₁ => (b = true → kb true M₁) ∧ (b = false → Tb c (allTrue .Or rest c.env) lm M₁ kb)) : Tb c (allTrue .Or (x :: rest) c.env) lm M kb :=
  fun R s I => wpAny_allTrue_Or_cons (h.use I fun b M₁ s₁ I₁ e₁ h₁ => by
    cases b with
    | true => exact ⟨M₁, I₁, e₁, h₁.1 rfl⟩
    | false => exact (h₁.2 rfl).from I₁ e₁)

theorem ev_ifexp {t b o : Expr} {pos : Pos} (h : Tb c (isTrue t c.env (eval t c.env)) lm M fun v M₁ => (v = true → Tv c (eval b c.env) lm M₁ k) ∧ (v = false → Tv c (eval o c.env) lm M₁ k)) : Tv c (eval (.IfExp t b o pos) c.env) lm M k :=
  fun R s I => wpAny_IfExp (h.use I fun v M₁ s₁ I₁ e₁ h₁ => by
    cases v with
    | true => exact (h₁.1 rfl).from I₁ e₁
    | false => exact (h₁.2 rfl).from I₁ e₁)

/-! ### statements -/
theorem st_nil (h : kN lm M) : Tf c (execs [] c.env) lm M kN kR := fun R s I => wpAny_execs_nil ⟨lm, M, I, .refl _, h⟩
theorem st_cons {st : Stmt} {rest : List Stmt} (h : Tf c (exec st c.env) lm M (fun lm' M' => Tf c (execs rest c.env) lm' M' kN kR) kR) : Tf c (execs (st :: rest) c.env) lm M kN kR :=
  fun R s I => wpAny_execs_cons (wpNo (h R s I) fun f s' p => by
    cases f with
    | next => obtain ⟨lm', M', I', e, h'⟩ := p; exact h'.from I' e
    | ret v => exact p
    | brk => exact p.elim
    | cont => exact p.elim)
theorem st_ret {e : Expr} {pos : Pos} (h : Tv c (eval e c.env) lm M kR) : Tf c (exec (.Return (some e) pos) c.env) lm M kN kR :=
  fun R s I => wpAny_Return_some (h.use I fun a v M' s' ha I' e h' => ⟨a, lm, M', ha, I', e, h'⟩)
theorem st_ret0 {pos : Pos} (h : kR .none M) : Tf c (exec (.Return none pos) c.env) lm M kN kR :=
  fun R s I => wpAny_Return_none ⟨.none, lm, M, .none, I, .refl _, h⟩
theorem st_expr (ok : c.Ok) {e : Expr} {pos : Pos} (hs : swapsWith e none pos.line c.env = pure false) (h : Tv c (eval e c.env) lm M fun _ M' => kN lm M') : Tf c (exec (.Expr e pos) c.env) lm M kN kR :=
  fun R s I => wpAny_Expr_any (h.use I fun a v M' s' ha I' e h' => ⟨lm, M', I', e, h'⟩) (by unfold interactive; rw [ok.k]; rfl) hs
theorem st_if {t : Expr} {b o : List Stmt} {pos : Pos} (h : Tb c (isTrue t c.env (eval t c.env)) lm M fun v M₁ => (v = true → Tf c (execs b c.env) lm M₁ kN kR) ∧ (v = false → Tf c (execs o c.env) lm M₁ kN kR)) : Tf c (exec (.If t b o pos) c.env) lm M kN kR :=
  fun R s I => wpAny_If (h.use I fun v M₁ s₁ I₁ e₁ h₁ => by
    cases v with
    | true => exact (h₁.1 rfl).from I₁ e₁
    | false => exact (h₁.2 rfl).from I₁ e₁)
theorem st_assign {t value : Expr} {pos : Pos} (hstar : isStarred t = false) (hs : swapsWith value (some t) pos.line c.env = pure false) (hw : swappedStores [t] value c.env = pure none) (h : Tv c (eval value c.env) lm M fun a M₁ => TA c t a lm M₁ kN) :
    Tf c (exec (.Assign [t] value pos) c.env) lm M kN kR := by
  intro R s I
  rw [arm_exec_Assign]
  refine wpAny_bind (wpAny_standAt (wpAny_bind (wpAny_of_eq (a := false) hs ?_)))
  simp only [Bool.false_eq_true, if_false]
  refine wpAny_bind (h.use I fun a v M₁ s₁ ha I₁ e₁ h₁ => wpAny_bind (wpAny_of_eq (a := none) hw ?_))
  have e := assignEach_plain (env := c.env) (es := [t]) (by simp [hstar])
  rw [e]
  show wpAny c.M c.A (assign t c.env v >>= fun _ => pure Flow.next) _ _ _
  exact wpAny_bind ((h₁ v ha).use I₁ fun lm' M' s₂ I₂ e₂ h₂ => wpAny_pure ⟨lm', M', I₂, e₁.trans e₂, h₂⟩)

noncomputable def TBs (c : Cx) (ns : List Str) (as : List MV) (lm : Loc) (M : Led) (ku : Loc → Led → Prop) : Prop := ∀ vs, RVs as vs → Tu c (assignInOrder (ns.map fun n => bindName c.env n) vs) lm M ku
theorem tbs_nil (h : ku lm M) : TBs c [] [] lm M ku := by
  intro vs hv R s I
  match vs, hv with
  | [], _ => exact wpAny_pure ⟨lm, M, I, .refl _, h⟩
theorem tbs_cons (ok : c.Ok) {n : Str} {ns : List Str} {a : MV} {as : List MV} (hn : c.env.scope.names.lookup n = some .local) (h : TBs c ns as (setL n a lm) M ku) : TBs c (n :: ns) (a :: as) lm M ku := by
  intro vs hv R s I
  match vs, hv with
  | v :: vs, hv =>
    show wpAny c.M c.A (holding vs (bindName c.env n v) >>= fun _ => assignInOrder (ns.map fun n => bindName c.env n) vs) _ _ s
    exact wpAny_bind (wpAny_holding (wpAny_bindName ((store_local (ku := fun lm' M' => lm' = setL n a lm ∧ M' = M) ok hn hv.1 ⟨rfl, rfl⟩).use I fun lm' M' s₁ I₁ e₁ ⟨e, e'⟩ => by
      subst e e'
      exact (h vs hv.2).from I₁ e₁)))
theorem st_assign_swap (ok : c.Ok) {t value : Expr} {ns : List Str} {pos : Pos} (hs : swapsWith value (some t) pos.line c.env = pure false) (hw : swappedStores [t] value c.env = pure (some ns))
    (h : Tv c (eval value c.env) lm M fun a M₁ => ∃ q as, a = .ref q ∧ (q, MO.tup as) ∈ M₁ ∧ as.length = ns.length ∧ TBs c ns.reverse as.reverse lm M₁ kN) :
    Tf c (exec (.Assign [t] value pos) c.env) lm M kN kR := by
  intro R s I
  rw [arm_exec_Assign]
  refine wpAny_bind (wpAny_standAt (wpAny_bind (wpAny_of_eq (a := false) hs ?_)))
  simp only [Bool.false_eq_true, if_false]
  refine wpAny_bind (h.use I fun a v M₁ s₁ ha I₁ e₁ h₁ => wpAny_bind (wpAny_of_eq (a := some ns) hw ?_))
  obtain ⟨q, as, rfl, hm, hlen, hT⟩ := h₁
  cases ha
  show wpAny c.M c.A (rule "assign.swapped-stores" >>= fun _ => unpackItems (.ref q) ns.length none >>= fun items => assignInOrder (ns.reverse.map fun n => bindName c.env n) items.reverse >>= fun _ => pure Flow.next) _ _ _
  refine wpAny_bind (wpAny_rule (wpAny_bind ?_))
  obtain ⟨vs, n', ho, ht, hr⟩ := I₁.tup hm
  obtain ⟨m, led, F, N, nd, l1, l2⟩ := I₁
  refine unpackItemsN_ F N ht ok.r.1 (by simp [hr.length, hlen]) fun h' F' N' => ?_
  exact wpAny_bind ((hT vs.reverse hr.reverse).use (s := { s₁ with heap := h' }) ⟨m, led, F', N', nd, l1, l2⟩ fun lm' M' s₂ I₂ e₂ h₂ => wpAny_pure ⟨lm', M', I₂, e₁.trans ⟨e₂.1, e₂.2.1, e₂.2.2⟩, h₂⟩)

theorem ev_list {es : List Expr} {pos : Pos} (h : Tvs c (spliced (backTo pos (starEach es c.env))) lm M fun as M₁ => as.length ≤ sizeLine ∧ ∀ q, k (.ref q) ((q, .lst as) :: M₁)) : Tv c (eval (.List es pos) c.env) lm M k :=
  fun R s I => wpAny_List (h.use I fun as vs M₁ s₁ hs I₁ e₁ h₁ => ⟨by rw [hs.length]; exact h₁.1, ⟨_, _, .ref _, I₁.push (mo := .lst as) ⟨vs, 0, rfl, hs, h₁.1⟩ rfl, ⟨e₁.1, e₁.2.1, e₁.2.2⟩, h₁.2 _⟩⟩)
theorem ev_tuple {es : List Expr} {n : Nat} {pos : Pos} (h : Tvs c (spliced (backTo pos (starEach es c.env))) lm M fun as M₁ => as.length ≤ sizeLine ∧ ∀ q, k (.ref q) ((q, .tup as) :: M₁)) : Tv c (eval (.Tuple es n pos) c.env) lm M k :=
  fun R s I => wpAny_Tuple (h.use I fun as vs M₁ s₁ hs I₁ e₁ h₁ => ⟨by rw [hs.length]; exact h₁.1, ⟨_, _, .ref _, I₁.push (mo := .tup as) ⟨vs, 0, rfl, hs⟩ rfl, ⟨e₁.1, e₁.2.1, e₁.2.2⟩, h₁.2 _⟩⟩)
end
end Mine
end

section
open PySem PySem.W PySem.Calls PyProof.Rows
set_option Elab.async false
set_option maxRecDepth 100000
set_option linter.unusedVariables false
namespace Mine

/-- fewer names -/
noncomputable def Sub (lm lm₀ : Loc) : Prop := ∀ x a, lm₀.lookup x = some a → lm.lookup x = some a
/-- what a turn of a loop is to leave -/
noncomputable def JW (J : Nat → Loc → Led → Prop) (n : Nat) (lm' : Loc) (M' : Led) : Prop := ∃ m lm₀ M₀, m < n ∧ Sub lm' lm₀ ∧ Less M' M₀ ∧ J m lm₀ M₀
noncomputable def JN (J : Nat → Loc → Led → Prop) (i : Nat) (lm' : Loc) (M' : Led) : Prop := ∃ lm₀ M₀, Sub lm' lm₀ ∧ Less M' M₀ ∧ J (i + 1) lm₀ M₀
noncomputable def JQ (Q : Loc → Led → Prop) (lm' : Loc) (M' : Led) : Prop := ∃ lm₁ M₁, Sub lm' lm₁ ∧ Less M' M₁ ∧ Q lm₁ M₁
noncomputable def JC (J : Nat → List MV → Led → Prop) (i : Nat) (acc : List MV) (a : MV) (M' : Led) : Prop := ∃ M₀, Less M' M₀ ∧ J (i + 1) (acc ++ [a]) M₀
noncomputable def KH (kR : MV → Led → Prop) (hold : Led) (a : MV) (M' : Led) : Prop := kR a (hold ++ M')
theorem Sub.refl (lm : Loc) : Sub lm lm := fun _ _ e => e

theorem Same.eq {s s' : Shared} (h : Same s s') : s' = { s with heap := s'.heap, toks := s'.toks } := by
  obtain ⟨h', g, d, t, os⟩ := s'
  obtain ⟨rfl, rfl, rfl⟩ := h
  rfl

theorem Inv.fewer {c : Cx} {R R' : CLed} {h : Heap} {lm : Loc} {M : Led} (I : Inv c R h lm M) (hs : R'.Sublist R) : Inv c R' h lm M := by
  obtain ⟨m, led, F, N, nd, l1, l2⟩ := I
  have sl : (R' ++ led).Sublist (R ++ led) := hs.append_right led
  exact ⟨m, led, F, fun p hp => N p (sl.subset hp), nd.sublist (sl.map _), l1, l2⟩

section
variable {c : Cx} {lm : Loc} {M : Led} {k : MV → Led → Prop} {ku : Loc → Led → Prop} {kb : Bool → Led → Prop} {kN : Loc → Led → Prop} {kR : MV → Led → Prop}

theorem st_while {test : Expr} {body : List Stmt} {pos : Pos} (J : Nat → Loc → Led → Prop) (n₀ : Nat) {lm₁ : Loc} {M₁ : Led} (hs : Sub lm lm₁) (hM : Less M M₁) (h0 : J n₀ lm₁ M₁)
    (turn : ∀ n lm M, J n lm M → Tb c (isTrue test c.env (eval test c.env)) lm M fun b M₁ =>
      (b = true → Tf c (execs body c.env) lm M₁ (JW J n) kR) ∧ (b = false → kN lm M₁)) : Tf c (exec (.While test body [] pos) c.env) lm M kN kR := by
  intro R s I
  refine wpAny_While (codeAny_whileLoop (fun n s' => ∃ lm M, J n lm M ∧ Inv c R s'.heap lm M ∧ Same s s') ?_ n₀ ⟨lm₁, M₁, h0, (I.locs hs).less hM, .refl _⟩)
  rintro n s' ⟨lm', M', hJ, I', e⟩
  refine wpAnyE (turn n lm' M' hJ R s' I') fun b s₂ zz => ?_
  obtain ⟨M₂, I₂, e₂, h₂⟩ := zz
  cases b with
  | false => exact wpAny_execs_nil ⟨lm', M₂, I₂, e.trans e₂, h₂.2 rfl⟩
  | true =>
    refine wpAnyE (h₂.1 rfl R s₂ I₂) fun f s₃ p => ?_
    cases f with
    | next =>
      obtain ⟨lm₃, M₃, I₃, e₃, m, lm₀, M₀, hm, hsub, hless, hJ'⟩ := p
      exact ⟨m, hm, lm₀, M₀, hJ', (I₃.locs hsub).less hless, (e.trans e₂).trans e₃⟩
    | ret v => exact PostF.from (f := .ret v) (e.trans e₂) p
    | brk => exact p.elim
    | cont => exact p.elim

/-- what a turn is given -/
inductive IV where
  | one (a : MV)
  | two (a b : MV)
noncomputable def IV.Is : IV → Value → Heap → Prop
  | .one a, v, _ => RV a v
  | .two a b, v, h => ∃ T x y, v = .ref T ∧ h.IsTuple T #[x, y] ∧ RV a x ∧ RV b y

noncomputable def Turns (c : Cx) (target : Expr) (it : Value) (items : List IV) (H : CLed) (O : List Addr) (h : Heap) : Prop :=
  ∃ (I : Addr) (fp wr : List Addr) (P Md : Nat → Value → Heap → Prop) (St : Nat → Heap → Prop), it = .ref I ∧ KTurns c.prog c.w c.A target I fp wr items.length P Md St ∧
    (∀ i v h', P i v h' → ∃ iv, items[i]? = some iv ∧ iv.Is v h') ∧ (∀ b ∈ fp, b ∈ O ∨ b ∈ H.map (·.1)) ∧ (∀ b ∈ wr, b ∈ O) ∧ (∀ i h', St i h' → ∀ b ∈ O, ∃ o, h'.get? b = some o) ∧ O.Nodup ∧ St 0 h ∧ ∀ (s : Shared) (Q E : Value → Shared → Prop), St 0 s.heap → Q (.ref I) s → wpAny c.M c.A (pyIter (.ref I)) Q E s

/-- where the turns begin: the ledger without what they hold -/
noncomputable def PostT (c : Cx) (target : Expr) (R : CLed) (s : Shared) (lm : Loc) (ki : List IV → Led → Led → Prop) (it : Value) (s₂ : Shared) : Prop :=
  ∃ items hold M₂ m led H O, Same s s₂ ∧ Fr c.h₀ c.env.locals s₂.heap m ∧ News c.h₀ c.env.locals s₂.heap ((R ++ H) ++ led) ∧ (((R ++ H) ++ led).map (·.1)).Nodup ∧ LocR lm m ∧ LedR c.prog c.w M₂ led ∧ LedR c.prog c.w hold H ∧
    Turns c target it items H O s₂.heap ∧ (∀ b ∈ O, b ≠ c.env.locals ∧ c.h₀.get? b = none ∧ b ∉ ((R ++ H) ++ led).map (·.1)) ∧ ki items hold M₂
noncomputable def Ti (c : Cx) (target iter : Expr) (lm : Loc) (M : Led) (ki : List IV → Led → Led → Prop) : Prop :=
  ∀ R s, Inv c R s.heap lm M → wpAny c.M c.A (eval iter c.env) (fun xv s₁ => wpAny c.M c.A (pyIter xv) (PostT c target R s lm ki) NoE s₁) NoE s

/-- an item stored at the target -/
noncomputable def TI (c : Cx) (target : Expr) (iv : IV) (lm : Loc) (M : Led) (ku : Loc → Led → Prop) : Prop :=
  ∀ v R s, iv.Is v s.heap → Inv c R s.heap lm M → wpAny c.M c.A (assign target c.env v) (fun _ s' => ∃ lm' M', Inv c R s'.heap lm' M' ∧ Same s s' ∧ ku lm' M') NoE s
theorem ti_one {target : Expr} {a : MV} (h : TA c target a lm M ku) : TI c target (.one a) lm M ku := fun v R s hv I => h v hv R s I
theorem ti_two (ok : c.Ok) {x y : Str} {px py pos : Pos} {n : Nat} {a b : MV} (hx : c.env.scope.names.lookup x = some .local) (hy : c.env.scope.names.lookup y = some .local) (h : ku (setL y b (setL x a lm)) M) :
    TI c (.Tuple [.Name x px, .Name y py] n pos) (.two a b) lm M ku := by
  rintro v R s ⟨T, u, w, rfl, ⟨o, ho, hc, n', hd⟩, ha, hb⟩ ⟨m, led, F, N, nd, l1, l2⟩
  refine unpackN_ F N (t := T) (items := #[u, w]) ⟨o, ho, hc, n', hd⟩ ok.r.1 rfl rfl fun h' F' N' => ?_
  have I' : Inv c R h' lm M := ⟨m, led, F', N', nd, l1, l2⟩
  refine wpNo (tas_cons (t := .Name x px) (ts := [assign (.Name y py) c.env]) (as := [b]) (ta_local ok hx (tas_cons (ta_local ok hy (tas_nil h)))) [u, w] ⟨ha, hb, trivial⟩ R { s with heap := h' } I') fun _ s' ⟨l, M', i, e, z⟩ => ⟨l, M', i, ⟨e.1, e.2.1, e.2.2⟩, z⟩

theorem own_of {h : Heap} : ∀ {O : List Addr}, (∀ b ∈ O, ∃ o, h.get? b = some o) → ∃ own : CLed, own.map (·.1) = O ∧ ∀ p ∈ own, h.get? p.1 = some p.2
  | [], _ => ⟨[], rfl, fun _ hp => nomatch hp⟩
  | b :: O, hl => by
    obtain ⟨o, ho⟩ := hl b (.head _)
    obtain ⟨own, e, h2⟩ := own_of (O := O) fun b hb => hl b (.tail _ hb)
    refine ⟨(b, o) :: own, by simp [e], fun p hp => ?_⟩
    rcases List.mem_cons.mp hp with rfl | hp
    · exact ho
    · exact h2 p hp

theorem st_for {target iter : Expr} {body : List Stmt} {pos : Pos} (hfold : ∀ x, foldedSetIterable iter c.env x = pure x)
    (h : Ti c target iter lm M fun items hold M₂ => ∃ J : Nat → Loc → Led → Prop, (∃ lm₀ M₀, Sub lm lm₀ ∧ Less M₂ M₀ ∧ J 0 lm₀ M₀) ∧
      (∀ i iv lm M, items[i]? = some iv → J i lm M → TI c target iv lm M fun lm' M' => Tf c (execs body c.env) lm' M' (JN J i) (KH kR hold)) ∧
      (∀ lm M, J items.length lm M → kN lm (hold ++ M))) : Tf c (exec (.For target iter body [] pos) c.env) lm M kN kR := by
  intro R s I
  refine wpAny_For (wpNo (h R s I) fun xv s₁ h₁ => wpNo h₁ fun it s₂ h₂ => ?_) hfold
  obtain ⟨items, hold, M₂, m₂, led₂, H, O, e₂, F₂, N₂, nd₂, l1₂, l2₂, lH, ⟨I, fp, wr, P, Md, St, rfl, W, hP, hfp, hwr, hlive, hOn, hst, _⟩, hO, J, ⟨lm₀, M₀, hsub, hless, hJ0⟩, turn, fin⟩ := h₂
  have wrO : ∀ b, b ∉ O → b ∉ wr := fun b hb h => hb (hwr b h)
  have start : Inv c (R ++ H) s₂.heap lm₀ M₀ := ((show Inv c (R ++ H) s₂.heap lm M₂ from ⟨m₂, led₂, F₂, N₂, nd₂, l1₂, l2₂⟩).locs hsub).less hless
  -- every state of the loop: the ledger off the iterator's own
  have offStart : ∃ m led, Fr c.h₀ c.env.locals s₂.heap m ∧ News c.h₀ c.env.locals s₂.heap ((R ++ H) ++ led) ∧ (((R ++ H) ++ led).map (·.1)).Nodup ∧ LocR lm₀ m ∧ LedR c.prog c.w M₀ led ∧ ∀ p ∈ (R ++ H) ++ led, p.1 ∉ O := by
    obtain ⟨X, p⟩ := hless
    obtain ⟨led', pl, l2'⟩ := l2₂.perm p
    obtain ⟨a, b, rfl, r1, r2⟩ := l2'.split
    have sub : ∀ q ∈ (R ++ H) ++ a, q ∈ (R ++ H) ++ led₂ := fun q hq => by
      rcases List.mem_append.mp hq with hq | hq
      · exact List.mem_append_left _ hq
      · exact List.mem_append_right _ (pl.mem_iff.mpr (List.mem_append_left _ hq))
    refine ⟨m₂, a, F₂, fun q hq => N₂ q (sub q hq), ?_, fun x v e => l1₂ x v (hsub x v e), r1, fun q hq hb => (hO _ hb).2.2 (List.mem_map.mpr ⟨q, sub q hq, rfl⟩)⟩
    have p2 : (((R ++ H) ++ led₂).map (·.1)).Perm (((R ++ H) ++ (a ++ b)).map (·.1)) := (pl.append_left (R ++ H)).map _
    have nd' := p2.nodup_iff.mp nd₂
    rw [← List.append_assoc, List.map_append] at nd'
    exact (List.nodup_append.mp nd').1
  obtain ⟨m₀, led₀, F₀, N₀, nd₀, l1₀, l2₀, off₀⟩ := offStart
  refine codeAny_forLoop_any
    (fun n s' => ∃ h' tk lm' M' m led i, s' = { s₂ with heap := h', toks := tk } ∧ St i h' ∧ Fr c.h₀ c.env.locals h' m ∧ News c.h₀ c.env.locals h' ((R ++ H) ++ led) ∧ (((R ++ H) ++ led).map (·.1)).Nodup ∧ LocR lm' m ∧ LedR c.prog c.w M' led ∧
      (∀ p ∈ (R ++ H) ++ led, p.1 ∉ O) ∧ J i lm' M' ∧ i ≤ items.length ∧ n = items.length + 1 - i) ?_ (items.length + 1)
    ⟨s₂.heap, s₂.toks, lm₀, M₀, m₀, led₀, 0, rfl, hst, F₀, N₀, nd₀, l1₀, l2₀, off₀, hJ0, Nat.zero_le _, rfl⟩
  rintro n s' ⟨h', tk, lm', M', m', led', i, rfl, hst', F', N', nd', l1', l2', off', hJ, hi, rfl⟩
  have keep : ∀ h₁ : Heap, (∀ b o, b ∉ wr → h'.get? b = some o → h₁.get? b = some o) → Fr c.h₀ c.env.locals h₁ m' ∧ News c.h₀ c.env.locals h₁ ((R ++ H) ++ led') := fun h₁ hk =>
    ⟨⟨F'.ns.at' fun o e => hk _ o (fun q => (hO _ (hwr _ q)).1 rfl) e, fun b o e => hk b o (fun q => by have := (hO _ (hwr _ q)).2.1; rw [e] at this; cases this) (F'.keep b o e), F'.above⟩,
      fun p hp => ⟨hk _ _ (wrO _ (off' p hp)) (N' p hp).1, (N' p hp).2⟩⟩
  by_cases hlt : i < items.length
  · refine W.item i _ _ _ hlt hst' fun v h₁ tk₁ hMd hk₁ => W.go i v _ _ _ hMd fun h₂ hPv hst₂ hk₂ => ?_
    obtain ⟨F₂', N₂'⟩ := keep h₂ fun b o hb e => hk₂ b o hb (hk₁ b o hb e)
    obtain ⟨iv, hiv, his⟩ := hP i v h₂ hPv
    obtain ⟨own, hown, hget⟩ := own_of (hlive (i + 1) h₂ hst₂)
    have nd3 : (((own ++ (R ++ H)) ++ led').map (·.1)).Nodup := by
      rw [List.append_assoc, List.map_append]
      refine List.nodup_append.mpr ⟨hown ▸ hOn, nd', fun a ha b hb e => ?_⟩
      subst e
      obtain ⟨q, hq, e⟩ := List.mem_map.mp hb
      rw [hown] at ha
      exact off' q hq (by rw [e]; exact ha)
    have N3 : News c.h₀ c.env.locals h₂ ((own ++ (R ++ H)) ++ led') := fun p hp => by
      rw [List.append_assoc] at hp
      rcases List.mem_append.mp hp with hp | hp
      · have hO' := hO p.1 (hown ▸ List.mem_map_of_mem hp)
        exact ⟨hget p hp, hO'.1, hO'.2.1⟩
      · exact N₂' p hp
    have I3 : Inv c (own ++ (R ++ H)) h₂ lm' M' := ⟨m', led', F₂', N3, nd3, l1', l2'⟩
    refine wpAnyE (turn i iv lm' M' hiv hJ v (own ++ (R ++ H)) { s₂ with heap := h₂, toks := tk₁ } his I3) fun _ s₃ zz => ?_
    obtain ⟨lm₃, M₃, I₃, e₃, hT⟩ := zz
    refine wpAnyE (hT _ s₃ I₃) fun f s₄ p => ?_
    cases f with
    | brk => exact p.elim
    | cont => exact p.elim
    | ret v =>
      obtain ⟨a, lm₄, M₄, ha, ⟨m₄, led₄, F₄, N₄, nd₄, l1₄, l2₄⟩, e₄, hk⟩ := p
      rw [List.append_assoc] at N₄ nd₄
      rw [List.map_append] at nd₄
      refine ⟨a, lm₄, hold ++ M₄, ha, ⟨m₄, H ++ led₄, F₄, fun p hp => N₄ p (List.mem_append_right _ (by rw [List.append_assoc]; exact hp)), ?_, l1₄, lH.append l2₄⟩, e₂.trans (Same.trans (s' := s₃) ⟨e₃.1, e₃.2.1, e₃.2.2⟩ e₄), hk⟩
      have := (List.nodup_append.mp nd₄).2.1
      rwa [List.append_assoc] at this
    | next =>
      obtain ⟨lm₄, M₄, I₄, e₄, lm₅, M₅, hs₅, hl₅, hJ₅⟩ := p
      obtain ⟨m₅, led₅, F₅, N₅, nd₅, l1₅, l2₅⟩ := (I₄.locs hs₅).less hl₅
      have e5 : Same { s₂ with heap := h₂, toks := tk₁ } s₄ := e₃.trans e₄
      refine ⟨items.length + 1 - (i + 1), by lia, s₄.heap, s₄.toks, lm₅, M₅, m₅, led₅, i + 1, e5.eq, ?_, F₅, fun p hp => N₅ p (by rw [List.append_assoc]; exact List.mem_append_right _ hp), ?_, l1₅, l2₅, fun p hp hb => ?_, hJ₅, hlt, rfl⟩
      · refine W.frame _ _ _ hst₂ fun b hb o e => ?_
        rcases hfp b hb with hb | hb
        · rw [← hown] at hb
          obtain ⟨q, hq, rfl⟩ := List.mem_map.mp hb
          have := hget q hq
          rw [e] at this; cases this
          exact (N₅ q (List.mem_append_left _ (List.mem_append_left _ hq))).1
        · obtain ⟨q, hq, rfl⟩ := List.mem_map.mp hb
          have := (N₂' q (List.mem_append_left _ (List.mem_append_right _ hq))).1
          rw [e] at this; cases this
          exact (N₅ q (List.mem_append_left _ (List.mem_append_right _ (List.mem_append_right _ hq)))).1
      · rw [List.append_assoc, List.map_append] at nd₅
        exact (List.nodup_append.mp nd₅).2.1
      · rw [List.append_assoc, List.map_append, hown] at nd₅
        exact (List.nodup_append.mp nd₅).2.2 _ hb _ (List.mem_map_of_mem hp) rfl
  · have hin : i = items.length := by lia
    subst hin
    refine W.done _ _ _ hst' fun h₁ tk₁ hk₁ => wpAny_execs_nil ?_
    obtain ⟨F₁, N₁⟩ := keep h₁ hk₁
    refine ⟨lm', hold ++ M', ⟨m', H ++ led', F₁, by rw [← List.append_assoc]; exact N₁, by rw [← List.append_assoc]; exact nd', l1', lH.append l2'⟩, e₂.trans .of, fin lm' M' hJ⟩

/-! ### sources -/
theorem ti_list (ok : c.Ok) {target iter : Expr} {ki : List IV → Led → Led → Prop}
    (h : Tv c (eval iter c.env) lm M fun a M₁ => ∃ l xs M₂, a = .ref l ∧ Less M₁ ((l, .lst xs) :: M₂) ∧ ki (xs.map .one) [(l, .lst xs)] M₂) : Ti c target iter lm M ki := by
  intro R s I
  refine h.use I fun a v M₁ s₁ ha I₁ e₁ ⟨l, xs, M₂, e, hless, hk⟩ => ?_
  subst e; cases ha
  obtain ⟨m, led, F, N, nd, l1, l2⟩ := I₁.less hless
  match led, l2 with
  | (l', o) :: led, l2 =>
    obtain ⟨⟨rfl, vs, n, rfl, hr, hz⟩, l2'⟩ := l2
    have hl := (N (l, listOf vs.toArray n) (List.mem_append_right _ (.head _))).1
    have hL : s₁.heap.IsList l vs.toArray := ⟨_, hl, rfl, n, rfl⟩
    have hlt : l < s₁.heap.objs.size := Heap.lt_size hl
    have hne : l ≠ s₁.heap.objs.size := Nat.ne_of_lt hlt
    refine wpAny_pyIter_list hL ?_
    refine ⟨xs.map .one, [(l, .lst xs)], M₂, m, led, [(l, listOf vs.toArray n)], [s₁.heap.objs.size], e₁.trans .of, F.push _, fun p hp => ?_, by simpa using nd, l1, l2', ⟨⟨rfl, vs, n, rfl, hr, hz⟩, trivial⟩, ?_, fun b hb => ?_, hk⟩
    · have hp' : p ∈ R ++ (l, listOf vs.toArray n) :: led := by simpa using hp
      exact ⟨Heap.get?_push_of_some _ (N p hp').1, (N p hp').2⟩
    · have hlen : vs.toArray.size = (xs.map IV.one).length := by simp [hr.length]
      have W := Walks.list (prog := c.prog) (w := c.w) ok.r.1 s₁.heap.objs.size l hne vs.toArray
      rw [hlen] at W
      refine ⟨s₁.heap.objs.size, _, _, _, _, _, rfl, KTurns.ofWalks W fun i v s Q E st q => letGo_listiter st.1 q, fun i v h' hp => ?_, fun b hb => ?_, fun b hb => hb, fun i h' st b hb => ?_, by simp, ⟨⟨_, Heap.get?_push_size _ rfl, rfl, rfl⟩, hL.at fun o e => Heap.get?_push_of_some _ e⟩, fun s Q E st q => W.self 0 s Q E st q⟩
      · have hv : vs[i]? = some v := by simpa using hp
        obtain ⟨a, ha, hrv⟩ := hr.get hv
        exact ⟨.one a, by simp [ha], hrv⟩
      · simp only [List.mem_cons, List.not_mem_nil, or_false] at hb ⊢
        rcases hb with rfl | rfl
        · exact .inl rfl
        · exact .inr (by simp)
      · rw [List.mem_singleton.mp hb]; obtain ⟨o, ho, _⟩ := st.1; exact ⟨o, ho⟩
    · rw [List.mem_singleton.mp hb]
      refine ⟨fun q => absurd F.ns.lt (q ▸ Nat.lt_irrefl _), next_is_new F, fun q => ?_⟩
      obtain ⟨p, hp, e⟩ := List.mem_map.mp q
      have hp' : p ∈ R ++ (l, listOf vs.toArray n) :: led := by simpa using hp
      exact absurd (Heap.lt_size (N p hp').1) (by rw [e]; exact Nat.lt_irrefl _)
end
end Mine
end

section
open PySem PySem.W PySem.Calls PyProof.Rows
set_option Elab.async false
set_option maxRecDepth 100000
set_option linter.unusedVariables false
namespace Mine

theorem callWith_Q {c : Cx} {lm : Loc} {M : Led} {R : CLed} {s : Shared} {Q : Value → Shared → Prop} (ok : c.Ok) {f : MV} {fv : Value} {pos pos' : Pos} {args : List Expr} (hf : RV f fv) (hc : Callable c.K f) (hp : (backTo pos' (starEach args c.env)).any (·.1) = false)
    (I : Inv c R s.heap lm M) {ks : List MV → Led → Prop} (h : Tvs c (spliced (backTo pos' (starEach args c.env))) lm M ks) (hq : ∀ as vs M₁ s₁, RVs as vs → Inv c R s₁.heap lm M₁ → Same s s₁ → ks as M₁ → wpAny c.M c.A (call fv vs []) Q NoE s₁) :
    wpAny c.M c.A (callWith pos fv [] (backTo pos' (starEach args c.env)) []) Q NoE s := by
  refine callWith_of (P := fun H => c.K.In H) (by rw [hp]; rfl) (fun H X => callable_looks hc hf c.M H X) ?_
  have main : wpAny c.M c.A (spliced (backTo pos' (starEach args c.env))) (fun vs s₁ => c.K.In s₁.heap ∧ wpAny c.M c.A (call fv ([] ++ vs) []) Q NoE s₁) NoE s :=
    h.use I fun as vs M₁ s₁ hs I₁ e₁ h₁ => ⟨I₁.kIn ok, hq as vs M₁ s₁ hs I₁ e₁ h₁⟩
  revert main hp
  generalize backTo pos' (starEach args c.env) = ts
  intro hp main
  match ts, hp with
  | [], _ => exact args_none main
  | (false, x) :: rest, _ => exact evalArgs_plain main
  | (true, x) :: rest, hp => simp at hp

section
variable {c : Cx} {lm : Loc} {M : Led} {k : MV → Led → Prop} {ku : Loc → Led → Prop} {kb : Bool → Led → Prop} {kN : Loc → Led → Prop} {kR : MV → Led → Prop}

theorem PostT.from {target : Expr} {R : CLed} {s s₁ : Shared} {ki : List IV → Led → Led → Prop} {it : Value} {s₂ : Shared} (e : Same s s₁) (p : PostT c target R s₁ lm ki it s₂) : PostT c target R s lm ki it s₂ := by
  obtain ⟨items, hold, M₂, m, led, H, O, e₂, r⟩ := p
  exact ⟨items, hold, M₂, m, led, H, O, e.trans e₂, r⟩

noncomputable def TIC (c : Cx) (target : Expr) (f : MV) (as : List MV) (lm : Loc) (M : Led) (ki : List IV → Led → Led → Prop) : Prop :=
  ∀ fv vs R s, RV f fv → RVs as vs → Inv c R s.heap lm M → wpAny c.M c.A (call fv vs []) (fun xv s₁ => wpAny c.M c.A (pyIter xv) (PostT c target R s lm ki) NoE s₁) NoE s
theorem ti_call (ok : c.Ok) {target : Expr} {x : Str} {p pos : Pos} {args : List Expr} {ki : List IV → Led → Led → Prop} (hs : args.any isStarred = false)
    (h : Tv c (eval (.Name x p) c.env) lm M fun f M₁ => Callable c.K f ∧ Tvs c (spliced (backTo pos (starEach args c.env))) lm M₁ fun as M₂ => TIC c target f as lm M₂ ki) : Ti c target (.Call (.Name x p) args [] pos) lm M ki := by
  intro R s I
  show wpAny c.M c.A (eval (.Name x p) c.env >>= fun fv => callWith pos fv [] (backTo pos (starEach args c.env)) []) _ _ s
  refine wpAny_bind (h.use I fun f fv M₁ s₁ hf I₁ e₁ h₁ => ?_)
  exact callWith_Q ok hf h₁.1 (plain_args pos c.env hs) I₁ h₁.2 fun as vs M₂ s₂ hv I₂ e₂ h₂ => wpNo (h₂ fv vs R s₂ hf hv I₂) fun xv s₃ h₃ => wpNo h₃ fun it s₄ p => p.from (e₁.trans e₂)

theorem letGo_name {prog : Program} {w : World} {A : Around} {E : Value → Shared → Prop} {x : Str} {p : Pos} {it v : Value} {s : Shared} {Q : Unit → Shared → Prop} (h : Q () s) : wpAny (model prog w) A (letOwnedTupleGo (.Name x p) it v) Q E s := wpAny_pure h

/-- the ints of a range -/
noncomputable def rng (a : Int) (n : Nat) (d : Int) : List Int := (List.range n).map fun (i : Nat) => a + (i : Int) * d

theorem turns_range (ok : c.Ok) {x : Str} {p : Pos} {R : CLed} {s : Shared} {r : Addr} {a b d : Int} {t u w : Tok} {n : Nat} {ki : List IV → Led → Led → Prop} (hr : IsRange s.heap r a b d t u w) (hsm : Builtin.Range.small a b d = true) (hn : Builtin.Range.rangeSize a b d = (n : Int))
    (I : Inv c R s.heap lm M) (h : ki ((rng a n d).map fun i => .one (.int i)) [] M) : wpAny c.M c.A (pyIter (.ref r)) (PostT c (.Name x p) R s lm ki) NoE s := by
  obtain ⟨m, led, F, N, nd, l1, l2⟩ := I
  refine wpAny_pyIter_range hr hsm ?_
  rw [hn]
  refine ⟨_, [], M, m, led, [], [s.heap.objs.size], .of, F.push _, fun p hp => ?_, by simpa using nd, l1, l2, trivial, ?_, fun b hb => ?_, h⟩
  · have hp' : p ∈ R ++ led := by simpa using hp
    exact ⟨Heap.get?_push_of_some _ (N p hp').1, (N p hp').2⟩
  · have W := Walks.range (prog := c.prog) (w := c.w) ok.r.1 s.heap.objs.size a d n
    have hlen : n = ((rng a n d).map fun i => IV.one (.int i)).length := by simp [rng]
    have KW := KTurns.ofWalks (target := .Name x p) W.bound fun i v s Q E st q => letGo_name q
    refine ⟨s.heap.objs.size, [s.heap.objs.size], [s.heap.objs.size], fun i v _ => i < n ∧ ∃ t, v = .int (a + i * d) t, fun i v h => (i < n ∧ ∃ t, v = .int (a + i * d) t) ∧ IsRangeIter h s.heap.objs.size (a + ((i + 1 : Nat) : Int) * d) ((n : Int) - ((i + 1 : Nat) : Int)) d, _, rfl, (by rw [← hlen]; exact KW), fun i v h' hp => ?_, fun b hb => .inl hb, fun b hb => hb, fun i h' st b hb => ?_, by simp, ?_, fun s Q E st q => W.self 0 s Q E st q⟩
    · obtain ⟨hi, t, rfl⟩ := hp
      exact ⟨.one (.int (a + i * d)), by simp [rng, hi], .int _ _⟩
    · rw [List.mem_singleton.mp hb]; exact ⟨_, st⟩
    · simpa using Heap.get?_push_size s.heap (o := { cls := .type "range_iterator", data := .fields #[rawInt a, rawInt (n : Int), rawInt d] }) rfl
  · rw [List.mem_singleton.mp hb]
    refine ⟨fun q => absurd F.ns.lt (q ▸ Nat.lt_irrefl _), next_is_new F, fun q => ?_⟩
    obtain ⟨p, hp, e⟩ := List.mem_map.mp q
    have hp' : p ∈ R ++ led := by simpa using hp
    exact absurd (Heap.lt_size (N p hp').1) (by rw [e]; exact Nat.lt_irrefl _)

theorem tic_range1 (ok : c.Ok) {x : Str} {p : Pos} {n : Int} {ki : List IV → Led → Led → Prop} (hn : -1000000 ≤ n ∧ n ≤ 100000000) (h : ki ((rng 0 n.toNat 1).map fun i => .one (.int i)) [] M) : TIC c (.Name x p) (.ty "range") [.int n] lm M ki := by
  intro fv vs R s hf hv I
  cases hf
  obtain ⟨v, rfl⟩ := len1 hv.length
  have := hv.1
  cases this
  have I' := I
  obtain ⟨m, led, F, N, nd, l1, l2⟩ := I
  refine range1_rows F N fun h' tk t₁ u₁ v₁ hr F' N' hk => ?_
  refine wpNo (turns_range (s := { s with heap := h', toks := tk }) ok (n := n.toNat) hr (small_one (by lia) (by lia) (by lia) (by lia)) ?_ ⟨m, led, F', N', nd, l1, l2⟩ h) fun it s₂ p => p.from .of
  rw [rangeSize_one]; split <;> lia

theorem rangeSize_down (a b : Int) : Builtin.Range.rangeSize a b (-1) = if b < a then a - b else 0 := by
  unfold Builtin.Range.rangeSize
  simp only [show ¬ (-1 : Int) > 0 by decide, if_false, show -(-1 : Int) = 1 by decide, Int.ediv_one]
  split <;> lia
theorem tic_down (ok : c.Ok) {x : Str} {p : Pos} {a : Int} {ki : List IV → Led → Led → Prop} (hn : -1 ≤ a ∧ a ≤ 1000000) (h : ki ((rng a (a + 1).toNat (-1)).map fun i => .one (.int i)) [] M) : TIC c (.Name x p) (.ty "range") [.int a, .int (-1), .int (-1)] lm M ki := by
  intro fv vs R s hf hv I
  cases hf
  obtain ⟨u, v, w, rfl⟩ := len3 hv.length
  obtain ⟨h1, h2, h3, _⟩ := hv
  cases h1; cases h2; cases h3
  obtain ⟨m, led, F, N, nd, l1, l2⟩ := I
  have hp : Builtin.divisionGoesByPylong (-1 - a) (-1) = false := PyProof.noPylong_small (by lia)
  refine range3_rows F N (by decide) (fun h' tk t₁ u₁ v₁ hr F' N' hk => ?_) (.inl hp)
  refine wpNo (turns_range (s := { s with heap := h', toks := tk }) ok (n := (a + 1).toNat) hr ?_ ?_ ⟨m, led, F', N', nd, l1, l2⟩ h) fun it s₂ p => p.from .of
  · unfold Builtin.Range.small
    rw [rangeSize_down]
    simp only [Builtin.Range.rangeFitsLong, Bool.and_eq_true, Bool.or_eq_true, decide_eq_true_eq, beq_iff_eq, show ¬ (-1 : Int) > 0 by decide, if_false]
    split <;> lia
  · rw [rangeSize_down]
    split <;> lia

end
end Mine
end

section
open PySem PySem.W PySem.Calls PyProof.Rows
set_option Elab.async false
set_option maxRecDepth 100000
set_option linter.unusedVariables false
namespace Mine
section
variable {c : Cx} {lm : Loc} {M : Led} {k : MV → Led → Prop} {ku : Loc → Led → Prop} {kb : Bool → Led → Prop} {kN : Loc → Led → Prop} {kR : MV → Led → Prop}

/-- nothing but more: the state after a step that only makes objects that nobody holds -/
theorem Inv.grow {R : CLed} {h h' : Heap} (I : Inv c R h lm M) (hk : ∀ b o, h.get? b = some o → h'.get? b = some o) : Inv c R h' lm M := by
  obtain ⟨m, led, F, N, nd, l1, l2⟩ := I
  exact ⟨m, led, F.keeps hk, fun p hp => ⟨hk _ _ (N p hp).1, (N p hp).2⟩, nd, l1, l2⟩

theorem tc_len {a : Addr} {xs : List MV} (ha : (a, MO.lst xs) ∈ M) (h : k (.int xs.length) M) : TC c (.bi "len") [.ref a] lm M k := by
  intro fv vs hf hv
  cases hf
  obtain ⟨v, rfl⟩ := len1 hv.length
  have := hv.1
  cases this
  exact call_len ha h
theorem tc_min2 (ok : c.Ok) {a b : Int} (h : k (.int (min a b)) M) : TC c (.bi "min") [.int a, .int b] lm M k := by
  intro fv vs hf hv R s I
  cases hf
  obtain ⟨u, v, rfl⟩ := len2 hv.length
  obtain ⟨h1, h2, _⟩ := hv
  cases h1; cases h2
  refine min_two_ints ok.r.1 fun h' tk hk => ?_
  rw [show min a b = if b < a then b else a by rw [Int.min_def]; split <;> split <;> lia] at h
  split
  · rename_i q; rw [if_pos q] at h; exact ⟨_, M, .int _ _, I.grow hk, .of, h⟩
  · rename_i q; rw [if_neg q] at h; exact ⟨_, M, .int _ _, I.grow hk, .of, h⟩
theorem tc_max2 (ok : c.Ok) {a b : Int} (h : k (.int (max a b)) M) : TC c (.bi "max") [.int a, .int b] lm M k := by
  intro fv vs hf hv R s I
  cases hf
  obtain ⟨u, v, rfl⟩ := len2 hv.length
  obtain ⟨h1, h2, _⟩ := hv
  cases h1; cases h2
  refine max_two_ints ok.r.1 fun h' tk hk => ?_
  rw [show max a b = if b > a then b else a by rw [Int.max_def]; split <;> split <;> lia] at h
  split
  · rename_i q; rw [if_pos q] at h; exact ⟨_, M, .int _ _, I.grow hk, .of, h⟩
  · rename_i q; rw [if_neg q] at h; exact ⟨_, M, .int _ _, I.grow hk, .of, h⟩
theorem tc_min3 (ok : c.Ok) {a b d : Int} (h : k (.int (min a (min b d))) M) : TC c (.bi "min") [.int a, .int b, .int d] lm M k := by
  intro fv vs hf hv R s I
  cases hf
  obtain ⟨u, v, w, rfl⟩ := len3 hv.length
  obtain ⟨h1, h2, h3, _⟩ := hv
  cases h1; cases h2; cases h3
  refine min_three_ints ok.r.1 fun h' tk hk => ?_
  have e : ∀ i, (i = min a (min b d)) → k (.int i) M := fun i q => q ▸ h
  split <;> split <;> exact ⟨_, M, .int _ _, I.grow hk, .of, e _ (by lia)⟩
theorem tc_abs {a : Int} (h : k (.int a.natAbs) M) : TC c (.bi "abs") [.int a] lm M k := by
  intro fv vs hf hv R s I
  cases hf
  obtain ⟨u, rfl⟩ := len1 hv.length
  obtain ⟨h1, _⟩ := hv
  cases h1
  refine call_abs_int fun u tk => ?_
  rw [show (a.natAbs : Int) = if a < 0 then -a else a by split <;> lia] at h
  exact ⟨_, M, .int _ _, I, .of, h⟩
theorem tc_list {a : Addr} {xs : List MV} (ha : (a, MO.lst xs) ∈ M) (h : ∀ q, k (.ref q) ((q, .lst xs) :: M)) : TC c (.ty "list") [.ref a] lm M k := by
  intro fv vs hf hv R s I
  cases hf
  obtain ⟨u, rfl⟩ := len1 hv.length
  obtain ⟨h1, _⟩ := hv
  cases h1
  obtain ⟨vs, n, _, hl, hr, hz, hn⟩ := I.lst ha
  obtain ⟨m, led, F, N, nd, l1, l2⟩ := I
  exact list_copyK F N hl (fun D cc h' F' N' hq => ⟨_, _, .ref _, Inv.newLst F' N' nd hq l1 l2 hr hz, .of, h _⟩) (by simpa [hn] using hz)
theorem tc_sorted {a : Addr} {ns : List Int} (ha : (a, MO.lst (ilst ns)) ∈ M) (h64 : ns.length < 64) (h : ∀ q ns', ns'.Perm ns → ns'.Pairwise (· ≤ ·) → k (.ref q) ((q, .lst (ilst ns')) :: M)) : TC c (.bi "sorted") [.ref a] lm M k := by
  intro fv vs hf hv R s I
  cases hf
  obtain ⟨u, rfl⟩ := len1 hv.length
  obtain ⟨h1, _⟩ := hv
  cases h1
  obtain ⟨vs, n, _, hl, hr, hz, hn⟩ := I.lst ha
  obtain ⟨m, led, F, N, nd, l1, l2⟩ := I
  refine kso_sorted F N hl (ints_are hr) h64 fun D vs' ns' cc h' F' N' hq hi hlen hp hs _ => ⟨_, _, .ref _, Inv.newLst F' N' nd hq l1 l2 (of_ints_are hi) ?_, .of, h _ ns' hp hs⟩
  have : (ilst ns').length = (ilst ns).length := by simp [ilst, hlen]
  rw [this]; exact hz
end
end Mine
end

section
open PySem PySem.W PySem.Calls PyProof.Rows
set_option Elab.async false
set_option maxRecDepth 100000
set_option linter.unusedVariables false
namespace Mine

theorem Does.frame {prog : Program} {w : World} {K : Frag} {f : MV} {d : Nat} {as : List MV} {M : Led} {P : MV → Led → Prop} (h : Does prog w K f d as M P) (X : Led) : Does prog w K f d as (M ++ X) (fun a M' => ∃ M₁, M' = M₁ ++ X ∧ P a M₁) := by
  intro A h₀ s fv args led a1 a2 a3 a4 a5 a6 l2 hat nd
  obtain ⟨la, lb, rfl, r1, r2⟩ := l2.split
  rw [List.map_append] at nd
  have nd' := List.nodup_append.mp nd
  refine codeAny_mono (h A h₀ s fv args la a1 a2 a3 a4 a5 a6 r1 (fun p hp => hat p (List.mem_append_left _ hp)) nd'.1) fun r s' z => ?_
  obtain ⟨v, a, M', led', e, b1, b2, b3, b4, b5, b6, b7⟩ := z
  have off : ∀ q ∈ lb, q.1 ∉ la.map (·.1) := fun q hq hm => nd'.2.2 q.1 hm q.1 (List.mem_map_of_mem hq) rfl
  refine ⟨v, a, M' ++ X, led' ++ lb, e, b1, b2.append r2, fun p hp => ?_, ?_, fun b o e hb => b5 b o e fun q => hb (by rw [List.map_append]; exact List.mem_append_left _ q), b6, M', rfl, b7⟩
  · rcases List.mem_append.mp hp with hp | hp
    · have z := b3 p hp
      exact ⟨z.1, z.2.imp id fun q => by rw [List.map_append]; exact List.mem_append_left _ q⟩
    · exact ⟨b5 _ _ (hat p (List.mem_append_right _ hp)).1 (off p hp), .inr (by rw [List.map_append]; exact List.mem_append_right _ (List.mem_map_of_mem hp))⟩
  · rw [List.map_append]
    refine List.nodup_append.mpr ⟨b4, nd'.2.1, fun x hx y hy q => ?_⟩
    subst q
    obtain ⟨p, hp, rfl⟩ := List.mem_map.mp hx
    obtain ⟨q, hq, e⟩ := List.mem_map.mp hy
    rcases (b3 p hp).2 with z | z
    · have := (hat q (List.mem_append_right _ hq)).1
      rw [e, z] at this; cases this
    · exact off q hq (e ▸ z)

theorem Does.deeper {prog : Program} {w : World} {K : Frag} {f : MV} {d d' : Nat} {as : List MV} {M : Led} {P : MV → Led → Prop} (h : Does prog w K f d as M P) (hd : d ≤ d') : Does prog w K f d' as M P := fun A h₀ s fv args led a1 =>
  h A h₀ s fv args led ⟨a1.1, by have := a1.2.1; lia, by have := a1.2.2; lia⟩

section
variable {c : Cx} {lm : Loc} {M : Led} {k : MV → Led → Prop} {ku : Loc → Led → Prop} {kb : Bool → Led → Prop} {kN : Loc → Led → Prop} {kR : MV → Led → Prop}

theorem Tv.less {t : Sem Value} {M₀ : Led} (p : Less M M₀) (h : Tv c t lm M₀ k) : Tv c t lm M k := fun R s I => h R s (I.less p)
theorem Tf.less {t : Sem Flow} {M₀ : Led} (p : Less M M₀) (h : Tf c t lm M₀ kN kR) : Tf c t lm M kN kR := fun R s I => h R s (I.less p)
theorem Tf.sub {t : Sem Flow} {lm₀ : Loc} (p : Sub lm lm₀) (h : Tf c t lm₀ M kN kR) : Tf c t lm M kN kR := fun R s I => h R s (I.locs p)
theorem TC.less {f : MV} {as : List MV} {M₀ : Led} (p : Less M M₀) (h : TC c f as lm M₀ k) : TC c f as lm M k := fun fv vs hf hv => (h fv vs hf hv).less p

theorem tc_frame (ok : c.Ok) {f : MV} {as : List MV} {n : Nat} {M₀ X : Led} {P : MV → Led → Prop} (h : Does c.prog c.w c.K f n as M₀ P) (hd : n ≤ c.d) (p : Less M (M₀ ++ X)) (hk : ∀ a M₁, P a M₁ → k a (M₁ ++ X)) : TC c f as lm M k :=
  .less p (tc_does ok (((h.deeper hd).frame X).mono fun a M' ⟨M₁, e, q⟩ => e ▸ hk a M₁ q))

/-! ### lists: one of the ledger picked -/
theorem pick_of {x : Addr × MO} : ∀ {M : Led}, x ∈ M → ∃ M₂, M.Perm (x :: M₂)
  | y :: M, h => by
    rcases List.mem_cons.mp h with rfl | h
    · exact ⟨M, .refl _⟩
    · obtain ⟨M₂, p⟩ := pick_of h
      exact ⟨y :: M₂, (p.cons y).trans (.swap ..)⟩

theorem tic_enumerate (ok : c.Ok) {es : List Expr} {kk : Nat} {pos : Pos} {l : Addr} {xs : List MV} {M₂ : Led} {ki : List IV → Led → Led → Prop} (hless : Less M ((l, .lst xs) :: M₂))
    (h : ki ((xs.zipIdx).map fun p => .two (.int (p.2 : Nat)) p.1) [(l, .lst xs)] M₂) : TIC c (.Tuple es kk pos) (.ty "enumerate") [.ref l] lm M ki := by
  intro fv vs R s hf hv I
  cases hf
  obtain ⟨u, rfl⟩ := len1 hv.length
  obtain ⟨h1, _⟩ := hv
  cases h1
  obtain ⟨m, led, F, N, nd, l1, l2⟩ := I.less hless
  match led, l2 with
  | (l', o) :: led, l2 =>
    obtain ⟨⟨rfl, vs, n, rfl, hr, hz⟩, l2'⟩ := l2
    have hl := (N (l, listOf vs.toArray n) (List.mem_append_right _ (.head _))).1
    have hlt : @LT.lt Nat _ l s.heap.objs.size := Heap.lt_size hl
    refine call_enumerate_1 hl fun h' he hit hsz hk => wpAny_pyIter_enum he ?_
    have F' : Fr c.h₀ c.env.locals h' m := F.keeps hk
    have new : ∀ b, s.heap.objs.size ≤ b → c.h₀.get? b = none := fun b hb => ktu_new F hb
    have ne1 : l ≠ s.heap.objs.size + 1 := neN (by lia)
    have ne2 : l ≠ s.heap.objs.size := neN (by lia)
    refine ⟨(xs.zipIdx).map fun p => .two (.int (p.2 : Nat)) p.1, [(l, .lst xs)], M₂, m, led, [(l, listOf vs.toArray n)], [s.heap.objs.size + 1, s.heap.objs.size], .of, F', fun p hp => ?_, by simpa using nd, l1, l2', ⟨⟨rfl, vs, n, rfl, hr, hz⟩, trivial⟩, ?_, fun b hb => ?_, h⟩
    · have hp' : p ∈ R ++ (l, listOf vs.toArray n) :: led := by simpa using hp
      exact ⟨hk _ _ (N p hp').1, (N p hp').2⟩
    · have hlen : vs.toArray.size = ((xs.zipIdx).map fun p => IV.two (.int (p.2 : Nat)) p.1).length := by simp [hr.length]
      have W := (WalksT.enumerate (prog := c.prog) (w := c.w) ok.r.1 (s.heap.objs.size + 1) s.heap.objs.size l (neN (by lia)) ne1 ne2 vs.toArray).toU
      rw [hlen] at W
      refine ⟨s.heap.objs.size + 1, _, _, _, _, _, rfl, KTurns.ofWalksU W, fun i v h' hp => ?_, fun b hb => ?_, fun b hb => hb, fun i h' st b hb => ?_, by simp, ⟨⟨.none, he⟩, hit, ⟨_, hk _ _ hl, rfl, n, rfl⟩⟩, fun s Q E st q => W.self 0 s Q E st q⟩
      · obtain ⟨T, vals, rfl, ⟨t, x, hx, rfl⟩, hT⟩ := hp
        obtain ⟨a, ha, hrv⟩ := hr.get (by simpa using hx)
        refine ⟨.two (.int (i : Nat)) a, ?_, T, _, _, rfl, hT, .int _ _, hrv⟩
        rw [List.getElem?_map, List.getElem?_zipIdx, ha]
        simp
      · simp only [List.mem_cons, List.not_mem_nil, or_false] at hb ⊢
        rcases hb with rfl | rfl | rfl
        · exact .inl (.inl rfl)
        · exact .inl (.inr rfl)
        · exact .inr (by simp)
      · simp only [List.mem_cons, List.not_mem_nil, or_false] at hb
        rcases hb with rfl | rfl
        · obtain ⟨⟨old, q⟩, _⟩ := st; exact ⟨_, q⟩
        · obtain ⟨_, ⟨o, ho, _⟩, _⟩ := st; exact ⟨o, ho⟩
    · have lt : ∀ p ∈ (R ++ [(l, listOf vs.toArray n)]) ++ led, @LT.lt Nat _ p.1 s.heap.objs.size := fun p hp => by
        have hp' : p ∈ R ++ (l, listOf vs.toArray n) :: led := by simpa using hp
        exact Heap.lt_size (N p hp').1
      have hb' : @LE.le Nat _ s.heap.objs.size b := by
        simp only [List.mem_cons, List.not_mem_nil, or_false] at hb
        rcases hb with rfl | rfl <;> lia
      refine ⟨fun q => ?_, new b hb', fun q => ?_⟩
      · have q1 : @LT.lt Nat _ c.env.locals s.heap.objs.size := F.ns.lt
        have q2 : @Eq Nat b c.env.locals := q
        lia
      · obtain ⟨p, hp, e⟩ := List.mem_map.mp q
        have q1 := lt p hp
        have q2 : @Eq Nat p.1 b := e
        lia

theorem tic_zip (ok : c.Ok) {es : List Expr} {kk : Nat} {pos : Pos} {l r : Addr} {xs ys : List MV} {M₂ : Led} {ki : List IV → Led → Led → Prop} (hless : Less M ((l, .lst xs) :: (r, .lst ys) :: M₂))
    (h : ki ((xs.zip ys).map fun p => .two p.1 p.2) [(l, .lst xs), (r, .lst ys)] M₂) : TIC c (.Tuple es kk pos) (.ty "zip") [.ref l, .ref r] lm M ki := by
  intro fv vs R s hf hv I
  cases hf
  obtain ⟨u, u', rfl⟩ := len2 hv.length
  obtain ⟨h1, h2, _⟩ := hv
  cases h1; cases h2
  obtain ⟨m, led, F, N, nd, l1, l2⟩ := I.less hless
  match led, l2 with
  | (l', o) :: (r', o') :: led, l2 =>
    obtain ⟨⟨rfl, vs, n, rfl, hr, hz⟩, ⟨rfl, ws, n', rfl, hr', hz'⟩, l2'⟩ := l2
    have hl := (N (l, listOf vs.toArray n) (List.mem_append_right _ (.head _))).1
    have hl' := (N (r, listOf ws.toArray n') (List.mem_append_right _ (.tail _ (.head _)))).1
    have hlt : @LT.lt Nat _ l s.heap.objs.size := Heap.lt_size hl
    have hlt' : @LT.lt Nat _ r s.heap.objs.size := Heap.lt_size hl'
    refine call_zip_2 (xs := vs.toArray) (ys := ws.toArray) ⟨_, hl, rfl, n, rfl⟩ ⟨_, hl', rfl, n', rfl⟩ fun h' hZ hP1 hP2 i1 i2 hsz hk => wpAny_pyIter_zip hZ ?_
    have F' : Fr c.h₀ c.env.locals h' m := F.keeps hk
    have new : ∀ b, s.heap.objs.size ≤ b → c.h₀.get? b = none := fun b hb => ktu_new F hb
    refine ⟨(xs.zip ys).map fun p => .two p.1 p.2, [(l, .lst xs), (r, .lst ys)], M₂, m, led, [(l, listOf vs.toArray n), (r, listOf ws.toArray n')], [s.heap.objs.size + 4, s.heap.objs.size + 2, s.heap.objs.size + 3, s.heap.objs.size, s.heap.objs.size + 1], .of, F', fun p hp => ?_, by simpa using nd, l1, l2',
      ⟨⟨rfl, vs, n, rfl, hr, hz⟩, ⟨rfl, ws, n', rfl, hr', hz'⟩, trivial⟩, ?_, fun b hb => ?_, h⟩
    · have hp' : p ∈ R ++ (l, listOf vs.toArray n) :: (r, listOf ws.toArray n') :: led := by simpa using hp
      exact ⟨hk _ _ (N p hp').1, (N p hp').2⟩
    · have hlen : min vs.toArray.size ws.toArray.size = ((xs.zip ys).map fun p => IV.two p.1 p.2).length := by simp [hr.length, hr'.length]
      have W := (WalksT.zip2 (prog := c.prog) (w := c.w) (A := c.A) ok.r.1 (s.heap.objs.size + 4) (s.heap.objs.size + 2) (s.heap.objs.size + 3) s.heap.objs.size (s.heap.objs.size + 1) l r (ktu_apart _ _ _ hlt hlt') vs.toArray ws.toArray).toU
      rw [hlen] at W
      refine ⟨s.heap.objs.size + 4, _, _, _, _, _, rfl, KTurns.ofWalksU W, fun i v h' hp => ?_, fun b hb => ?_, fun b hb => ?_, fun i h' st b hb => ?_, by simp, ⟨hZ, hP1, ⟨_, _, hP2⟩, i1, i2, ⟨_, hk _ _ hl, rfl, n, rfl⟩, ⟨_, hk _ _ hl', rfl, n', rfl⟩⟩, fun s Q E st q => W.self 0 s Q E st q⟩
      · obtain ⟨T, vals, rfl, ⟨x, y, hx, hy, rfl⟩, hT⟩ := hp
        obtain ⟨a, ha, hra⟩ := hr.get (by simpa using hx)
        obtain ⟨b, hb, hrb⟩ := hr'.get (by simpa using hy)
        refine ⟨.two a b, ?_, T, _, _, rfl, hT, hra, hrb⟩
        rw [List.getElem?_map, show (xs.zip ys)[i]? = some (a, b) from List.getElem?_zip_eq_some.mpr ⟨ha, hb⟩]
        rfl
      · simp only [List.mem_cons, List.not_mem_nil, or_false] at hb ⊢
        rcases hb with rfl | rfl | rfl | rfl | rfl | rfl | rfl <;> simp
      · simp only [List.mem_cons, List.not_mem_nil, or_false] at hb ⊢
        rcases hb with rfl | rfl | rfl | rfl <;> simp
      · obtain ⟨q1, q2, ⟨_, _, q3⟩, ⟨_, q4, _⟩, ⟨_, q5, _⟩, _⟩ := st
        simp only [List.mem_cons, List.not_mem_nil, or_false] at hb
        rcases hb with rfl | rfl | rfl | rfl | rfl
        · exact ⟨_, q1⟩
        · exact ⟨_, q2⟩
        · exact ⟨_, q3⟩
        · exact ⟨_, q4⟩
        · exact ⟨_, q5⟩
    · have lt : ∀ p ∈ (R ++ [(l, listOf vs.toArray n), (r, listOf ws.toArray n')]) ++ led, @LT.lt Nat _ p.1 s.heap.objs.size := fun p hp => by
        have hp' : p ∈ R ++ (l, listOf vs.toArray n) :: (r, listOf ws.toArray n') :: led := by simpa using hp
        exact Heap.lt_size (N p hp').1
      have hb' : @LE.le Nat _ s.heap.objs.size b := by
        simp only [List.mem_cons, List.not_mem_nil, or_false] at hb
        rcases hb with rfl | rfl | rfl | rfl | rfl <;> lia
      refine ⟨fun q => ?_, new b hb', fun q => ?_⟩
      · have q1 : @LT.lt Nat _ c.env.locals s.heap.objs.size := F.ns.lt
        have q2 : @Eq Nat b c.env.locals := q
        lia
      · obtain ⟨p, hp, e⟩ := List.mem_map.mp q
        have q1 := lt p hp
        have q2 : @Eq Nat p.1 b := e
        lia
end
end Mine
end

section
open PySem PySem.W PySem.Calls PyProof.Rows
set_option Elab.async false
set_option maxRecDepth 100000
set_option linter.unusedVariables false
namespace Mine

theorem RIs.length : ∀ {f : List (Int × MV)} {e : List (Int × Value)}, RIs f e → e.length = f.length
  | [], [], _ => rfl
  | _ :: _, _ :: _, h => by simp [RIs.length h.2.2]
  | [], _ :: _, h => h.elim
  | _ :: _, [], h => h.elim
theorem RIs.get {i : Int} {a : MV} : ∀ {f : List (Int × MV)} {e : List (Int × Value)}, RIs f e → f.lookup i = some a → ∃ v, valueAt e i = some v ∧ RV a v
  | (j, b) :: f, (j', v) :: e, h, hl => by
    have h1 : j' = j := h.1
    subst h1
    unfold valueAt
    rw [List.lookup_cons] at hl
    rw [List.find?_cons]
    by_cases q : i = j'
    · subst q
      simp only [beq_self_eq_true, Option.some.injEq] at hl
      subst hl
      exact ⟨v, by simp, h.2.1⟩
    · have q1 : (i == j') = false := beq_eq_false_iff_ne.mpr q
      simp only [q1] at hl
      have q2 : decide (j' = i) = false := decide_eq_false fun e => q e.symm
      simp only [q2]
      exact RIs.get h.2.2 hl
  | [], [], _, hl => nomatch hl
  | [], _ :: _, h, _ => h.elim
  | _ :: _, [], h, _ => h.elim
theorem RIs.miss {i : Int} : ∀ {f : List (Int × MV)} {e : List (Int × Value)}, RIs f e → f.lookup i = none → e.any (fun kv => kv.1 = i) = false
  | [], [], _, _ => rfl
  | (j, b) :: f, (j', v) :: e, h, hl => by
    have h1 : j' = j := h.1
    subst h1
    rw [List.lookup_cons] at hl
    by_cases q : i = j'
    · subst q; simp at hl
    · have q1 : (i == j') = false := beq_eq_false_iff_ne.mpr q
      simp only [q1] at hl
      have q2 : decide (j' = i) = false := decide_eq_false fun e => q e.symm
      rw [List.any_cons, q2, RIs.miss h.2.2 hl]; rfl
  | [], _ :: _, h, _ => h.elim
  | _ :: _, [], h, _ => h.elim
theorem RIs.app {i : Int} {a : MV} {v : Value} (ha : RV a v) : ∀ {f : List (Int × MV)} {e : List (Int × Value)}, RIs f e → RIs (f ++ [(i, a)]) (e ++ [(i, v)])
  | [], [], _ => ⟨rfl, ha, trivial⟩
  | _ :: _, _ :: _, h => ⟨h.1, h.2.1, RIs.app ha h.2.2⟩
  | [], _ :: _, h => h.elim
  | _ :: _, [], h => h.elim
theorem RIs.key {n : Nat} {i : Int} {x : Value} : ∀ {f : List (Int × MV)} {e : List (Int × Value)}, RIs f e → e[n]? = some (i, x) → (f.map (·.1))[n]? = some i := by
  induction n with
  | zero =>
    intro f e h q
    cases f <;> cases e <;> first | exact h.elim | (cases q; done) | (obtain ⟨h1, _⟩ := h; cases q; exact congrArg some h1.symm)
  | succ n ih =>
    intro f e h q
    cases f <;> cases e <;> first | exact h.elim | (cases q; done) | exact ih h.2.2 q

theorem ints_of_get : ∀ {ns : List Int} {vs : List Value}, vs.length = ns.length → (∀ (j : Nat) (v : Value), vs[j]? = some v → ∃ (i : Int) (t : Tok), ns[j]? = some i ∧ v = Value.int i t) → IntsAre vs ns
  | [], [], _, _ => .nil
  | n :: ns, v :: vs, hl, h => by
    obtain ⟨i, t, e, rfl⟩ := h 0 v rfl
    simp at e; subst e
    exact .cons _ _ (ints_of_get (by simpa using hl) fun j v hv => h (j + 1) v (by simpa using hv))
  | [], _ :: _, hl, _ => by simp at hl
  | _ :: _, [], hl, _ => by simp at hl

theorem sorted_uniq {a b : List Int} (p : a.Perm b) (ha : a.Pairwise (· ≤ ·)) (hb : b.Pairwise (· ≤ ·)) : a = b :=
  p.eq_of_pairwise (fun x y _ _ h1 h2 => Int.le_antisymm h1 h2) ha hb

theorem dict_notFreed {p : Program} {w : World} {o : Obj} {es : List (Int × Value)} (h : o.IsDictOf (intKind p w) es) : o.isFreed = false := by
  obtain ⟨_, _, _, e, _⟩ := h
  obtain ⟨a, b, d, f⟩ := o
  simp only at e
  subst e; rfl
theorem updF_nodup {d : Addr} {o : Obj} : ∀ {a b : CLed}, ((a ++ (d, o) :: b).map (·.1)).Nodup → UpdF d o (a ++ (d, o) :: b) (fun o' => a ++ (d, o') :: b)
  | [], b, nd => .head fun p hp e => by
    rw [List.nil_append, List.map_cons] at nd
    exact (List.nodup_cons.mp nd).1 (List.mem_map.mpr ⟨p, hp, e⟩)
  | x :: a, b, nd => by
    rw [List.cons_append, List.map_cons] at nd
    have q := List.nodup_cons.mp nd
    exact .tail (fun e => q.1 (List.mem_map.mpr ⟨(d, o), List.mem_append_right _ (.head _), e.symm⟩)) (updF_nodup q.2)
section
variable {c : Cx} {lm : Loc} {M : Led} {k : MV → Led → Prop} {ku : Loc → Led → Prop} {kb : Bool → Led → Prop} {kN : Loc → Led → Prop} {kR : MV → Led → Prop}

theorem Ground.low {K : Frag} {h₀ : Heap} (g : Ground K h₀) : h₀.NoLimit := by
  obtain ⟨_, _, _, _, _, T⟩ := g; exact T.nolimit
theorem ev_dict0 (ok : c.Ok) {pos : Pos} (h : ∀ q, (q == sysModules) = false → k (.ref q) ((q, .idict []) :: M)) : Tv c (eval (.Dict [] [] pos) c.env) lm M k := by
  intro R s I
  obtain ⟨m, led, F, N, nd, l1, l2⟩ := I
  exact newDict_K F N ok.g.low fun d h' o F' N' hq lo _ _ hI _ => ⟨_, _, .ref _, Inv.new (mo := .idict []) F' N' nd hq l1 l2 ⟨[], hI, trivial, by simp, dict_notFreed hI⟩, .of, h d lo⟩

theorem sub_dict {value slice : Expr} {d : Addr} {kvs : List (Int × MV)} {i : Int} {x : MV} (hd : (d, MO.idict kvs) ∈ M) (hx : kvs.lookup i = some x) (h : k x M) (hs : ∀ t, subscripted slice false (.ref d) (.int i t) = operate [.ref d, .int i t] (getItem (.ref d) (.int i t))) : T2 c (subscriptTail value slice) (.ref d) (.int i) lm M k := by
  rintro _ v2 ⟨⟩ hv2 R s I
  obtain ⟨t, rfl⟩ : ∃ t, v2 = .int i t := by cases hv2; exact ⟨_, rfl⟩
  have I' := I
  obtain ⟨m, led, F, N, nd, l1, l2⟩ := I
  obtain ⟨o, ho, es, hD, hr, _, _⟩ := l2.mem hd
  obtain ⟨v, hv, hrv⟩ := hr.get hx
  have hD' := kda_dict N (List.mem_append_right _ ho) hD
  exact tail_any hD'.typeIs slot_dict_getitem.lookup (wpAny_getItem_of (k := i) (by simp [intKind, Value.isInt]) hD'.mapOf hv ⟨_, M, hrv, I'.grow (fun _ _ e => e), .of, h⟩) (hs t)

theorem set_dict {d : Addr} {kvs : List (Int × MV)} {i : Int} {a : MV} {M' : Led} (U : Up d (.idict kvs) (.idict (kvs ++ [(i, a)])) M M') (hx : kvs.lookup i = none) (hz : kvs.length < 100) (h : ku lm M') :
    ∀ u v w, RV (.ref d) u → RV (.int i) v → RV a w → Tu c (setItem u v w) lm M ku := by
  intro u v w hu hv hw R s I
  cases hu; cases hv
  obtain ⟨m, la, lb, o, F, N, nd, l1, ⟨es, hD, hr, hz', hf⟩, back⟩ := I.up U
  have hlen := hr.length
  refine kda_set F N (k := i) (updF_nodup nd) hD (by simp [intKind, Value.isInt]) (by rw [sizeLine_eq]; lia) fun h' o' F' N' hD' => ⟨lm, M', back h' o' F' N' ⟨_, hD', ?_, ?_, ?_⟩, .of, h⟩
  · unfold stored; rw [hr.miss hx]; exact hr.app hw
  · simp; lia
  · exact dict_notFreed hD'

theorem tc_sorted_dict (ok : c.Ok) {d : Addr} {kvs : List (Int × MV)} (hd : (d, MO.idict kvs) ∈ M) (lo : (d == sysModules) = false) (h64 : kvs.length < 64) (hs : (kvs.map (·.1)).Pairwise (· ≤ ·))
    (h : ∀ q, k (.ref q) ((q, .lst (ilst (kvs.map (·.1)))) :: M)) : TC c (.bi "sorted") [.ref d] lm M k := by
  intro fv vs hf hv R s I
  cases hf
  obtain ⟨u, rfl⟩ := len1 hv.length
  obtain ⟨h1, _⟩ := hv
  cases h1
  obtain ⟨m, led, F, N, nd, l1, l2⟩ := I
  obtain ⟨o, ho, es, hD, hr, _, _⟩ := l2.mem hd
  have hlen := hr.length
  have hat := (N _ (List.mem_append_right _ ho)).1
  obtain ⟨ep, hDA⟩ := Heap.DictOf.dictAt (Heap.dictOf_iff.mpr ⟨o, hat, hD⟩)
  refine kdu_sorted (kdl_dict lo) ok.r.1 F N hDA (by rw [sizeLine_eq]; lia) fun D h' tk ws F' N' hq hw hP => ?_
  have hI : IntsAre ws (kvs.map (·.1)) := ints_of_get (by simp [hw, hlen]) fun j v hj => by
    obtain ⟨i, x, e, hk⟩ := hP j v hj
    obtain ⟨t, rfl⟩ : ∃ t, v = .int i t := by
      have := Value.isInt_shape hk; exact this
    exact ⟨i, t, hr.key e, rfl⟩
  have z := N' (D, listOf ws.toArray 0) (.head _)
  refine wpAny_call_entry PyProof.Rows.slot_list_sort ⟨_, z.1, rfl⟩ PyProof.Rows.entry_list_sort (list_sort_tree (n := 0) (vs := ws) z.1 hI (by simp [hw, hlen]; lia) fun out ns' hI' hp hP' => ⟨.none, rfl, ?_⟩) (PyProof.Rows.args_list_sort _)
  have e : ns' = kvs.map (·.1) := sorted_uniq hp hP' hs
  subst e
  obtain ⟨ee, he⟩ := sortedHeap_at (out := out) z.1
  have keep : ∀ b o, b ≠ D → h'.get? b = some o → (sortedHeap h' D ws out).get? b = some o := fun b o hb e => (sortedHeap_old hb (Heap.lt_size e)).trans e
  have hD0 : ∀ b o, c.h₀.get? b = some o → b ≠ D := fun b o e q => by have := z.2.2; rw [← q, e] at this; cases this
  refine ⟨_, _, .ref D, Inv.newLst (n := ee) (vs := out.toList) (F := ⟨F'.ns.at' fun o e => keep _ o (Ne.symm z.2.1) e, fun b o e => keep b o (hD0 b o e) (F'.keep b o e), F'.above⟩) ?_ nd hq l1 l2 (of_ints_are hI') ?_, .of, h D⟩
  · intro p hp'
    rcases List.mem_cons.mp hp' with rfl | hp'
    · exact ⟨he, z.2⟩
    · have y := N' p (.tail _ hp')
      exact ⟨keep _ _ (Nat.ne_of_lt (hq p hp')) y.1, y.2⟩
  · simp only [ilst, List.length_map]; rw [sizeLine_eq]; lia
end
end Mine
end

section
open PySem PySem.W PySem.Calls PyProof.Rows
set_option Elab.async false
set_option maxRecDepth 100000
set_option linter.unusedVariables false
namespace Mine

noncomputable def sliceObj (l u : Value) : Obj := { cls := .type "slice", data := .fields #[l, u, .none] }
/-- a part of a list in another list's place -/
noncomputable def patch {α : Type} (xs new : List α) (lo hi : Option Int) : List α := xs.take (kms_lo lo xs.length) ++ new ++ xs.drop (max (kms_lo lo xs.length) (kms_hi hi xs.length))
theorem patch_array (xs new : Array Value) (lo hi : Option Int) : xs.extract 0 ((kms_lo lo xs.size : Nat) : Int).toNat ++ new ++ xs.extract (max ((kms_lo lo xs.size : Nat) : Int) ((kms_hi hi xs.size : Nat) : Int)).toNat xs.size = (patch xs.toList new.toList lo hi).toArray := by
  apply Array.toList_inj.mp
  unfold patch
  rw [show (max ((kms_lo lo xs.size : Nat) : Int) ((kms_hi hi xs.size : Nat) : Int)).toNat = max (kms_lo lo xs.size) (kms_hi hi xs.size) by lia]
  simp only [Array.toList_append, Array.toList_extract, Int.toNat_natCast, Array.length_toList, List.extract_eq_take_drop]
  simp [List.take_of_length_le]
theorem RVs.patch {as bs : List MV} {vs ws : List Value} (h : RVs as vs) (h' : RVs bs ws) (lo hi : Option Int) : RVs (patch as bs lo hi) (Mine.patch vs ws lo hi) := by
  unfold Mine.patch
  rw [h.length]
  exact ((h.take _).append h').append (h.drop _)

section
variable {c : Cx} {lm : Loc} {M : Led} {k : MV → Led → Prop} {ku : Loc → Led → Prop} {kb : Bool → Led → Prop} {kN : Loc → Led → Prop} {kR : MV → Led → Prop}

theorem ev_sliceobj {lo hi : Option Expr} {p : Pos}
    (h : Tv c (evalPart lo c.env) lm M fun a M₂ => Tv c (evalPart hi c.env) lm M₂ fun b M₃ => ∃ pa pb, partOf a = some pa ∧ partOf b = some pb ∧ ∀ q l u, IsPart l pa → IsPart u pb → k (.ref q) ((q, .raw (sliceObj l u)) :: M₃)) :
    Tv c (eval (.Slice lo hi none p) c.env) lm M k := by
  intro R s I
  refine wpAny_Slice (h.use I fun a va M₂ s₂ ha I₂ e₂ h₂ => h₂.use I₂ fun b vb M₃ s₃ hb I₃ e₃ h₃ => evalPart_none_step ?_)
  obtain ⟨pa, pb, ea, eb, hk⟩ := h₃
  exact ⟨_, _, .ref _, I₃.push (mo := .raw (sliceObj va vb)) rfl rfl, (e₂.trans e₃).trans .of, hk _ _ _ (isPart ha ea) (isPart hb eb)⟩

theorem set_slice {l q v : Addr} {lv uv : Value} {pa pb : Option Int} {xs ys : List MV} {M' : Led} (hq : (q, MO.raw (sliceObj lv uv)) ∈ M) (pl : IsPart lv pa) (pu : IsPart uv pb) (hv : (v, MO.lst ys) ∈ M) (hne : (l == v) = false)
    (U : Up l (.lst xs) (.lst (patch xs ys pa pb)) M M') (hz : xs.length + ys.length ≤ sizeLine) (h : ku lm M') :
    ∀ u i w, RV (.ref l) u → RV (.ref q) i → RV (.ref v) w → Tu c (setItem u i w) lm M ku := by
  intro u i w hu hi hw R s I
  cases hu; cases hi; cases hw
  obtain ⟨ws, n', hvo, hvl, hrv, _, hvn⟩ := I.lst hv
  obtain ⟨os, hos, hoe⟩ := I.mem hq
  have hoe : os = sliceObj lv uv := hoe
  subst hoe
  obtain ⟨m, la, lb, o, F, N, nd, l1, ⟨us, n, rfl, hr, hz'⟩, back⟩ := I.up U
  have hlen := hr.length
  have hm := N (l, listOf us.toArray n) (List.mem_append_right _ (.head _))
  have hl : s.heap.IsList l us.toArray := ⟨_, hm.1, rfl, n, rfl⟩
  have hTs : s.TypeIs (.ref q) "slice" := ⟨_, hos, rfl⟩
  unfold setItem
  try with_reducible refine wpAny_holding ?_
  first | refine wpAny_bind (wpAny_pure ?_) | skip
  refine wpAny_bind (wpAny_sequenceKey hl.typeIs (by decide) ?_)
  refine wpAny_bind (wpAny_callSpecial?_slot (name := Str.ofString "__setitem__") hl.typeIs slot_list_setitem
    (wpAny_call_entry slot_list_setitem hl.typeIs entry_list_setitem ?_ (args_list_setitem _ _ _)))
  show wpAny _ _ (Builtin.List.listSubscript? (.ref q) >>= _) _ _ s
  refine wpAny_bind ?_
  unfold Builtin.List.listSubscript?
  refine wpAny_bind (wpAny_specialOf hTs slice_no_index ?_)
  simp only [Option.isNone_none, if_true]
  refine wpAny_pure ?_
  show wpAny _ _ (typeOf (.ref q) >>= _) _ _ s
  refine wpAny_bind (wpAny_typeOf hTs ?_)
  rw [if_neg (by decide)]
  rw [listSliceParts_eq]
  refine wpAny_bind (wpAny_bind (wpAny_field hos rfl (x := .none) rfl (wpAny_bind (wpAny_listPart .none ?_))))
  rw [if_neg (show ¬ ((rawPart none == rawInt 0) = true) from Bool.false_ne_true)]
  refine wpAny_bind (wpAny_field hos rfl (x := lv) rfl (wpAny_bind (wpAny_listPart pl ?_)))
  refine wpAny_bind (wpAny_field hos rfl (x := uv) rfl (wpAny_bind (wpAny_listPart pu (wpAny_pure ?_))))
  dsimp only
  rw [show Builtin.List.listSameRef (.ref l) (.ref v) = false from hne]
  simp only [Bool.false_eq_true, if_false]
  refine wpAny_bind ?_
  unfold Builtin.List.listAllItems
  refine wpAny_bind (wpAny_typeOf hvl.typeIs ?_)
  simp only [beq_self_eq_true, Bool.true_or, if_true]
  unfold Builtin.List.listItems
  refine wpAny_bind (wpAny_seqItems hvo rfl (wpAny_pure ?_))
  refine wpAny_bind (m := Builtin.List.listItems (.ref l)) ?_
  unfold Builtin.List.listItems
  refine wpAny_bind (wpAny_seqItems hm.1 rfl (wpAny_pure ?_))
  refine wpAny_bind (wpAny_of_eq (sliceIndices_raw pa pb none us.toArray.size (by simp)) ?_)
  rw [kms_bounds]
  dsimp only
  simp only [beq_self_eq_true, if_true]
  refine wpAny_bind (wpAny_rule ?_)
  rw [if_neg (by unfold Builtin.List.listTooLong; simp [hlen, hvn]; lia)]
  have hps : (patch us ws pa pb).length ≤ sizeLine := by
    unfold patch
    simp only [List.length_append, List.length_take, List.length_drop]
    lia
  refine wpAny_bind ?_
  show wpAny _ _ (updateSeq l _) _ _ s
  refine wpAny_updateSeq hm.1 rfl ?_ (by simpa [hlen] using hz') (by rw [patch_array]; simpa using Nat.le_succ_of_le hps)
  refine wpAny_bind (wpAny_letGo ?_)
  refine wpAny_pure ⟨.none, rfl, wpAny_pure ?_⟩
  have hs : Heap.SameBut l s.heap (s.heap.update l (Obj.mapSeq fun xs => xs.extract 0 ((kms_lo pa us.toArray.size : Nat) : Int).toNat ++ ws.toArray ++ xs.extract (max ((kms_lo pa us.toArray.size : Nat) : Int) ((kms_hi pb us.toArray.size : Nat) : Int)).toNat)) := Heap.SameBut.update ..
  have hn : ∃ n'', (s.heap.update l (Obj.mapSeq fun xs => xs.extract 0 ((kms_lo pa us.toArray.size : Nat) : Int).toNat ++ ws.toArray ++ xs.extract (max ((kms_lo pa us.toArray.size : Nat) : Int) ((kms_hi pb us.toArray.size : Nat) : Int)).toNat)).get? l = some (listOf (patch us ws pa pb).toArray n'') := by
    have e := get?_update_seq (c := "list") (xs := us.toArray) (n := n) hm.1 (fun xs => xs.extract 0 ((kms_lo pa us.toArray.size : Nat) : Int).toNat ++ ws.toArray ++ xs.extract (max ((kms_lo pa us.toArray.size : Nat) : Int) ((kms_hi pb us.toArray.size : Nat) : Int)).toNat)
    dsimp only at e
    rw [patch_array] at e
    exact ⟨_, e⟩
  obtain ⟨n'', hn⟩ := hn
  have dis : ∀ p ∈ la ++ lb, p.1 ≠ l := by
    intro p hp e
    rw [List.map_append, List.map_cons] at nd
    have nd' := List.nodup_append.mp nd
    rcases List.mem_append.mp hp with hp | hp
    · exact nd'.2.2 p.1 (List.mem_map_of_mem hp) l (List.mem_cons_self ..) e
    · exact (List.nodup_cons.mp nd'.2.1).1 (List.mem_map.mpr ⟨p, hp, e⟩)
  refine ⟨lm, M', back _ _ (F.change hs hm.2.1 hm.2.2) (fun p hp => ?_) ⟨_, n'', rfl, hr.patch hrv pa pb, ?_⟩, .of, h⟩
  · rcases List.mem_append.mp hp with hp | hp
    · have z := N p (List.mem_append_left _ hp)
      exact ⟨(hs.2 _ (dis p (List.mem_append_left _ hp))).trans z.1, z.2⟩
    · rcases List.mem_cons.mp hp with rfl | hp
      · exact ⟨hn, hm.2⟩
      · have z := N p (List.mem_append_right _ (.tail _ hp))
        exact ⟨(hs.2 _ (dis p (List.mem_append_right _ hp))).trans z.1, z.2⟩
  · unfold patch
    simp only [List.length_append, List.length_take, List.length_drop]
    lia
end
end Mine
end

section
open PySem PySem.W PySem.Calls PyProof.Rows
set_option Elab.async false
set_option maxRecDepth 100000
set_option linter.unusedVariables false
namespace Mine

section
variable {prog : Program} {w : World} {A : Around} {E : Value → Shared → Prop} {s : Shared}
theorem compLoop_gen {elt target iter : Expr} {scope : Scope} {pos : Pos} {it acc : Value} {env : Env} {R : Result → Shared → Prop} (I : Nat → Shared → Prop)
    (turn : ∀ n s, I n s → wpAny (model prog w) A (pyNext it) (fun r s₁ => match r with
      | none => R (.ok .next) s₁
      | some v => wpAny (model prog w) A (letOwnedTupleGo target it v) (fun _ s₁' => wpAny (model prog w) A (assign target env v) (fun _ s₂ =>
          wpAny (model prog w) A (eval elt env) (fun x s₄ =>
              wpAny (model prog w) A (call (.builtin "list.append") [acc, x]) (fun _ s₅ => ∃ m, m < n ∧ I m s₅) (notedBy (model prog w) A env fun e s' => R (.error e) s') s₄) (notedBy (model prog w) A env fun e s' => R (.error e) s') s₂)
          (notedBy (model prog w) A env fun e s' => R (.error e) s') s₁') (notedBy (model prog w) A env fun e s' => R (.error e) s') s₁) (notedBy (model prog w) A env fun e s' => R (.error e) s') s)
    (n : Nat) (h : I n s) : codeAny (model prog w) A (.compLoop (.ListComp elt [⟨target, iter, [], 0⟩] scope pos) 0 it acc env) R s := by
  refine codeAny_loop rfl I (fun n s hI => ?_) n h
  show wpAny _ A ((compTurn (.ListComp elt [⟨target, iter, [], 0⟩] scope pos) 0 it acc env).onRaise (fun x => do noteFrame x env; theTreesLotGoes x)) _ _ s
  refine wpAny_noted ?_
  rw [compTurn_list]
  refine wpAny_bind (wpAny_standAt (wpAny_bind (wpAny_mono (turn n s hI) (fun r s₁ h₁ => ?_) fun _ _ h' => h')))
  cases r with
  | none => exact wpAny_pure h₁
  | some v =>
    refine wpAny_bind (wpAny_mono h₁ (fun _ s₁' h₁' => ?_) fun _ _ h' => h')
    refine wpAny_bind (wpAny_mono h₁' (fun _ s₂ h₂ => wpAny_bind (wpAny_mono (wpAny_tests_nil (Q := fun ok s₃ => ok = true ∧ s₃ = s₂) ⟨rfl, rfl⟩) (fun ok s₃ h₃ => ?_) fun _ _ h' => h')) fun _ _ h' => h')
    obtain ⟨rfl, rfl⟩ := h₃
    exact wpAny_bind (wpAny_bind (wpAny_mono h₂ (fun x s₄ h₄ => wpAny_bind (wpAny_mono h₄ (fun _ s₅ h₅ => wpAny_pure (wpAny_pure ⟨rfl, h₅⟩)) fun _ _ h' => h')) fun _ _ h' => h'))
end

/-- the block of a comprehension -/
noncomputable def Cx.comp (c : Cx) (scope : Scope) (cl : List (Str × Addr)) (C : Addr) (h₀ : Heap) : Cx := ⟨c.prog, c.w, c.K, c.A, compEnvC scope cl C c.env, h₀, c.d⟩

section
variable {c : Cx} {lm : Loc} {M : Led} {k : MV → Led → Prop} {ku : Loc → Led → Prop} {kb : Bool → Led → Prop} {kN : Loc → Led → Prop} {kR : MV → Led → Prop}

/-- what a comprehension needs of its turns -/
noncomputable def CompT (c : Cx) (target elt : Expr) (scope : Scope) (cl : List (Str × Addr)) (items : List IV) (hold M₂ : Led) (fin : List MV → Led → Prop) : Prop :=
  items.length ≤ sizeLine ∧ ∃ J : Nat → List MV → Led → Prop, (∃ M₀, Less M₂ M₀ ∧ J 0 [] M₀) ∧
    (∀ (C : Addr) (h₀ : Heap) i iv acc M, (c.comp scope cl C h₀).Ok → items[i]? = some iv → J i acc M → TI (c.comp scope cl C h₀) target iv [] M fun lm' M' => Tv (c.comp scope cl C h₀) (eval elt (compEnvC scope cl C c.env)) lm' M' (JC J i acc)) ∧
    (∀ acc M, J items.length acc M → acc.length = items.length → fin acc (hold ++ M))

theorem comp_core (ok : c.Ok) {target elt iter : Expr} {scope : Scope} {cl : List (Str × Addr)} {pos : Pos} {R : CLed} {s s₂ : Shared} {it : Value} {fin : List MV → Led → Prop} {RR : Value → Addr → Result → Shared → Prop} {E : Value → Shared → Prop}
    (hcell : ∀ y ∈ scope.names, y.2 ≠ .cell) (hkind : scope.kind = .function)
    (hT : PostT c target R s lm (fun items hold M₂ => CompT c target elt scope cl items hold M₂ fin) it s₂)
    (hRR : ∀ (D C : Addr) (h' : Heap) (tk : Nat) (m m' : Str → Option Value) (acc : List MV) (M' : Led) (oD : Obj) (led : CLed), Fr c.h₀ c.env.locals h' m → News c.h₀ c.env.locals h' ((D, oD) :: (R ++ led)) → (((D, oD) :: (R ++ led)).map (·.1)).Nodup → LocR lm m →
      LedR c.prog c.w ((D, .lst acc) :: M') ((D, oD) :: led) → h'.Ns C m' → c.h₀.get? C = none → C ≠ c.env.locals → (∀ p ∈ (D, oD) :: (R ++ led), p.1 ≠ C) → fin acc M' → Same s s₂ → RR (.ref D) C (.ok .next) { s₂ with heap := h', toks := tk }) :
    wpAny c.M c.A (newList []) (fun acc s₃ => wpAny c.M c.A (newFunctionEnv scope c.env.globals cl [] c.env.qual none .none (some c.env)) (fun cenv s₄ =>
      codeAny c.M c.A (.compStart (.ListComp elt [⟨target, iter, [], 0⟩] scope pos) 0 it acc { cenv with scope := relabel scope c.env }) (RR acc cenv.locals) s₄) E s₃) E s₂ := by
  obtain ⟨items, hold, M₂, m₂, led₂, H, O, e₂, F₂, N₂, nd₂, l1₂, l2₂, lH, ⟨I, fp, wr, P, Md, St, rfl, W, hP, hfp, hwr, hlive, hOn, hst, hself⟩, hO, hsz, J, ⟨M₀, hless, hJ0⟩, turn, finish⟩ := hT
  refine wpAny_newObj_type (wpAny_newFunctionEnv hcell (by intro y hy; simp at hy) (fun h₁ hns₁ hsb₁ => ?_) hkind)
  dsimp only at hns₁ hsb₁ ⊢
  generalize hH2 : s₂.heap.push { cls := .type "list", dict := none, data := .seq ([] : List Value).toArray } = H2 at hns₁ hsb₁ ⊢
  have hC : H2.objs.size = s₂.heap.objs.size + 1 := by rw [← hH2, Heap.size_push]
  generalize hDn : s₂.heap.objs.size = D at hC ⊢
  generalize hCn : H2.objs.size = C at hC hns₁ hsb₁ ⊢
  have hDC : D ≠ C := by rw [hC]; exact Nat.ne_of_lt (Nat.lt_succ_self _)
  have ltD : ∀ b o, s₂.heap.get? b = some o → b ≠ D ∧ b ≠ C := fun b o e => by
    have h1 : @LT.lt Nat _ b D := hDn ▸ Heap.lt_size e
    have h2 : @Eq Nat C (D + 1) := hC
    exact ⟨neN (by lia), neN (by lia)⟩
  have old : ∀ b o, s₂.heap.get? b = some o → h₁.get? b = some o := fun b o e => hsb₁.extBut b o (ltD b o e).2 (Heap.get?_push_of_some _ (hH2 ▸ Heap.get?_push_of_some _ e))
  have hacc : h₁.get? D = some (listOf ([] : List Value).toArray 0) := hsb₁.extBut _ _ hDC (Heap.get?_push_of_some _ (hH2 ▸ hDn ▸ Heap.get?_push_size _ rfl))
  have noneD : ∀ b : Addr, b = D ∨ b = C → s₂.heap.get? b = none := fun b hb => by
    cases e : s₂.heap.get? b with
    | none => rfl
    | some o => rcases hb with rfl | rfl
                · exact absurd rfl (ltD _ o e).1
                · exact absurd rfl (ltD _ o e).2
  have none0 : ∀ b, s₂.heap.get? b = none → c.h₀.get? b = none := fun b hb => by
    cases e : c.h₀.get? b with
    | none => rfl
    | some o => have := F₂.keep b o e; rw [hb] at this; cases this
  -- what stands around
  let hid : List Addr := O ++ ((R ++ H) ++ led₂).map (·.1)
  let base : Heap := hideAll s₂.heap hid
  have hidNo : ∀ b, c.h₀.get? b ≠ none → b ∉ hid := fun b hb hm => by
    rcases List.mem_append.mp hm with hm | hm
    · exact hb (hO b hm).2.1
    · obtain ⟨p, hp, rfl⟩ := List.mem_map.mp hm; exact hb (N₂ p hp).2.2
  have locNo : c.env.locals ∉ hid := fun hm => by
    rcases List.mem_append.mp hm with hm | hm
    · exact (hO _ hm).1 rfl
    · obtain ⟨p, hp, e⟩ := List.mem_map.mp hm; exact (N₂ p hp).2.1 e
  have sub₀ : ∀ b o, c.h₀.get? b = some o → base.get? b = some o := fun b o e => hideAll_get _ (F₂.keep b o e) (hidNo b (by rw [e]; exact Option.some_ne_none _))
  have baseO : ∀ b o, base.get? b = some o → s₂.heap.get? b = some o := fun b o e => of_hideAll _ e
  have baseNo : ∀ b ∈ hid, base.get? b = none := fun b hb => hideAll_none _ hb
  have ok' : (c.comp scope cl C base).Ok := by
    obtain ⟨X₀, p, loose, mg, mb, T⟩ := ok.g
    exact ⟨⟨fun a o e => sub₀ a o (X₀ a o e), p, loose, mg, mb, T.keeps sub₀⟩, ok.r, hkind, ok.gl, ok.bl⟩
  have hOC : ∀ b ∈ O, b ≠ D ∧ b ≠ C := fun b hb => by obtain ⟨o, ho⟩ := hlive 0 _ hst b hb; exact ltD b o ho
  -- the first ledger
  obtain ⟨a₀, subA, rA, ndA⟩ : ∃ a : CLed, (∀ q ∈ a, q ∈ led₂) ∧ LedR c.prog c.w M₀ a ∧ (((R ++ H) ++ a).map (·.1)).Nodup := by
    obtain ⟨X, p⟩ := hless
    obtain ⟨led', pl, l2'⟩ := l2₂.perm p
    obtain ⟨a, b, rfl, r1, r2⟩ := l2'.split
    refine ⟨a, fun q hq => pl.mem_iff.mpr (List.mem_append_left _ hq), r1, ?_⟩
    have p2 : (((R ++ H) ++ led₂).map (·.1)).Perm (((R ++ H) ++ (a ++ b)).map (·.1)) := (pl.append_left (R ++ H)).map _
    have nd' := p2.nodup_iff.mp nd₂
    rw [← List.append_assoc, List.map_append] at nd'
    exact (List.nodup_append.mp nd').1
  have subN : ∀ p ∈ (R ++ H) ++ a₀, p ∈ (R ++ H) ++ led₂ := fun p hp => by
    rcases List.mem_append.mp hp with hp | hp
    · exact List.mem_append_left _ hp
    · exact List.mem_append_right _ (subA p hp)
  have N0 : News base C h₁ ((D, listOf ([] : List Value).toArray 0) :: ((R ++ H) ++ a₀)) := fun p hp => by
    rcases List.mem_cons.mp hp with rfl | hp
    · exact ⟨hacc, hDC, by
        cases e : base.get? D with
        | none => rfl
        | some o => have := baseO D o e; rw [noneD D (.inl rfl)] at this; cases this⟩
    · have z := N₂ p (subN p hp)
      exact ⟨old _ _ z.1, (ltD _ _ z.1).2, baseNo _ (List.mem_append_right _ (List.mem_map_of_mem (subN p hp)))⟩
  have loop : ∀ s₃ : Shared, s₃ = { s₂ with heap := h₁, toks := s₂.toks + ([] : List (Str × Value)).length } →
      codeAny c.M c.A (.compLoop (.ListComp elt [⟨target, iter, [], 0⟩] scope pos) 0 (.ref I) (.ref D) (compEnvC scope cl C c.env)) (RR (.ref D) C) s₃ := by
    rintro s₃ rfl
    refine compLoop_gen
      (fun n s' => ∃ h' tk i acc M led ys nD m', s' = { s₂ with heap := h', toks := tk } ∧ St i h' ∧ Fr base C h' m' ∧ News base C h' ((D, listOf ys.toArray nD) :: ((R ++ H) ++ led)) ∧ (((D, listOf ys.toArray nD) :: ((R ++ H) ++ led)).map (·.1)).Nodup ∧ LedR c.prog c.w M led ∧ RVs acc ys ∧
        (∀ p ∈ (D, listOf ys.toArray nD) :: ((R ++ H) ++ led), p.1 ∉ O) ∧ J i acc M ∧ acc.length = i ∧ i ≤ items.length ∧ n = items.length + 1 - i) ?_ (items.length + 1)
      ⟨h₁, _, 0, [], M₀, a₀, [], 0, _, rfl, W.frame _ _ _ hst fun b _ o e => old b o e, ⟨hns₁, fun b o e => old b o (baseO b o e), ?_⟩, N0, ?_, rA, trivial, ?_, hJ0, rfl, Nat.zero_le _, rfl⟩
    · rintro n s' ⟨h', tk, i, acc, M', led', ys, nD, m', rfl, hst', F', N', nd', l2', hys, off', hJ, hlen, hi, rfl⟩
      have wrO : ∀ b, b ∉ O → b ∉ wr := fun b hb h => hb (hwr b h)
      have keepB : ∀ h₃ : Heap, (∀ b o, b ∉ wr → h'.get? b = some o → h₃.get? b = some o) → ∀ b o, base.get? b = some o → h₃.get? b = some o := fun h₃ hk b o e => hk b o (wrO b fun hb => by
        have := baseNo b (List.mem_append_left _ hb); rw [e] at this; cases this) (F'.keep b o e)
      have keepN : ∀ h₃ : Heap, (∀ b o, b ∉ wr → h'.get? b = some o → h₃.get? b = some o) → Fr base C h₃ m' ∧ News base C h₃ ((D, listOf ys.toArray nD) :: ((R ++ H) ++ led')) := fun h₃ hk =>
        ⟨⟨F'.ns.at' fun o e => hk _ o (wrO _ fun hb => (hOC _ hb).2 rfl) e, keepB h₃ hk, F'.above⟩, fun p hp => ⟨hk _ _ (wrO _ (off' p hp)) (N' p hp).1, (N' p hp).2⟩⟩
      by_cases hlt : i < items.length
      · refine W.item i _ _ _ hlt hst' fun v h₂ tk₂ hMd hk₂ => W.go i v _ _ _ hMd fun h₃ hPv hst₃ hk₃ => ?_
        obtain ⟨F₃, N₃⟩ := keepN h₃ fun b o hb e => hk₃ b o hb (hk₂ b o hb e)
        obtain ⟨iv, hiv, his⟩ := hP i v h₃ hPv
        obtain ⟨own, hown, hget⟩ := own_of (hlive (i + 1) h₃ hst₃)
        have hownO : ∀ p ∈ own, p.1 ∈ O := fun p hp => hown ▸ List.mem_map_of_mem hp
        have nd3 : (((own ++ (D, listOf ys.toArray nD) :: (R ++ H)) ++ led').map (·.1)).Nodup := by
          rw [List.append_assoc, List.cons_append, List.map_append]
          refine List.nodup_append.mpr ⟨hown ▸ hOn, nd', fun a ha b hb e => ?_⟩
          subst e
          obtain ⟨q, hq, e⟩ := List.mem_map.mp hb
          rw [hown] at ha
          exact off' q hq (by rw [e]; exact ha)
        have N3 : News base C h₃ ((own ++ (D, listOf ys.toArray nD) :: (R ++ H)) ++ led') := fun p hp => by
          rw [List.append_assoc, List.cons_append] at hp
          rcases List.mem_append.mp hp with hp | hp
          · exact ⟨hget p hp, (hOC _ (hownO p hp)).2, baseNo _ (List.mem_append_left _ (hownO p hp))⟩
          · exact N₃ p hp
        have I3 : Inv (c.comp scope cl C base) (own ++ (D, listOf ys.toArray nD) :: (R ++ H)) h₃ [] M' := ⟨m', led', F₃, N3, nd3, fun x a e => (nomatch e), l2'⟩
        refine wpAnyE (turn C base i iv acc M' ok' hiv hJ v _ { s₂ with heap := h₃, toks := tk₂ } his I3) fun _ s₄ zz => ?_
        obtain ⟨lm₄, M₄, I₄, e₄, hT⟩ := zz
        refine wpAnyE (hT _ s₄ I₄) fun y s₅ zz => ?_
        obtain ⟨a, M₅, hay, I₅, e₅, M₆, hl₆, hJ₆⟩ := zz
        obtain ⟨m₆, led₆, F₆, N₆, nd₆, _, l2₆⟩ := I₅.less hl₆
        rw [List.append_assoc, List.cons_append] at N₆ nd₆
        have e6 : Same { s₂ with heap := h₃, toks := tk₂ } s₅ := e₄.trans e₅
        have hyl := hys.length
        refine append_K (A := c.A) F₆ N₆ (upd_nodup nd₆) (fun h₇ F₇ N₇ => ?_) (by simp [hyl, hlen]; lia)
        have e7 : (listOf (ys.toArray.push y) (nD + 1)) = listOf (ys ++ [y]).toArray (nD + 1) := by simp
        rw [e7] at N₇
        have nd₇ : ((own ++ (D, listOf (ys ++ [y]).toArray (nD + 1)) :: ((R ++ H) ++ led₆)).map (·.1)).Nodup := by simpa using nd₆
        have q7 := List.nodup_append.mp (by rw [List.map_append] at nd₇; exact nd₇)
        refine ⟨items.length + 1 - (i + 1), by lia, h₇, s₅.toks, i + 1, acc ++ [a], M₆, led₆, ys ++ [y], nD + 1, m₆, ?_, ?_, F₇, fun p hp => N₇ p (List.mem_append_right _ hp), q7.2.1, l2₆, hys.append ⟨hay, trivial⟩, fun p hp hb => ?_, hJ₆, by simp [hlen], hlt, rfl⟩
        · show Shared.mk h₇ s₅.gens s₅.drawn s₅.toks s₅.os = _
          rw [e6.1, e6.2.1, e6.2.2]
        · refine W.frame _ _ _ hst₃ fun b hb o e => ?_
          rcases hfp b hb with hb | hb
          · rw [← hown] at hb
            obtain ⟨q, hq, rfl⟩ := List.mem_map.mp hb
            have := hget q hq
            rw [e] at this; cases this
            exact (N₇ q (List.mem_append_left _ hq)).1
          · obtain ⟨q, hq, rfl⟩ := List.mem_map.mp hb
            have := (N₃ q (.tail _ (List.mem_append_left _ (List.mem_append_right _ hq)))).1
            rw [e] at this; cases this
            exact (N₇ q (List.mem_append_right _ (.tail _ (List.mem_append_left _ (List.mem_append_right _ hq))))).1
        · rw [← hown] at hb
          exact q7.2.2 _ hb _ (List.mem_map_of_mem hp) rfl
      · have hin : i = items.length := by lia
        subst hin
        refine W.done _ _ _ hst' fun h₄ tk₄ hk₄ => ?_
        obtain ⟨F₄, N₄⟩ := keepN h₄ hk₄
        have keep4 := keepB h₄ hk₄
        have noC : c.h₀.get? C = none := none0 _ (noneD C (.inr rfl))
        have locAt : ∃ o, s₂.heap.get? c.env.locals = some o := by obtain ⟨o, _, _, e, _⟩ := F₂.ns; exact ⟨o, e⟩
        have locB : ∃ o, base.get? c.env.locals = some o := by obtain ⟨o, e⟩ := locAt; exact ⟨o, hideAll_get _ e locNo⟩
        have nothB : ∀ p ∈ (D, listOf ys.toArray nD) :: ((R ++ H) ++ led'), p.1 ≠ c.env.locals ∧ c.h₀.get? p.1 = none := fun p hp => by
          have z := (N' p hp).2.2
          refine ⟨fun q => ?_, ?_⟩
          · obtain ⟨o, e⟩ := locB; rw [q, e] at z; cases z
          · cases e : c.h₀.get? p.1 with
            | none => rfl
            | some o => rw [sub₀ _ o e] at z; cases z
        refine hRR D C h₄ tk₄ m₂ m' acc (hold ++ M') (listOf ys.toArray nD) (H ++ led') ⟨F₂.ns.at' fun o e => keep4 _ o (hideAll_get _ e locNo), fun b o e => keep4 b o (sub₀ b o e), F₂.above⟩
          (fun p hp => ?_) (by rw [← List.append_assoc]; exact nd') l1₂ ⟨⟨rfl, ys, nD, rfl, hys, by rw [hlen]; exact hsz⟩, lH.append l2'⟩ F₄.ns noC (fun q => ?_) (fun p hp => ?_) (finish acc M' hJ hlen) e₂
        · have hp' : p ∈ (D, listOf ys.toArray nD) :: ((R ++ H) ++ led') := by rw [List.append_assoc]; exact hp
          exact ⟨(N₄ p hp').1, nothB p hp'⟩
        · obtain ⟨o, e⟩ := locAt; exact (ltD _ o e).2 q.symm
        · have hp' : p ∈ (D, listOf ys.toArray nD) :: ((R ++ H) ++ led') := by rw [List.append_assoc]; exact hp
          exact (N' p hp').2.1
    · show base.objs.size ≤ C
      rw [show base.objs.size = s₂.heap.objs.size from hideAll_size _ _, hDn, hC]; exact Nat.le_succ _
    · rw [List.map_cons]
      refine List.nodup_cons.mpr ⟨fun hm => ?_, ndA⟩
      obtain ⟨p, hp, e⟩ := List.mem_map.mp hm
      exact (ltD _ _ (N₂ p (subN p hp)).1).1 e
    · intro p hp hb
      rcases List.mem_cons.mp hp with rfl | hp
      · exact (hOC _ hb).1 rfl
      · exact (hO _ hb).2.2 (List.mem_map_of_mem (subN p hp))
  exact codeAny_compStart_list (loop _ rfl) (hself _ _ _ (W.frame _ _ _ hst fun b _ o e => old b o e) (loop _ rfl))

theorem ev_comp (ok : c.Ok) {target elt iter : Expr} {scope : Scope} {cl : List (Str × Addr)} {pos : Pos} (hclos : closureFor scope c.env = pure cl) (hcell : ∀ y ∈ scope.names, y.2 ≠ .cell) (hkind : scope.kind = .function)
    (hnames : ∀ y ∈ scope.names, y.2 = .local → scope.names.lookup y.1 = some .local) (hs : ∀ x, foldedSetIterable iter c.env x = pure x)
    (h : Ti c target iter lm M fun items hold M₂ => CompT c target elt scope cl items hold M₂ fun acc M' => ∀ q, k (.ref q) ((q, .lst acc) :: M')) :
    Tv c (eval (.ListComp elt [⟨target, iter, [], 0⟩] scope pos) c.env) lm M k := by
  intro R s I
  rw [eval_ListComp]
  refine wpAny_comprehension_free (use := none) rfl hs hclos hkind hnames (wpNo (h R s I) fun xv s₁ h₁ => wpNo h₁ fun it s₂ h₂ => ?_)
  refine comp_core (RR := fun acc C => compPost c.M c.A NoE none (PostV c R s lm k) acc C) ok hcell hkind h₂ ?_
  intro D C h' tk m m' acc M' oD led F N nd l1 l2 hn hC₀ hCL hCn hf e
  refine ⟨m', hn, fun h'' hs'' => ⟨.ref D, _, .ref D, ⟨m, (D, oD) :: led, F.change hs'' hCL hC₀, fun p hp => ?_, (List.perm_middle.map _).nodup_iff.mpr nd, l1, l2⟩, e.trans .of, hf D⟩⟩
  have hp' := (List.perm_middle (l₁ := R) (a := (D, oD)) (l₂ := led)).mem_iff.mp hp
  have z := N p hp'
  exact ⟨(hs''.2 _ (hCn p hp')).trans z.1, z.2⟩

theorem st_assign_comp (ok : c.Ok) {target elt iter : Expr} {scope : Scope} {cl : List (Str × Addr)} {pos spos : Pos} {y : Str} {py : Pos} (hsw : swapsWith (.ListComp elt [⟨target, iter, [], 0⟩] scope pos) (some (.Name y py)) spos.line c.env = pure true)
    (hclos : closureFor scope c.env = pure cl) (hcell : ∀ y ∈ scope.names, y.2 ≠ .cell) (hkind : scope.kind = .function)
    (hnames : ∀ y ∈ scope.names, y.2 = .local → scope.names.lookup y.1 = some .local) (hs : ∀ x, foldedSetIterable iter c.env x = pure x) (hy : c.env.scope.names.lookup y = some .local)
    (h : Ti c target iter lm M fun items hold M₂ => CompT c target elt scope cl items hold M₂ fun acc M' => ∀ q, kN (setL y (.ref q) lm) ((q, .lst acc) :: M')) :
    Tf c (exec (.Assign [.Name y py] (.ListComp elt [⟨target, iter, [], 0⟩] scope pos) spos) c.env) lm M kN kR := by
  intro R s I
  rw [exec_Assign_Name_used _ _ _ _ hsw]
  refine wpAny_bind (wpAny_standAt (wpAny_bind ?_))
  show wpAny _ c.A (do let _ ← comprehension (.ListComp elt [⟨target, iter, [], 0⟩] scope pos) scope c.env _ (newList []) false (eval iter c.env) (some (assign (.Name y py) c.env))) _ _ s
  refine wpAny_bind (wpNo (wpAny_comprehension_free (use := some (assign (.Name y py) c.env)) (Q := fun _ s' => PostF c R s kN kR .next s') rfl hs hclos hkind hnames
    (wpNo (h R s I) fun xv s₁ h₁ => wpNo h₁ fun it s₂ h₂ => ?_)) (fun _ s' hq => wpAny_pure (wpAny_pure hq)))
  refine comp_core (RR := fun acc C => compPost c.M c.A NoE (some (assign (.Name y py) c.env)) (fun _ s' => PostF c R s kN kR .next s') acc C) ok hcell hkind h₂ ?_
  intro D C h' tk m m' acc M' oD led F N nd l1 l2 hn hC₀ hCL hCn hf e
  show wpAny _ c.A (assign (.Name y py) c.env (.ref D)) _ _ _
  refine wpAny_assign_Name (wpAny_storeName_local hy F.ns (fun h₂ hn₂ hs₂ => ?_) (noClass ok))
  refine ⟨m', hn.sameBut hs₂ hCL, fun h₃ hs₃ => ⟨_, _, ⟨_, (D, oD) :: led, (F.set hn₂ hs₂).change hs₃ hCL hC₀, fun p hp => ?_, (List.perm_middle.map _).nodup_iff.mpr nd, l1.set (.ref D), l2⟩, e.trans .of, hf D⟩⟩
  have hp' := (List.perm_middle (l₁ := R) (a := (D, oD)) (l₂ := led)).mem_iff.mp hp
  have z := (N.set hs₂) p hp'
  exact ⟨(hs₃.2 _ (hCn p hp')).trans z.1, z.2⟩
end
end Mine
end

section
open PySem PySem.W PySem.Calls PyProof.Rows
set_option Elab.async false
set_option maxRecDepth 100000
set_option linter.unusedVariables false
namespace Mine

/-! ### what the written part says, all names at once -/
noncomputable def gtab : List (Str × Addr) := [(Str.ofString "need_writable", 48), (Str.ofString "need_room", 55), (Str.ofString "reached", 62), (Str.ofString "tell_ahead", 69), (Str.ofString "tell_behind", 76), (Str.ofString "text_out", 83), (Str.ofString "text_in", 90), (Str.ofString "hung_out", 97), (Str.ofString "hung_in", 104), (Str.ofString "put_in", 111), (Str.ofString "insert_at", 119), (Str.ofString "insert", 127), (Str.ofString "delete", 134), (Str.ofString "replace", 142), (Str.ofString "line_start", 149), (Str.ofString "line_end", 156), (Str.ofString "column_behind", 163), (Str.ofString "column_at", 170), (Str.ofString "row_columns", 177), (Str.ofString "place_at", 184), (Str.ofString "opened", 191), (Str.ofString "padded", 198), (Str.ofString "cut_at", 205), (Str.ofString "cut_between", 212), (Str.ofString "erased", 219), (Str.ofString "cleared", 226), (Str.ofString "opened_up", 233), (Str.ofString "replaced", 240), (Str.ofString "Span", 257), (Str.ofString "rows_in", 268), (Str.ofString "column_of", 275), (Str.ofString "span_of", 282), (Str.ofString "common_many", 289), (Str.ofString "put_row", 296), (Str.ofString "put_rows", 303), (Str.ofString "delete_rectangle", 308), (Str.ofString "clear_rectangle", 313), (Str.ofString "open_rectangle", 318), (Str.ofString "string_rectangle", 323), (Str.ofString "GapText", 410), (Str.ofString "Marker", 487), (Str.ofString "Markers", 555), (Str.ofString "Buffer", 661), (Str.ofString "set_marker", 670), (Str.ofString "_law_draw", 677), (Str.ofString "_law_spot", 684), (Str.ofString "_law_row", 691), (Str.ofString "_law_column", 698), (Str.ofString "_law_text", 705), (Str.ofString "_law_done", 712)]
noncomputable def itab : List (Str × Int × Nat) := [(Str.ofString "LONGEST", 4194304, 231), (Str.ofString "NEWLINE", 10, 377), (Str.ofString "TAB", 9, 399), (Str.ofString "BLANK", 32, 401), (Str.ofString "ROW_END", 10, 542)]
theorem gtab_ok (P : Params) : gtab.all (fun p => nsIn (KK P) mainGlobals p.1 == some (some (.ref p.2))) = true := by kernel_rfl
theorem itab_ok (P : Params) : itab.all (fun p => nsIn (KK P) mainGlobals p.1 == some (some (.int p.2.1 p.2.2))) = true := by kernel_rfl
theorem gcall_ok (P : Params) : gtab.all (fun p => keepIn (KK P) (.ref p.2)) = true := by kernel_rfl
noncomputable def btab : List (Str × String) := [(Str.ofString "min", "min"), (Str.ofString "max", "max"), (Str.ofString "len", "len"), (Str.ofString "abs", "abs"), (Str.ofString "sorted", "sorted")]
noncomputable def ttab : List (Str × String) := [(Str.ofString "list", "list"), (Str.ofString "range", "range"), (Str.ofString "enumerate", "enumerate"), (Str.ofString "zip", "zip")]
theorem bt_ok (P : Params) : (btab ++ ttab).all (fun p => nsIn (KK P) mainGlobals p.1 == some none && p.1 != "__name__") = true := by kernel_rfl
theorem btab_ok : btab.all (fun p => bootBuiltins p.1 == some (.builtin p.2)) = true := by kernel_rfl
theorem ttab_ok : ttab.all (fun p => bootBuiltins p.1 == some (.type p.2)) = true := by kernel_rfl
noncomputable def ftab : List (Addr × Str) := [(257, Str.ofString "low"), (257, Str.ofString "high"), (257, Str.ofString "rows"), (257, Str.ofString "first"), (257, Str.ofString "last"), (410, Str.ofString "room"), (410, Str.ofString "cells"), (410, Str.ofString "gap_start"), (410, Str.ofString "gap_end"), (487, Str.ofString "number"), (487, Str.ofString "advances"), (487, Str.ofString "buffer"), (487, Str.ofString "position"), (555, Str.ofString "rows"), (661, Str.ofString "number"), (661, Str.ofString "name"), (661, Str.ofString "text"), (661, Str.ofString "markers"), (661, Str.ofString "point"), (661, Str.ofString "begv"), (661, Str.ofString "zv"), (661, Str.ofString "mark"), (661, Str.ofString "is_live"), (661, Str.ofString "is_read_only"), (661, Str.ofString "ticks"), (661, Str.ofString "codes_ticks"), (661, Str.ofString "saved_ticks"), (661, Str.ofString "listeners"), (661, Str.ofString "undo"), (661, Str.ofString "props"), (661, Str.ofString "overlays"), (661, Str.ofString "locals"), (661, Str.ofString "syntax"), (661, Str.ofString "file")]
theorem ftab_ok (P : Params) : ftab.all (fun p => plainGet (KK P) p.1 p.2 && hasDictIn (KK P) p.1 && findIn (KK P) (.ref p.1) p.2 == some none && findIn (KK P) (.ref p.1) "__setattr__" == some (some (.builtin "object.__setattr__")) && plainOver (KK P) p.1) = true := by kernel_rfl
noncomputable def mtab : List (Addr × Str × Addr) := [(410, Str.ofString "size", 344), (410, Str.ofString "code", 351), (410, Str.ofString "codes", 358), (410, Str.ofString "move_gap", 365), (410, Str.ofString "widen_gap", 372), (410, Str.ofString "insert", 379), (410, Str.ofString "delete", 386), (555, Str.ofString "numbers", 510), (555, Str.ofString "put", 517), (555, Str.ofString "inserted", 538), (555, Str.ofString "deleted", 545), (555, Str.ofString "replaced", 552), (661, Str.ofString "begin", 595), (661, Str.ofString "end", 602), (661, Str.ofString "size", 609), (661, Str.ofString "code_at", 616), (661, Str.ofString "codes", 623), (661, Str.ofString "touch", 658)]
theorem mtab_ok (P : Params) : mtab.all (fun p => plainGet (KK P) p.1 p.2.1 && findIn (KK P) (.ref p.1) p.2.1 == some (some (.ref p.2.2)) && isFn (KK P) (.ref p.2.2) && keepIn (KK P) (.ref p.2.2)) = true := by kernel_rfl
noncomputable def ctab : List (Addr × Addr) := [(257, 254), (410, 337), (487, 463), (555, 503), (661, 574)]
theorem ctab_ok (P : Params) : ctab.all (fun p => makesIn (KK P) p.1 && findIn (KK P) (.ref p.1) "__init__" == some (some (.ref p.2)) && isFn (KK P) (.ref p.2)) = true := by kernel_rfl
end Mine
end

section
open PySem PySem.W PySem.Calls PyProof.Rows
set_option Elab.async false
set_option maxRecDepth 100000
set_option linter.unusedVariables false
namespace Mine

structure At (c : Cx) (sc : Scope) (d : Nat) : Prop where
  ok : c.Ok
  k : c.K = KK c.w.params
  s : c.env.scope = sc
  d : d ≤ c.d

theorem lookup_all {α : Type} {p : Str × α → Bool} {x : Str} {v : α} : ∀ {l : List (Str × α)}, l.all p = true → l.lookup x = some v → p (x, v) = true
  | (y, u) :: r, h, e => by
    rw [List.all_cons, Bool.and_eq_true] at h
    rw [List.lookup_cons] at e
    by_cases q : x = y
    · subst q; simp at e; subst e; exact h.1
    · have q1 : (x == y) = false := beq_eq_false_iff_ne.mpr q
      simp only [q1] at e
      exact lookup_all h.2 e
  | [], _, e => nomatch e
theorem contains_all {α : Type} [BEq α] [LawfulBEq α] {p : α → Bool} {x : α} {l : List α} (h : l.all p = true) (e : l.contains x = true) : p x = true :=
  List.all_eq_true.mp h x (List.contains_iff_mem.mp e)

noncomputable def nthL : Loc → Nat → Option (Str × MV)
  | [], _ => none
  | p :: _, 0 => some p
  | _ :: r, n + 1 => nthL r n
noncomputable def putAt : Nat → Str × MV → Loc → Loc
  | _, p, [] => [p]
  | 0, p, _ :: r => p :: r
  | n + 1, p, q :: r => q :: putAt n p r
noncomputable def fewL : Nat → Loc → Str → Bool
  | 0, _, _ => true
  | _ + 1, [], _ => true
  | n + 1, p :: r, x => p.1 != x && fewL n r x
/-- that place is that name's -/
noncomputable def onlyL : Nat → Loc → Str → Bool
  | _, [], _ => true
  | 0, p :: _, x => p.1 == x
  | n + 1, p :: r, x => p.1 != x && onlyL n r x
theorem lookup_nth {x : Str} {v : MV} : ∀ {lm : Loc} {i : Nat}, fewL i lm x = true → nthL lm i = some (x, v) → lm.lookup x = some v
  | p :: r, 0, _, e => by simp [nthL] at e; subst e; simp [List.lookup_cons]
  | p :: r, n + 1, h, e => by
    simp only [fewL, Bool.and_eq_true, bne_iff_ne] at h
    have q : (x == p.1) = false := beq_eq_false_iff_ne.mpr fun e => h.1 e.symm
    obtain ⟨p1, p2⟩ := p
    rw [List.lookup_cons]
    simp only at q
    simp only [q]
    exact lookup_nth h.2 e
  | [], i, _, e => by cases i <;> cases e
theorem put_lookup {x y : Str} {a b : MV} : ∀ {i : Nat} {lm : Loc}, onlyL i lm x = true → (putAt i (x, a) lm).lookup y = some b → if y = x then b = a else lm.lookup y = some b
  | i, [], _, e => by
    have e : List.lookup y [(x, a)] = some b := by cases i <;> exact e
    rw [List.lookup_cons] at e
    by_cases q : y = x
    · subst q; simp at e; simp [e]
    · have q1 : (y == x) = false := beq_eq_false_iff_ne.mpr q
      simp [q1] at e
  | 0, p :: r, h, e => by
    have h : p.1 = x := by simpa [onlyL] using h
    simp only [putAt, List.lookup_cons] at e
    by_cases q : y = x
    · subst q; simp at e; simp [e]
    · have q1 : (y == x) = false := beq_eq_false_iff_ne.mpr q
      simp only [q1] at e
      rw [if_neg q]
      obtain ⟨p1, p2⟩ := p
      rw [List.lookup_cons]
      by_cases z : y = p1
      · exact absurd (z.trans h) q
      · have z1 : (y == p1) = false := beq_eq_false_iff_ne.mpr z
        simp only [z1]; exact e
  | n + 1, p :: r, h, e => by
    simp only [onlyL, Bool.and_eq_true, bne_iff_ne] at h
    obtain ⟨p1, p2⟩ := p
    simp only [putAt, List.lookup_cons] at e ⊢
    by_cases z : y = p1
    · subst z
      have : ¬ y = x := h.1
      simp at e
      simp [this, e]
    · have z1 : (y == p1) = false := beq_eq_false_iff_ne.mpr z
      simp only [z1] at e ⊢
      exact put_lookup h.2 e

theorem set_put {x : Str} {a : MV} : ∀ {i : Nat} {lm : Loc}, onlyL i lm x = true → setL x a lm = putAt i (x, a) lm
  | i, [], _ => by cases i <;> rfl
  | 0, p :: r, h => by
    have h : p.1 = x := by simpa [onlyL] using h
    unfold setL; rw [if_pos (by simp [h])]; rfl
  | n + 1, p :: r, h => by
    simp only [onlyL, Bool.and_eq_true, bne_iff_ne] at h
    have q : (x == p.1) = false := beq_eq_false_iff_ne.mpr fun e => h.1 e.symm
    unfold setL; rw [if_neg (by simp [q]), set_put h.2]; rfl
section
variable {c : Cx} {sc : Scope} {d : Nat} {lm : Loc} {M : Led} {k : MV → Led → Prop} {ku : Loc → Led → Prop} {kb : Bool → Led → Prop} {kN : Loc → Led → Prop} {kR : MV → Led → Prop}

theorem debug_ne {x : Str} (h : (x != ("__debug__" : Str)) = true) : (x == ("__debug__" : Str)) = false := by
  simpa [bne] using h
noncomputable def okL (sc : Scope) (lm : Loc) (i : Nat) (x : Str) : Bool := sc.names.lookup x == some .local && x != "__debug__" && fewL i lm x
theorem r_loc (a : At c sc d) (i : Nat) {x : Str} {pos : Pos} {v : MV} (hx : okL sc lm i x = true) (e : nthL lm i = some (x, v)) (h : k v M) : Tv c (eval (.Name x pos) c.env) lm M k := by
  simp only [okL, Bool.and_eq_true, beq_iff_eq] at hx
  exact ev_local a.ok (by rw [a.s]; exact hx.1.1) (debug_ne hx.1.2) (lookup_nth hx.2 e) h
noncomputable def okG (sc : Scope) (x : Str) : Bool := sc.names.lookup x == some .globalImplicit && x != "__debug__"
theorem r_ref (a : At c sc d) (f : Addr) {x : Str} {pos : Pos} (hx : (okG sc x && gtab.lookup x == some f) = true) (h : k (.ref f) M) : Tv c (eval (.Name x pos) c.env) lm M k := by
  simp only [okG, Bool.and_eq_true, beq_iff_eq] at hx
  have := lookup_all (gtab_ok c.w.params) hx.2
  exact ev_glob a.ok (by rw [a.s]; exact hx.1.1) (debug_ne hx.1.2) (by rw [a.k]; exact beq_iff_eq.mp this) (.ref f) h
theorem r_gint (a : At c sc d) (n : Int) (t : Nat) {x : Str} {pos : Pos} (hx : (okG sc x && itab.lookup x == some (n, t)) = true) (h : k (.int n) M) : Tv c (eval (.Name x pos) c.env) lm M k := by
  simp only [okG, Bool.and_eq_true, beq_iff_eq] at hx
  have := lookup_all (itab_ok c.w.params) hx.2
  exact ev_glob a.ok (by rw [a.s]; exact hx.1.1) (debug_ne hx.1.2) (by rw [a.k]; exact beq_iff_eq.mp this) (.int n t) h
theorem lookup_app {x : Str} {v : String} : ∀ {l r : List (Str × String)}, l.lookup x = some v → (l ++ r).lookup x = some v
  | (y, u) :: l, r, e => by
    rw [List.cons_append, List.lookup_cons]
    rw [List.lookup_cons] at e
    split at e
    · simpa using e
    · exact lookup_app e
  | [], _, e => nomatch e
theorem mem_lookup {x : Str} {v : String} : ∀ {l : List (Str × String)}, l.lookup x = some v → (x, v) ∈ l
  | (y, u) :: r, e => by
    rw [List.lookup_cons] at e
    by_cases q : x = y
    · subst q; simp at e; subst e; exact .head _
    · have q1 : (x == y) = false := beq_eq_false_iff_ne.mpr q
      simp only [q1] at e
      exact .tail _ (mem_lookup e)
  | [], e => nomatch e
theorem r_blt (a : At c sc d) (f : String) {x : Str} {pos : Pos} (hx : (okG sc x && btab.lookup x == some f) = true) (h : k (.bi f) M) : Tv c (eval (.Name x pos) c.env) lm M k := by
  simp only [okG, Bool.and_eq_true, beq_iff_eq] at hx
  have h1 := List.all_eq_true.mp (bt_ok c.w.params) (x, f) (List.mem_append_left _ (mem_lookup hx.2))
  have h2 := List.all_eq_true.mp btab_ok (x, f) (mem_lookup hx.2)
  simp only [Bool.and_eq_true, beq_iff_eq, bne_iff_ne] at h1 h2
  exact ev_boot a.ok (by rw [a.s]; exact hx.1.1) (debug_ne hx.1.2) (by rw [a.k]; exact h1.1) h2 h1.2 (.bi f) h
theorem r_typ (a : At c sc d) (f : String) {x : Str} {pos : Pos} (hx : (okG sc x && ttab.lookup x == some f) = true) (h : k (.ty f) M) : Tv c (eval (.Name x pos) c.env) lm M k := by
  simp only [okG, Bool.and_eq_true, beq_iff_eq] at hx
  have h1 := List.all_eq_true.mp (bt_ok c.w.params) (x, f) (List.mem_append_right _ (mem_lookup hx.2))
  have h2 := List.all_eq_true.mp ttab_ok (x, f) (mem_lookup hx.2)
  simp only [Bool.and_eq_true, beq_iff_eq, bne_iff_ne] at h1 h2
  exact ev_boot a.ok (by rw [a.s]; exact hx.1.1) (debug_ne hx.1.2) (by rw [a.k]; exact h1.1) h2 h1.2 (.ty f) h

/-- arguments upon arguments -/
abbrev Args' (c : Cx) (pos : Pos) (args : List Expr) (lm : Loc) (M : Led) (ks : List MV → Led → Prop) : Prop := Tvs c (spliced (backTo pos (starEach args c.env))) lm M ks

theorem c_ref (a : At c sc d) (f : Addr) {x : Str} {p pos : Pos} {args : List Expr} (hx : (okG sc x && gtab.lookup x == some f) = true) (hs : args.any isStarred = false) (h : Args' c pos args lm M fun as M₂ => TC c (.ref f) as lm M₂ k) :
    Tv c (eval (.Call (.Name x p) args [] pos) c.env) lm M k :=
  ev_call a.ok hs (r_ref a f hx ⟨by
    simp only [Bool.and_eq_true, beq_iff_eq] at hx
    have := lookup_all (gcall_ok c.w.params) hx.2
    show keepIn c.K (.ref f) = true
    rw [a.k]; exact this, h⟩)
theorem c_blt (a : At c sc d) (f : String) {x : Str} {p pos : Pos} {args : List Expr} (hx : (okG sc x && btab.lookup x == some f) = true) (hs : args.any isStarred = false) (h : Args' c pos args lm M fun as M₂ => TC c (.bi f) as lm M₂ k) :
    Tv c (eval (.Call (.Name x p) args [] pos) c.env) lm M k := ev_call a.ok hs (r_blt a f hx ⟨trivial, h⟩)
theorem c_typ (a : At c sc d) (f : String) {x : Str} {p pos : Pos} {args : List Expr} (hx : (okG sc x && ttab.lookup x == some f) = true) (hs : args.any isStarred = false) (h : Args' c pos args lm M fun as M₂ => TC c (.ty f) as lm M₂ k) :
    Tv c (eval (.Call (.Name x p) args [] pos) c.env) lm M k := ev_call a.ok hs (r_typ a f hx ⟨trivial, h⟩)
theorem i_typ (a : At c sc d) (f : String) {target : Expr} {ki : List IV → Led → Led → Prop} {x : Str} {p pos : Pos} {args : List Expr} (hx : (okG sc x && ttab.lookup x == some f) = true) (hs : args.any isStarred = false) (h : Args' c pos args lm M fun as M₂ => TIC c target (.ty f) as lm M₂ ki) :
    Ti c target (.Call (.Name x p) args [] pos) lm M ki := ti_call a.ok hs (r_typ a f hx ⟨trivial, h⟩)
theorem a_nil {pos : Pos} {ks : List MV → Led → Prop} (h : ks [] M) : Args' c pos [] lm M ks := args_nil h
theorem a_cons {pos : Pos} {e : Expr} {rest : List Expr} {ks : List MV → Led → Prop} (hs : isStarred e = false) (h : Tv c (eval e c.env) lm M fun a M₁ => Args' c pos rest lm M₁ fun as M₂ => ks (a :: as) M₂) : Args' c pos (e :: rest) lm M ks :=
  args_cons (star_plain hs) h

theorem field_of (P : Params) {C : Addr} {x : Str} (h : ftab.contains (C, x) = true) : FieldOk (KK P) C x := by
  have := contains_all (ftab_ok P) h
  simp only [Bool.and_eq_true, beq_iff_eq] at this
  exact ⟨this.1.1.1.1, this.1.1.1.2, this.1.1.2, this.1.2, this.2⟩
theorem meth_of (P : Params) {C f : Addr} {x : Str} (h : mtab.contains (C, x, f) = true) : MethOk (KK P) C x f := by
  have := contains_all (mtab_ok P) h
  simp only [Bool.and_eq_true, beq_iff_eq] at this
  exact ⟨this.1.1.1, this.1.1.2, this.1.2, this.2⟩
theorem make_of (P : Params) {C f : Addr} (h : ctab.contains (C, f) = true) : MakeOk (KK P) C f := by
  have := contains_all (ctab_ok P) h
  simp only [Bool.and_eq_true, beq_iff_eq] at this
  exact ⟨this.1.1, this.1.2, this.2⟩

/-- a field read -/
theorem t_get (a : At c sc d) (C : Addr) (i : Nat) {x dx : Addr} {fs : List (Str × MV)} {name : Str} {v : MV} {expr : Bool} (hc : (ftab.contains (C, name) && fewL i fs name) = true) (hx : (x, MO.inst C dx) ∈ M) (hd : (dx, MO.flds fs) ∈ M) (e : nthL fs i = some (name, v)) (hh : v.handed = true) (h : k v M) :
    T1 c (fun u => getAttr u name expr) (.ref x) lm M k := by
  simp only [Bool.and_eq_true] at hc
  exact get_field a.ok (by rw [a.k]; exact field_of _ hc.1) hx hd (lookup_nth hc.2 e) hh h
theorem r_attr {value : Expr} {attr : Str} {pos : Pos}
    (he : eval (.Attribute value attr pos) c.env = (do
      let o ← eval value c.env
      standAt pos.atName
      let r ← holding [o] (getAttr o attr true)
      letTemporaryGo value o r
      pure r))
    (h : Tv c (eval value c.env) lm M fun a M₁ => T1 c (fun v => getAttr v attr true) a lm M₁ k) : Tv c (eval (.Attribute value attr pos) c.env) lm M k := ev_attr he h

/-- a method of an object, ready for its arguments -/
theorem c_meth (a : At c sc d) (C f : Addr) {o : Expr} {name : Str} {apos pos : Pos} {args : List Expr} (hs : args.any isStarred = false)
    (he : eval (.Call (.Attribute o name apos) args [] pos) c.env = (do
      let ov ← eval o c.env
      standAt apos.atName
      let (f, first) ← holding [ov] (getMethod ov name (do return (← importBound o c.env).getD true))
      callWith pos f first (backTo pos (starEach args c.env)) []))
    (hc : mtab.contains (C, name, f) = true)
    (h : Tv c (eval o c.env) lm M fun b M₁ => ∃ x dx fs, b = .ref x ∧ (x, MO.inst C dx) ∈ M₁ ∧ (dx, MO.flds fs) ∈ M₁ ∧ fs.lookup name = none ∧ Args' c pos args lm M₁ fun as M₂ => TC c (.ref f) (.ref x :: as) lm M₂ k) :
    Tv c (eval (.Call (.Attribute o name apos) args [] pos) c.env) lm M k := by
  have m := meth_of c.w.params hc
  refine ev_mcall a.ok hs he (h.mono fun b M₁ ⟨x, dx, fs, e, hx, hd, hl, ha⟩ => ?_)
  subst e
  exact ⟨.ref f, meth_inst a.ok (by rw [a.k]; exact m) hx hd hl, by show keepIn c.K (.ref f) = true; rw [a.k]; exact m.k, ha⟩
theorem c_append (a : At c sc d) {o : Expr} {apos pos : Pos} {args : List Expr} (hs : args.any isStarred = false)
    (he : eval (.Call (.Attribute o (Str.ofString "append") apos) args [] pos) c.env = (do
      let ov ← eval o c.env
      standAt apos.atName
      let (f, first) ← holding [ov] (getMethod ov (Str.ofString "append") (do return (← importBound o c.env).getD true))
      callWith pos f first (backTo pos (starEach args c.env)) []))
    (h : Tv c (eval o c.env) lm M fun b M₁ => ∃ l xs, b = .ref l ∧ (l, MO.lst xs) ∈ M₁ ∧ Args' c pos args lm M₁ fun as M₂ => TC c (.bi "list.append") (.ref l :: as) lm M₂ k) :
    Tv c (eval (.Call (.Attribute o (Str.ofString "append") apos) args [] pos) c.env) lm M k :=
  ev_mcall a.ok hs he (h.mono fun b M₁ ⟨l, xs, e, hm, ha⟩ => by
    subst e
    exact ⟨.bi "list.append", meth_lst hm PySem.F.slot_list_append PySem.F.type_list_append, trivial, ha⟩)
theorem c_pop (a : At c sc d) {o : Expr} {apos pos : Pos} {args : List Expr} (hs : args.any isStarred = false)
    (he : eval (.Call (.Attribute o (Str.ofString "pop") apos) args [] pos) c.env = (do
      let ov ← eval o c.env
      standAt apos.atName
      let (f, first) ← holding [ov] (getMethod ov (Str.ofString "pop") (do return (← importBound o c.env).getD true))
      callWith pos f first (backTo pos (starEach args c.env)) []))
    (h : Tv c (eval o c.env) lm M fun b M₁ => ∃ l xs, b = .ref l ∧ (l, MO.lst xs) ∈ M₁ ∧ Args' c pos args lm M₁ fun as M₂ => TC c (.bi "list.pop") (.ref l :: as) lm M₂ k) :
    Tv c (eval (.Call (.Attribute o (Str.ofString "pop") apos) args [] pos) c.env) lm M k :=
  ev_mcall a.ok hs he (h.mono fun b M₁ ⟨l, xs, e, hm, ha⟩ => by
    subst e
    exact ⟨.bi "list.pop", meth_lst hm PySem.F.slot_list_pop PySem.F.type_list_pop, trivial, ha⟩)

/-- a local name stored -/
noncomputable def okS (sc : Scope) (lm : Loc) (i : Nat) (x : Str) : Bool := sc.names.lookup x == some .local && onlyL i lm x
theorem s_loc (a : At c sc d) (i : Nat) {x : Str} {p : Pos} {v : MV} (hx : okS sc lm i x = true) (h : ku (putAt i (x, v) lm) M) : TA c (.Name x p) v lm M ku := by
  simp only [okS, Bool.and_eq_true, beq_iff_eq] at hx
  refine fun u hu R s I => wpNo (ta_local (ku := fun lm' M' => lm' = setL x v lm ∧ M' = M) a.ok (by rw [a.s]; exact hx.1) ⟨rfl, rfl⟩ u hu R s I) fun _ s' ⟨lm', M', I', e, e1, e2⟩ => ?_
  subst e1 e2
  refine ⟨_, _, I'.locs fun y b q => ?_, e, h⟩
  have := put_lookup hx.2 q
  rw [setL_lookup]
  split at this
  · rename_i z; rw [if_pos z, this]
  · rename_i z; rw [if_neg z]; exact this
theorem s_field (a : At c sc d) (C : Addr) (i : Nat) {x dx : Addr} {fs : List (Str × MV)} {name : Str} {v : MV} {M' : Led} (hc : (ftab.contains (C, name) && onlyL i fs name) = true) (hx : (x, MO.inst C dx) ∈ M) (U : Up dx (.flds fs) (.flds (putAt i (name, v) fs)) M M') (hz : Nat.blt fs.length 100 = true) (h : ku lm M') :
    ∀ u w, RV (.ref x) u → RV v w → Tu c (setAttr u name w) lm M ku := by
  simp only [Bool.and_eq_true] at hc
  rw [← set_put hc.2] at U
  exact set_field a.ok (by rw [a.k]; exact field_of _ hc.1) hx U (by simpa [Nat.blt_eq] using hz) h
end
end Mine
end

section
open PySem PySem.W PySem.Calls PyProof.Rows
set_option Elab.async false
set_option maxRecDepth 100000
set_option linter.unusedVariables false
namespace Mine

theorem zip_rev {names : List Str} {as : List MV} {vs : List Value} (hr : RVs as vs) (hn : names.Nodup) (hl : names.length = as.length) : LocR (names.zip as) (fun y => (names.zip vs).reverse.lookup y) := by
  induction names generalizing as vs with
  | nil => intro x a e; cases e
  | cons n names ih =>
    match as, vs, hr with
    | a :: as, v :: vs, hr =>
      have hn' := List.nodup_cons.mp hn
      have ih' := ih hr.2 hn'.2 (by simpa using hl)
      have notin : (names.zip vs).reverse.lookup n = none := by
        rw [List.lookup_eq_none_iff]
        intro p hp
        have := (List.of_mem_zip (List.mem_reverse.mp hp)).1
        exact bne_iff_ne.mpr fun (e : n = p.1) => hn'.1 (by rw [e]; exact this)
      intro x b e
      rw [List.zip_cons_cons, List.lookup_cons] at e
      show ∃ u, ((n, v) :: names.zip vs).reverse.lookup x = some u ∧ RV b u
      rw [List.reverse_cons, List.lookup_append]
      by_cases q : x = n
      · subst q
        simp at e; subst e
        refine ⟨v, ?_, hr.1⟩
        rw [notin]; simp [List.lookup_cons]
      · have q1 : (x == n) = false := beq_eq_false_iff_ne.mpr q
        simp only [q1] at e
        obtain ⟨u, hu, hb⟩ := ih' x b e
        have hu : List.lookup x (names.zip vs).reverse = some u := hu
        exact ⟨u, by rw [hu]; rfl, hb⟩
    | [], [], _ => simp at hl
    | a :: as, [], hr => exact hr.elim
    | [], v :: vs, hr => exact hr.elim

noncomputable def noDup : List Str → Bool
  | [] => true
  | x :: r => r.all (fun y => x != y) && noDup r
theorem nodup_of : ∀ {l : List Str}, noDup l = true → l.Nodup
  | [], _ => List.nodup_nil
  | x :: r, h => by
    simp only [noDup, Bool.and_eq_true] at h
    refine List.nodup_cons.mpr ⟨fun hm => ?_, nodup_of h.2⟩
    have := List.all_eq_true.mp h.1 x hm
    simp at this
noncomputable def fnNames (s : Stmt) : List Str := (sArgs s).args.map (·.arg)
noncomputable def fnOk (s : Stmt) (n : Nat) : Bool := noDup (fnNames s) && (fnNames s).all (fun x => (sScope s).names.lookup x == some .local) && (fnNames s).length == n &&
  (sScope s).names.all (fun x => x.2 != .cell) && !(sScope s).isCoroutine && !(sScope s).isGenerator && (sScope s).kind == .function

theorem does_fn {prog : Program} {w : World} (f : Addr) (s : Stmt) {d : Nat} {as : List MV} {M : Led} {P : MV → Led → Prop} {oc : Value} {od : Option Addr} {osl : Array (Option Value)} {name qual : Str} {dV kV doc pm cdv ct : Value} {an : Option Addr} {lm : Loc}
    (ho : (KK w.params).lookup f = some ⟨oc, od, .func (fnOf name qual (sArgs s) (sBody s) (sScope s) dV kV doc pm an cdv ct), osl⟩) (hcd : codeIn (KK w.params) cdv qual = true)
    (hb : ∀ (vs : List Value) (s' : Shared), (KK w.params).In s'.heap → RVs as vs → ∃ vs', RVs as vs' ∧ BindsTo s' (fnOf name qual (sArgs s) (sBody s) (sScope s) dV kV doc pm an cdv ct) ⟨vs, []⟩ ((fnNames s).zip vs'))
    (hok : fnOk s as.length = true) (hlm : (fnNames s).zip as = lm)
    (body : ∀ c : Cx, At c (sScope s) d → Tf c (execs (sBody s) c.env) lm M (PN P) (PR P)) : Does prog w (KK w.params) (.ref f) (d + 1) as M P := by
  simp only [fnOk, Bool.and_eq_true, beq_iff_eq, Bool.not_eq_true', bne_iff_ne] at hok
  obtain ⟨⟨⟨⟨⟨⟨h1, h2⟩, h3⟩, h4⟩, h5⟩, h6⟩, h7⟩ := hok
  refine does_of_def ho hcd (fun s' vs X hr => ?_) (fun c ok _ hw hK hd hs => body c ⟨ok, by rw [hK, hw], hs, by rw [hd]; exact Nat.le_refl _⟩) (fun x hx => ?_) h5 h6 h7
  · obtain ⟨vs', hr', hB⟩ := hb vs s' X hr
    refine ⟨_, hB, by subst hlm; exact zip_rev hr' (nodup_of h1) h3, fun y hy => ?_⟩
    have := List.all_eq_true.mp h2 y.1 (List.of_mem_zip hy).1
    simpa using this
  · have := List.all_eq_true.mp h4 x hx
    simpa using this

theorem bind0 {fd : FuncData} {names : List Str} {as : List MV} (ha : as.length = 0) (h : bindArgs fd ⟨[], []⟩ = pure (names.zip [])) (vs : List Value) (s' : Shared) (hr : RVs as vs) : ∃ vs', RVs as vs' ∧ BindsTo s' fd ⟨vs, []⟩ (names.zip vs') := by
  obtain rfl := List.eq_nil_of_length_eq_zero (hr.length.trans ha)
  exact ⟨_, hr, BindsTo.of_eq h⟩
theorem bind1 {fd : FuncData} {names : List Str} {as : List MV} (ha : as.length = 1) (h : ∀ v1, bindArgs fd ⟨[v1], []⟩ = pure (names.zip [v1])) (vs : List Value) (s' : Shared) (hr : RVs as vs) : ∃ vs', RVs as vs' ∧ BindsTo s' fd ⟨vs, []⟩ (names.zip vs') := by
  obtain ⟨v1, rfl⟩ := len1 (hr.length.trans ha)
  exact ⟨_, hr, BindsTo.of_eq (h v1)⟩
theorem bind2 {fd : FuncData} {names : List Str} {as : List MV} (ha : as.length = 2) (h : ∀ v1 v2, bindArgs fd ⟨[v1, v2], []⟩ = pure (names.zip [v1, v2])) (vs : List Value) (s' : Shared) (hr : RVs as vs) : ∃ vs', RVs as vs' ∧ BindsTo s' fd ⟨vs, []⟩ (names.zip vs') := by
  obtain ⟨v1, v2, rfl⟩ := len2 (hr.length.trans ha)
  exact ⟨_, hr, BindsTo.of_eq (h v1 v2)⟩
theorem bind3 {fd : FuncData} {names : List Str} {as : List MV} (ha : as.length = 3) (h : ∀ v1 v2 v3, bindArgs fd ⟨[v1, v2, v3], []⟩ = pure (names.zip [v1, v2, v3])) (vs : List Value) (s' : Shared) (hr : RVs as vs) : ∃ vs', RVs as vs' ∧ BindsTo s' fd ⟨vs, []⟩ (names.zip vs') := by
  obtain ⟨v1, v2, v3, rfl⟩ := len3 (hr.length.trans ha)
  exact ⟨_, hr, BindsTo.of_eq (h v1 v2 v3)⟩
theorem bind4 {fd : FuncData} {names : List Str} {as : List MV} (ha : as.length = 4) (h : ∀ v1 v2 v3 v4, bindArgs fd ⟨[v1, v2, v3, v4], []⟩ = pure (names.zip [v1, v2, v3, v4])) (vs : List Value) (s' : Shared) (hr : RVs as vs) : ∃ vs', RVs as vs' ∧ BindsTo s' fd ⟨vs, []⟩ (names.zip vs') := by
  obtain ⟨v1, v2, v3, v4, rfl⟩ := len4 (hr.length.trans ha)
  exact ⟨_, hr, BindsTo.of_eq (h v1 v2 v3 v4)⟩
theorem bind5 {fd : FuncData} {names : List Str} {as : List MV} (ha : as.length = 5) (h : ∀ v1 v2 v3 v4 v5, bindArgs fd ⟨[v1, v2, v3, v4, v5], []⟩ = pure (names.zip [v1, v2, v3, v4, v5])) (vs : List Value) (s' : Shared) (hr : RVs as vs) : ∃ vs', RVs as vs' ∧ BindsTo s' fd ⟨vs, []⟩ (names.zip vs') := by
  obtain ⟨v1, v2, v3, v4, v5, rfl⟩ := len5 (hr.length.trans ha)
  exact ⟨_, hr, BindsTo.of_eq (h v1 v2 v3 v4 v5)⟩
theorem bind6 {fd : FuncData} {names : List Str} {as : List MV} (ha : as.length = 6) (h : ∀ v1 v2 v3 v4 v5 v6, bindArgs fd ⟨[v1, v2, v3, v4, v5, v6], []⟩ = pure (names.zip [v1, v2, v3, v4, v5, v6])) (vs : List Value) (s' : Shared) (hr : RVs as vs) : ∃ vs', RVs as vs' ∧ BindsTo s' fd ⟨vs, []⟩ (names.zip vs') := by
  obtain ⟨v1, v2, v3, v4, v5, v6, rfl⟩ := len6 (hr.length.trans ha)
  exact ⟨_, hr, BindsTo.of_eq (h v1 v2 v3 v4 v5 v6)⟩
section
variable {c : Cx} {sc : Scope} {d : Nat} {lm : Loc} {M : Led} {k : MV → Led → Prop}
/-- a contract used where the ledger holds more -/
theorem use (a : At c sc d) {f : MV} {as : List MV} {n : Nat} {M₀ X : Led} {P : MV → Led → Prop} (h : ∀ prog w, Does prog w (KK w.params) f n as M₀ P) (hd : n ≤ d) (p : Less M (M₀ ++ X)) (hk : ∀ a M₁, P a M₁ → k a (M₁ ++ X)) : TC c f as lm M k :=
  tc_frame a.ok (by rw [a.k]; exact h c.prog c.w) (Nat.le_trans hd a.d) p hk
/-- a contract used upon the whole ledger -/
theorem use' (a : At c sc d) {f : MV} {as : List MV} {n : Nat} {P : MV → Led → Prop} (h : ∀ prog w, Does prog w (KK w.params) f n as M P) (hd : n ≤ d) (hk : ∀ a M₁, P a M₁ → k a M₁) : TC c f as lm M k :=
  tc_does a.ok (by rw [a.k]; exact ((h c.prog c.w).deeper (Nat.le_trans hd a.d)).mono hk)
end
theorem makes {prog : Program} {w : World} (C fI : Addr) {d : Nat} {as : List MV} {M : Led} {P : MV → Led → Prop} (hc : ctab.contains (C, fI) = true)
    (h : ∀ x dx, Does prog w (KK w.params) (.ref fI) d (.ref x :: as) ((x, .inst C dx) :: (dx, .flds []) :: M) (fun r M' => r = .none ∧ P (.ref x) M')) : Does prog w (KK w.params) (.ref C) (d + 1) as M P := does_make (make_of w.params hc) h
end Mine
end

section
open PySem PySem.W PySem.Calls PyProof.Rows
set_option Elab.async false
set_option maxRecDepth 100000
set_option linter.unusedVariables false
namespace Mine
theorem sub_nil {lm : Loc} : Sub lm [] := fun x a e => nomatch e
theorem sub_cons {lm r : Loc} {x : Str} {v : MV} (i : Nat) (hx : fewL i lm x = true) (e : nthL lm i = some (x, v)) (h : Sub lm r) : Sub lm ((x, v) :: r) := by
  intro y a q
  rw [List.lookup_cons] at q
  by_cases z : y = x
  · subst z; simp at q; subst q; exact lookup_nth hx e
  · have z1 : (y == x) = false := beq_eq_false_iff_ne.mpr z
    simp only [z1] at q; exact h y a q

section
variable {c : Cx} {sc : Scope} {d : Nat} {lm : Loc} {M : Led} {k : MV → Led → Prop} {ku : Loc → Led → Prop} {kb : Bool → Led → Prop} {kN : Loc → Led → Prop} {kR : MV → Led → Prop}
theorem ev_index {value slice : Expr} {pos : Pos} (h : Tv c (eval value c.env) lm M fun o M₁ => Tv c (eval slice c.env) lm M₁ fun i M₂ => T2 c (subscriptTail value slice) o i lm M₂ k) : Tv c (eval (.Subscript value slice pos) c.env) lm M k := by
  intro R s I
  exact Subscript_ (h.use I fun o v M₁ s₁ ho I₁ e₁ h₁ => h₁.use I₁ fun i u M₂ s₂ hi I₂ e₂ h₂ => (h₂ v u ho hi).use I₂ fun b z M₃ s₃ hb I₃ e₃ h₃ => ⟨b, M₃, hb, I₃, (e₁.trans e₂).trans e₃, h₃⟩)

theorem sub_tup {value slice : Expr} {t : Addr} {xs : List MV} {i : Int} {x : MV} (ht : (t, MO.tup xs) ∈ M) (h0 : 0 ≤ i) (hi : i < 1000) (hx : xs[i.toNat]? = some x) (h : k x M)
    (hs : ∀ tk, subscripted slice false (.ref t) (.int i tk) = operate [.ref t, .int i tk] (getItem (.ref t) (.int i tk))) : T2 c (subscriptTail value slice) (.ref t) (.int i) lm M k := by
  rintro _ v2 ⟨⟩ hv2 R s I
  obtain ⟨tk, rfl⟩ : ∃ tk, v2 = .int i tk := by cases hv2; exact ⟨_, rfl⟩
  obtain ⟨vs, n, ho, hT, hr⟩ := I.tup ht
  obtain ⟨v, hv, hrv⟩ := hr.get' hx
  have hlt := (List.getElem?_eq_some_iff.mp hx).1
  have hlen := hr.length
  refine tail_any ⟨_, ho, rfl⟩ slot_tuple_getitem.lookup (PyProof.Rows.getItem_tuple hT (j := i.toNat) (x := v) (by lia) (by lia) ?_ (by simpa using hv) ⟨_, M, hrv, I, .refl _, h⟩) (hs tk)
  unfold seqIndex?
  simp only [show ¬ i < 0 by lia, if_false]
  have : (decide (0 ≤ i) && decide (i < (vs.toArray.size : Int))) = true := by
    simp only [Bool.and_eq_true, decide_eq_true_eq, List.size_toArray, hlen]
    lia
  rw [this]; rfl

theorem e_list {es : List Expr} {pos : Pos} (h : Args' c pos es lm M fun as M₁ => as.length ≤ 1000 ∧ ∀ q, k (.ref q) ((q, .lst as) :: M₁)) : Tv c (eval (.List es pos) c.env) lm M k :=
  ev_list fun R s I => wpNo (h R s I) fun vs s' ⟨as, M', h1, h2, h3, h4, h5⟩ => ⟨as, M', h1, h2, h3, by rw [sizeLine_eq]; lia, h5⟩
theorem e_tuple {es : List Expr} {n : Nat} {pos : Pos} (h : Args' c pos es lm M fun as M₁ => as.length ≤ 1000 ∧ ∀ q, k (.ref q) ((q, .tup as) :: M₁)) : Tv c (eval (.Tuple es n pos) c.env) lm M k :=
  ev_tuple fun R s I => wpNo (h R s I) fun vs s' ⟨as, M', h1, h2, h3, h4, h5⟩ => ⟨as, M', h1, h2, h3, by rw [sizeLine_eq]; lia, h5⟩
theorem szOk {n : Nat} (h : n ≤ 10000) : n ≤ sizeLine := by rw [sizeLine_eq]; lia
end

/-- an assignment of a plain value to a plain target -/
theorem Less.mem {M M₀ : Led} {x : Addr × MO} (h : Less M M₀) (hx : x ∈ M₀) : x ∈ M := by
  obtain ⟨X, p⟩ := h
  exact p.mem_iff.mpr (List.mem_append_left _ hx)
theorem Less.swap {E A R : Led} : Less (E ++ (A ++ R)) (A ++ (E ++ R)) := .perm (by
  rw [← List.append_assoc, ← List.append_assoc]; exact List.perm_append_comm.append_right R)
end Mine
end

section
open PySem PySem.W PySem.Calls PyProof.Rows
set_option Elab.async false
set_option maxRecDepth 100000
set_option linter.unusedVariables false
namespace Mine
theorem cne_true {i j : Int} (h : (!decide (i = j)) = true) : i ≠ j := by simpa using h
theorem cne_false {i j : Int} (h : (!decide (i = j)) = false) : i = j := by simpa using h
theorem lne_true {i j : List Int} (h : (!decide (i = j)) = true) : i ≠ j := by simpa using h
theorem lne_false {i j : List Int} (h : (!decide (i = j)) = false) : i = j := by simpa using h
theorem ilst_len (xs : List Int) : (ilst xs).length = xs.length := by simp [ilst]
theorem ilst_app (xs ys : List Int) : ilst xs ++ ilst ys = ilst (xs ++ ys) := by simp [ilst]
theorem cut_to (xs : List Int) {p : Int} (h : 0 ≤ p) : cut (ilst xs) none (some p) = ilst (xs.take p.toNat) := by
  unfold cut kms_lo kms_hi ilst
  simp only [show ¬ p < 0 by lia, if_false, List.drop_zero, Nat.sub_zero, List.length_map, List.map_take]
  rw [List.take_eq_take_iff]; simp
theorem cut_from (xs : List Int) {p : Int} (h : 0 ≤ p) : cut (ilst xs) (some p) none = ilst (xs.drop p.toNat) := by
  unfold cut kms_lo kms_hi ilst
  simp only [show ¬ p < 0 by lia, if_false, List.length_map, List.map_drop]
  rw [List.take_of_length_le (by simp)]
  by_cases q : p.toNat ≤ xs.length
  · rw [Nat.min_eq_left q]
  · rw [Nat.min_eq_right (by lia), List.drop_of_length_le (by simp), List.drop_of_length_le (by simp; lia)]
theorem cut_mid (xs : List Int) {p r : Int} (h : 0 ≤ p) (h' : p ≤ r) : cut (ilst xs) (some p) (some r) = ilst ((xs.drop p.toNat).take (r.toNat - p.toNat)) := by
  unfold cut kms_lo kms_hi ilst
  dsimp only
  rw [if_neg (Int.not_lt.mpr h), if_neg (Int.not_lt.mpr (Int.le_trans h h')), List.length_map, List.map_take, List.map_drop]
  generalize p.toNat = a
  generalize r.toNat = b
  by_cases q : a ≤ xs.length
  · rw [Nat.min_eq_left q, List.take_eq_take_iff, List.length_drop, List.length_map]; clear h h'; lia
  · have q' := Nat.le_of_not_le q
    rw [Nat.min_eq_right q', List.drop_of_length_le (by rw [List.length_map]; exact Nat.le_refl _), List.drop_of_length_le (by rw [List.length_map]; exact q'), List.take_nil, List.take_nil]
theorem cut_nat (xs : List Int) (p r : Nat) {x y : Int} (ex : x = p) (ey : y = r) (h : p ≤ r) : cut (ilst xs) (some x) (some y) = ilst ((xs.drop p).take (r - p)) := by
  subst ex ey
  rw [cut_mid xs (by lia) (by lia)]; simp
theorem item_at (xs : List Int) {i : Int} {x : Int} (h : 0 ≤ i) (e : xs[i.toNat]? = some x) : itemAt (ilst xs) i = some (.int x) := by
  unfold itemAt ilst
  rw [if_pos h, List.getElem?_map, e]; rfl
theorem item_ref {xs : List MV} {i : Int} {x : MV} (h : 0 ≤ i) (e : xs[i.toNat]? = some x) : itemAt xs i = some x := by
  unfold itemAt; rw [if_pos h, e]
theorem one_of {ns : List Int} {i : Nat} {iv : IV} (h : ((ilst ns).map IV.one)[i]? = some iv) : ∃ n, ns[i]? = some n ∧ iv = .one (.int n) := by
  unfold ilst at h
  rw [List.map_map, List.getElem?_map, Option.map_eq_some_iff] at h
  obtain ⟨n, hn, e⟩ := h
  exact ⟨n, hn, e.symm⟩
theorem rng_of {n : Nat} {i : Nat} {iv : IV} (h : ((rng 0 n 1).map fun i => IV.one (.int i))[i]? = some iv) : i < n ∧ iv = .one (.int i) := by
  unfold rng at h
  rw [List.map_map, List.getElem?_map, Option.map_eq_some_iff] at h
  obtain ⟨m, hm, e⟩ := h
  have hlt : i < n := by
    have := (List.getElem?_eq_some_iff.mp hm).1
    simpa using this
  rw [List.getElem?_range hlt] at hm
  cases hm
  refine ⟨hlt, e.symm.trans ?_⟩
  simp
theorem rng_len (a : Int) (n : Nat) (d : Int) : ((rng a n d).map fun i => IV.one (.int i)).length = n := by simp [rng]
end Mine
end

local macro_rules | `(tactic| trivial) => `(tactic| (first | assumption | exact List.Mem.head _ | (apply List.Mem.tail; trivial)))
local macro_rules | `(tactic| decreasing_tactic) => `(tactic| (first | exact Mine.Up.head | (apply Mine.Up.tail; decreasing_tactic)))
section
open PySem PySem.W PySem.Calls PyProof.Rows
set_option Elab.async false
set_option maxRecDepth 100000
set_option linter.unusedVariables false
namespace Mine
section
variable {c : Cx} {sc : Scope} {d : Nat} {lm : Loc} {M : Led} {k : MV → Led → Prop}
theorem d_column_behind (M : Led) {col code : Int} (hc : code ≠ 9) (prog : Program) (w : World) : Does prog w (KK w.params) (.ref 163) 1 [.int col, .int code, .int 8] M (fun r M' => r = .int (col + 1) ∧ M' = M) := by
  refine does_fn 163 (fS 26) rfl (by kernel_rfl) (fun vs s' _ => bind3 rfl (fun v1 v2 v3 => by kernel_rfl) vs s') (by kernel_rfl) rfl fun c a => ?_
  refine st_cons (st_ret ?_)
  refine ev_ifexp (tb_compare1 rfl ?_)
  refine r_loc a 1 (by kernel_rfl) rfl ?_
  refine r_gint a 9 399 (by kernel_rfl) ?_
  refine cmp_eq ⟨_, rfl, fun hb => ?_, fun hb => ?_⟩
  · exact absurd (of_decide_eq_true hb) hc
  · refine ev_binop ?_
    refine r_loc a 0 (by kernel_rfl) rfl ?_
    refine ev_int ?_
    refine bin_add ?_
    exact ⟨M, .refl _, rfl, rfl⟩
theorem k_column_behind (a : At c sc d) {col code : Int} (hd : 1 ≤ d) (hc : code ≠ 9) (h : k (.int (col + 1)) M) : TC c (.ref 163) [.int col, .int code, .int 8] lm M k :=
  use' a (fun p w => d_column_behind M hc p w) hd fun _ _ zz => by obtain ⟨e, e'⟩ := zz; subst e e'; exact h

theorem d_column_at {M : Led} {row : Addr} {xs : List Int} {p : Int} (hr : (row, MO.lst (ilst xs)) ∈ M) (hp : 0 ≤ p) (h9 : (9 : Int) ∉ xs) (prog : Program) (w : World) :
    Does prog w (KK w.params) (.ref 170) 2 [.ref row, .int p, .int 8] M (fun r M' => r = .int (xs.take p.toNat).length ∧ M' = M) := by
  refine does_fn 170 (fS 27) rfl (by kernel_rfl) (fun vs s' _ => bind3 rfl (fun v1 v2 v3 => by kernel_rfl) vs s') (by kernel_rfl) rfl fun c a => ?_
  refine st_cons ?_
  refine st_assign rfl rfl rfl ?_
  refine ev_int ?_
  refine s_loc a 3 (by kernel_rfl) ?_
  refine st_cons ?_
  refine st_for (fun _ => rfl) ?_
  refine ti_list a.ok ?_
  refine ev_slice ?_
  refine r_loc a 0 (by kernel_rfl) rfl ?_
  refine part_none ?_
  refine part_some ?_
  refine r_loc a 1 (by kernel_rfl) rfl ?_
  refine ⟨_, _, _, _, rfl, by trivial, rfl, rfl, fun q1 => ?_⟩
  refine ⟨_, _, M, rfl, .refl _, ?_⟩
  rw [cut_to xs hp]
  refine ⟨fun n lm' M' => lm' = [(Str.ofString "row", .ref row), (Str.ofString "place", .int p), (Str.ofString "tab", .int 8), (Str.ofString "column", .int n)] ∧ M' = M, ⟨_, M, .refl _, .refl _, rfl, rfl⟩, fun i iv lm M' hi hJ => ?_, fun lm M' hJ => ?_⟩
  · obtain ⟨e1, e2⟩ := hJ
    subst e1 e2
    obtain ⟨n, hn, e⟩ := one_of hi
    subst e
    refine ti_one ?_
    refine s_loc a 4 (by kernel_rfl) ?_
    refine st_cons ?_
    refine st_assign rfl rfl rfl ?_
    refine c_ref a 163 (by kernel_rfl) rfl ?_
    refine a_cons rfl ?_
    refine r_loc a 3 (by kernel_rfl) rfl ?_
    refine a_cons rfl ?_
    refine r_loc a 4 (by kernel_rfl) rfl ?_
    refine a_cons rfl ?_
    refine r_loc a 2 (by kernel_rfl) rfl ?_
    refine a_nil ?_
    refine k_column_behind a (Nat.le_of_ble_eq_true rfl) (fun q => h9 (q ▸ List.mem_of_mem_take (List.mem_of_getElem? hn))) ?_
    refine s_loc a 3 (by kernel_rfl) ?_
    refine st_nil ?_
    exact ⟨_, _, sub_cons 0 (by kernel_rfl) rfl (sub_cons 1 (by kernel_rfl) rfl (sub_cons 2 (by kernel_rfl) rfl (sub_cons 3 (by kernel_rfl) rfl sub_nil))), .refl _, rfl, rfl⟩
  · obtain ⟨e1, e2⟩ := hJ
    subst e1 e2
    refine st_cons ?_
    refine st_ret ?_
    refine r_loc a 3 (by kernel_rfl) rfl ?_
    exact ⟨_, .skip (.refl _), by simp [ilst], rfl⟩
end
end Mine
end

section
open PySem PySem.W PySem.Calls PyProof.Rows
set_option Elab.async false
set_option maxRecDepth 100000
set_option linter.unusedVariables false
namespace Mine
theorem Ln.app {α : Type} {xs ys : List α} {m n : Nat} (h : xs.length ≤ m) (h' : ys.length ≤ n) : (xs ++ ys).length ≤ m + n := by rw [List.length_append]; exact Nat.add_le_add h h'
theorem Ln.tk {α : Type} {xs : List α} {m i : Nat} (h : xs.length ≤ m) : (xs.take i).length ≤ m := by rw [List.length_take]; exact Nat.le_trans (Nat.min_le_right _ _) h
theorem Ln.tn {α : Type} {xs : List α} {m : Nat} (h : m ≤ 1000) : (xs.take m).length ≤ 1000 := by rw [List.length_take]; exact Nat.le_trans (Nat.min_le_left _ _) h
theorem Ln.dr {α : Type} {xs : List α} {m i : Nat} (h : xs.length ≤ m) : (xs.drop i).length ≤ m := by rw [List.length_drop]; exact Nat.le_trans (Nat.sub_le _ _) h
theorem Ln.rp {α : Type} {x : α} {m n : Nat} (h : n ≤ m) : (List.replicate n x).length ≤ m := by rw [List.length_replicate]; exact h
theorem Ln.il {xs : List Int} {m : Nat} (h : xs.length ≤ m) : (ilst xs).length ≤ m := by rw [ilst_len]; exact h
theorem Ln.le {a m k : Nat} (h : a ≤ m) (e : Nat.ble m k = true) : a ≤ k := Nat.le_trans h (Nat.le_of_ble_eq_true e)
theorem Ln.two {a b m n k : Nat} (h : a ≤ m) (h' : b ≤ n) (e : Nat.ble (m + n) k = true) : a + b ≤ k := Ln.le (Nat.add_le_add h h') e
theorem Ln.w {lo hi : Int} (h0 : 0 ≤ lo) (h2 : hi ≤ 100) : (hi - lo).toNat ≤ 100 := by lia
theorem Ln.w1 {lo hi : Int} (h0 : 0 ≤ lo) (h2 : hi ≤ 100) : 1 * (hi - lo).toNat ≤ 256 := by lia
theorem Ln.wr {lo hi : Int} (h0 : 0 ≤ lo) (h1 : lo ≤ hi) (h2 : hi ≤ 100) : -1000 ≤ hi - lo ∧ hi - lo < 1000 := by lia
theorem Ln.m1 {c : Int} {n : Nat} (h : c ≤ 100) : 1 * (max 0 (c - (n : Int))).toNat ≤ 256 := by lia
theorem Ln.m {c : Int} {n : Nat} (h : c ≤ 100) : (max 0 (c - (n : Int))).toNat ≤ 100 := by lia
theorem Ln.mr {c : Int} {n : Nat} (h : c ≤ 100) : -1000 ≤ max 0 (c - (n : Int)) ∧ max 0 (c - (n : Int)) < 1000 := by lia
section
variable {c : Cx} {sc : Scope} {d : Nat} {lm : Loc} {M : Led} {k : MV → Led → Prop}
theorem k_column_at (a : At c sc d) {row : Addr} {xs : List Int} {p : Int} (hd : 2 ≤ d) (hr : (row, MO.lst (ilst xs)) ∈ M) (hp : 0 ≤ p) (h9 : (9 : Int) ∉ xs) (h : k (.int (xs.take p.toNat).length) M) : TC c (.ref 170) [.ref row, .int p, .int 8] lm M k :=
  use' a (fun p w => d_column_at hr hp h9 p w) hd fun _ _ zz => by obtain ⟨e, e'⟩ := zz; subst e e'; exact h

theorem d_row_columns {M : Led} {row : Addr} {xs : List Int} (hr : (row, MO.lst (ilst xs)) ∈ M) (h9 : (9 : Int) ∉ xs) (prog : Program) (w : World) :
    Does prog w (KK w.params) (.ref 177) 3 [.ref row, .int 8] M (fun r M' => r = .int xs.length ∧ M' = M) := by
  refine does_fn 177 (fS 28) rfl (by kernel_rfl) (fun vs s' _ => bind2 rfl (fun v1 v2 => by kernel_rfl) vs s') (by kernel_rfl) rfl fun c a => ?_
  refine st_cons ?_
  refine st_ret ?_
  refine c_ref a 170 (by kernel_rfl) rfl ?_
  refine a_cons rfl ?_
  refine r_loc a 0 (by kernel_rfl) rfl ?_
  refine a_cons rfl ?_
  refine c_blt a "len" (by kernel_rfl) rfl ?_
  refine a_cons rfl ?_
  refine r_loc a 0 (by kernel_rfl) rfl ?_
  refine a_nil ?_
  refine tc_len (by trivial) ?_
  refine a_cons rfl ?_
  refine r_loc a 1 (by kernel_rfl) rfl ?_
  refine a_nil ?_
  refine k_column_at a (Nat.le_of_ble_eq_true rfl) hr (by lia) h9 ?_
  exact ⟨_, .refl _, by simp [ilst], rfl⟩
theorem k_row_columns (a : At c sc d) {row : Addr} {xs : List Int} (hd : 3 ≤ d) (hr : (row, MO.lst (ilst xs)) ∈ M) (h9 : (9 : Int) ∉ xs) (h : k (.int xs.length) M) : TC c (.ref 177) [.ref row, .int 8] lm M k :=
  use' a (fun p w => d_row_columns hr h9 p w) hd fun _ _ zz => by obtain ⟨e, e'⟩ := zz; subst e e'; exact h

theorem d_place_at {M : Led} {row : Addr} {xs : List Int} {col : Int} (hr : (row, MO.lst (ilst xs)) ∈ M) (hc : 0 ≤ col) (h9 : (9 : Int) ∉ xs) (hz : xs.length ≤ 10000) (prog : Program) (w : World) :
    Does prog w (KK w.params) (.ref 184) 2 [.ref row, .int col, .int 8] M (fun r M' => r = .int (min col xs.length) ∧ M' = M) := by
  refine does_fn 184 (fS 29) rfl (by kernel_rfl) (fun vs s' _ => bind3 rfl (fun v1 v2 v3 => by kernel_rfl) vs s') (by kernel_rfl) rfl fun c a => ?_
  refine st_cons ?_
  refine st_assign rfl rfl rfl ?_
  refine ev_int ?_
  refine s_loc a 3 (by kernel_rfl) ?_
  refine st_cons ?_
  refine st_for (fun _ => rfl) ?_
  refine i_typ a "range" (by kernel_rfl) rfl ?_
  refine a_cons rfl ?_
  refine c_blt a "len" (by kernel_rfl) rfl ?_
  refine a_cons rfl ?_
  refine r_loc a 0 (by kernel_rfl) rfl ?_
  refine a_nil ?_
  refine tc_len (by trivial) ?_
  refine a_nil ?_
  refine tic_range1 a.ok (by rw [ilst_len]; lia) ?_
  refine ⟨fun n lm' M' => lm' = [(Str.ofString "row", .ref row), (Str.ofString "column", .int col), (Str.ofString "tab", .int 8), (Str.ofString "now", .int n)] ∧ M' = M ∧ (n : Int) ≤ col, ⟨_, M, .refl _, .refl _, rfl, rfl, hc⟩, fun i iv lm M' hi hJ => ?_, fun lm M' hJ => ?_⟩
  · obtain ⟨e1, e2, hle⟩ := hJ
    subst e1 e2
    obtain ⟨hlt, e⟩ := rng_of hi
    subst e
    have hlt : i < xs.length := by simpa [ilst] using hlt
    refine ti_one ?_
    refine s_loc a 4 (by kernel_rfl) ?_
    refine st_cons ?_
    refine st_if ?_
    refine tb_compare1 rfl ?_
    refine r_loc a 3 (by kernel_rfl) rfl ?_
    refine r_loc a 1 (by kernel_rfl) rfl ?_
    refine cmp_ge ?_
    refine ⟨_, rfl, fun hb => ?_, fun hb => ?_⟩
    · replace hb := of_decide_eq_true hb
      refine st_cons ?_
      refine st_ret ?_
      refine r_loc a 4 (by kernel_rfl) rfl ?_
      exact ⟨_, .refl _, congrArg MV.int (by lia), rfl⟩
    · replace hb := of_decide_eq_false hb
      refine st_nil ?_
      refine st_cons ?_
      refine st_assign rfl rfl rfl ?_
      refine c_ref a 163 (by kernel_rfl) rfl ?_
      refine a_cons rfl ?_
      refine r_loc a 3 (by kernel_rfl) rfl ?_
      refine a_cons rfl ?_
      refine ev_index ?_
      refine r_loc a 0 (by kernel_rfl) rfl ?_
      refine r_loc a 4 (by kernel_rfl) rfl ?_
      refine sub_lst hr (item_at xs (x := xs[i]) (by lia) (by simp [hlt])) ?_ (fun _ => rfl)
      refine a_cons rfl ?_
      refine r_loc a 2 (by kernel_rfl) rfl ?_
      refine a_nil ?_
      refine k_column_behind a (Nat.le_of_ble_eq_true rfl) (fun q => h9 (q ▸ List.getElem_mem hlt)) ?_
      refine s_loc a 3 (by kernel_rfl) ?_
      refine st_nil ?_
      exact ⟨_, _, sub_cons 0 (by kernel_rfl) rfl (sub_cons 1 (by kernel_rfl) rfl (sub_cons 2 (by kernel_rfl) rfl (sub_cons 3 (by kernel_rfl) rfl sub_nil))), .refl _, rfl, rfl, by lia⟩
  · obtain ⟨e1, e2, hle⟩ := hJ
    subst e1 e2
    rw [rng_len] at hle
    refine st_cons ?_
    refine st_ret ?_
    refine c_blt a "len" (by kernel_rfl) rfl ?_
    refine a_cons rfl ?_
    refine r_loc a 0 (by kernel_rfl) rfl ?_
    refine a_nil ?_
    refine tc_len hr ?_
    rw [ilst_len] at hle ⊢
    exact ⟨_, .refl _, congrArg MV.int (by lia), rfl⟩
theorem k_place_at (a : At c sc d) {row : Addr} {xs : List Int} {col : Int} (hd : 2 ≤ d) (hr : (row, MO.lst (ilst xs)) ∈ M) (hc : 0 ≤ col) (h9 : (9 : Int) ∉ xs) (hz : xs.length ≤ 10000) (h : k (.int (min col xs.length)) M) : TC c (.ref 184) [.ref row, .int col, .int 8] lm M k :=
  use' a (fun p w => d_place_at hr hc h9 hz p w) hd fun _ _ zz => by obtain ⟨e, e'⟩ := zz; subst e e'; exact h

theorem d_opened {M : Led} {row : Addr} {xs : List Int} {col : Int} (hr : (row, MO.lst (ilst xs)) ∈ M) (hc : 0 ≤ col) (h9 : (9 : Int) ∉ xs) (hz : xs.length ≤ 10000) (prog : Program) (w : World) :
    Does prog w (KK w.params) (.ref 191) 3 [.ref row, .int col, .int 8] M (fun r M' => r = .ref row ∧ M' = M) := by
  refine does_fn 191 (fS 30) rfl (by kernel_rfl) (fun vs s' _ => bind3 rfl (fun v1 v2 v3 => by kernel_rfl) vs s') (by kernel_rfl) rfl fun c a => ?_
  refine st_cons ?_
  refine st_assign rfl rfl rfl ?_
  refine c_ref a 184 (by kernel_rfl) rfl ?_
  refine a_cons rfl ?_
  refine r_loc a 0 (by kernel_rfl) rfl ?_
  refine a_cons rfl ?_
  refine r_loc a 1 (by kernel_rfl) rfl ?_
  refine a_cons rfl ?_
  refine r_loc a 2 (by kernel_rfl) rfl ?_
  refine a_nil ?_
  refine k_place_at a (Nat.le_of_ble_eq_true rfl) hr hc h9 hz ?_
  refine s_loc a 3 (by kernel_rfl) ?_
  refine st_cons ?_
  refine st_if ?_
  refine tb_bool ?_
  refine all_or_cons ?_
  refine tb_compare1 rfl ?_
  refine r_loc a 3 (by kernel_rfl) rfl ?_
  refine ev_int ?_
  refine cmp_eq ?_
  refine ⟨_, rfl, fun hb => ?_, fun hb => ?_⟩
  · refine ⟨fun _ => ?_, nofun⟩
    refine st_cons ?_
    refine st_ret ?_
    refine r_loc a 0 (by kernel_rfl) rfl ?_
    exact ⟨_, .refl _, rfl, rfl⟩
  · replace hb := of_decide_eq_false hb
    have hlt : (min col xs.length - 1).toNat < xs.length := by lia
    refine all_or_cons ?_
    refine tb_compare1 rfl ?_
    refine ev_index ?_
    refine r_loc a 0 (by kernel_rfl) rfl ?_
    refine ev_binop ?_
    refine r_loc a 3 (by kernel_rfl) rfl ?_
    refine ev_int ?_
    refine bin_sub ?_
    refine sub_lst hr (item_at xs (x := xs[(min col xs.length - 1).toNat]) (by lia) (by simp [hlt])) ?_ (fun _ => rfl)
    refine r_gint a 9 399 (by kernel_rfl) ?_
    refine cmp_ne ?_
    refine ⟨_, rfl, fun hb => ?_, fun hb => ?_⟩
    · refine ⟨fun _ => ?_, nofun⟩
      refine st_cons ?_
      refine st_ret ?_
      refine r_loc a 0 (by kernel_rfl) rfl ?_
      exact ⟨_, .refl _, rfl, rfl⟩
    · exact absurd (cne_false hb) fun q => h9 (q ▸ List.getElem_mem hlt)
theorem k_opened (a : At c sc d) {row : Addr} {xs : List Int} {col : Int} (hd : 3 ≤ d) (hr : (row, MO.lst (ilst xs)) ∈ M) (hc : 0 ≤ col) (h9 : (9 : Int) ∉ xs) (hz : xs.length ≤ 10000) (h : k (.ref row) M) : TC c (.ref 191) [.ref row, .int col, .int 8] lm M k :=
  use' a (fun p w => d_opened hr hc h9 hz p w) hd fun _ _ zz => by obtain ⟨e, e'⟩ := zz; subst e e'; exact h

theorem rep32 (n : Nat) : (List.replicate n [MV.int 32]).flatten = ilst (List.replicate n 32) := by
  induction n with
  | zero => rfl
  | succ n ih => rw [List.replicate_succ, List.flatten_cons, ih, List.replicate_succ]; rfl
theorem d_padded {M : Led} {row : Addr} {xs : List Int} {col : Int} (hr : (row, MO.lst (ilst xs)) ∈ M) (hc : 0 ≤ col ∧ col ≤ 100) (h9 : (9 : Int) ∉ xs) (hz : xs.length ≤ 1000) (prog : Program) (w : World) :
    Does prog w (KK w.params) (.ref 198) 4 [.ref row, .int col, .int 8] M (fun r M' => ∃ q, r = .ref q ∧ M' = (q, .lst (ilst (xs ++ List.replicate (col.toNat - xs.length) 32))) :: M) := by
  refine does_fn 198 (fS 31) rfl (by kernel_rfl) (fun vs s' _ => bind3 rfl (fun v1 v2 v3 => by kernel_rfl) vs s') (by kernel_rfl) rfl fun c a => ?_
  refine st_cons ?_
  refine st_ret ?_
  refine ev_binop ?_
  refine r_loc a 0 (by kernel_rfl) rfl ?_
  refine ev_binop ?_
  refine e_list ?_
  refine a_cons rfl ?_
  refine r_gint a 32 401 (by kernel_rfl) ?_
  refine a_nil ?_
  refine ⟨by decide, fun q1 => ?_⟩
  refine c_blt a "max" (by kernel_rfl) rfl ?_
  refine a_cons rfl ?_
  refine ev_int ?_
  refine a_cons rfl ?_
  refine ev_binop ?_
  refine r_loc a 1 (by kernel_rfl) rfl ?_
  refine c_ref a 177 (by kernel_rfl) rfl ?_
  refine a_cons rfl ?_
  refine r_loc a 0 (by kernel_rfl) rfl ?_
  refine a_cons rfl ?_
  refine r_loc a 2 (by kernel_rfl) rfl ?_
  refine a_nil ?_
  refine k_row_columns a (Nat.le_of_ble_eq_true rfl) (.tail _ hr) h9 ?_
  refine bin_sub ?_
  refine a_nil ?_
  refine tc_max2 a.ok ?_
  refine bin_mul_lst (by trivial) (Ln.mr hc.2) (by exact Ln.m1 hc.2) fun q2 => ?_
  rw [rep32]
  refine bin_add_lst (.tail _ (.tail _ hr)) (.head _) (szOk (by exact Ln.two (Ln.il hz) (Ln.il (Ln.rp (Ln.m hc.2))) rfl)) fun q3 => ?_
  rw [ilst_app]
  refine ⟨_, .cons (.skip (.skip (.refl _))), q3, rfl, ?_⟩
  rw [show (max 0 (col - (xs.length : Int))).toNat = col.toNat - xs.length by lia]
theorem k_padded (a : At c sc d) {row : Addr} {xs : List Int} {col : Int} (hd : 4 ≤ d) (hr : (row, MO.lst (ilst xs)) ∈ M) (hc : 0 ≤ col ∧ col ≤ 100) (h9 : (9 : Int) ∉ xs) (hz : xs.length ≤ 1000)
    (h : ∀ q, k (.ref q) ((q, .lst (ilst (xs ++ List.replicate (col.toNat - xs.length) 32))) :: M)) : TC c (.ref 198) [.ref row, .int col, .int 8] lm M k :=
  use' a (fun p w => d_padded hr hc h9 hz p w) hd fun _ _ zz => by obtain ⟨q, e, e'⟩ := zz; subst e e'; exact h q

theorem d_cut_at {M : Led} {row : Addr} {xs : List Int} {col : Int} (hr : (row, MO.lst (ilst xs)) ∈ M) (hc : 0 ≤ col) (h9 : (9 : Int) ∉ xs) (hz : xs.length ≤ 10000) (prog : Program) (w : World) :
    Does prog w (KK w.params) (.ref 205) 4 [.ref row, .int col, .int 8] M (fun r M' => ∃ t q1 q2, r = .ref t ∧ M' = (t, .tup [.ref q1, .ref q2]) :: (q2, .lst (ilst (xs.drop col.toNat))) :: (q1, .lst (ilst (xs.take col.toNat))) :: M) := by
  refine does_fn 205 (fS 32) rfl (by kernel_rfl) (fun vs s' _ => bind3 rfl (fun v1 v2 v3 => by kernel_rfl) vs s') (by kernel_rfl) rfl fun c a => ?_
  refine st_cons ?_
  refine st_assign rfl rfl rfl ?_
  refine c_ref a 191 (by kernel_rfl) rfl ?_
  refine a_cons rfl ?_
  refine r_loc a 0 (by kernel_rfl) rfl ?_
  refine a_cons rfl ?_
  refine r_loc a 1 (by kernel_rfl) rfl ?_
  refine a_cons rfl ?_
  refine r_loc a 2 (by kernel_rfl) rfl ?_
  refine a_nil ?_
  refine k_opened a (Nat.le_of_ble_eq_true rfl) hr hc h9 hz ?_
  refine s_loc a 3 (by kernel_rfl) ?_
  refine st_cons ?_
  refine st_assign rfl rfl rfl ?_
  refine c_ref a 184 (by kernel_rfl) rfl ?_
  refine a_cons rfl ?_
  refine r_loc a 3 (by kernel_rfl) rfl ?_
  refine a_cons rfl ?_
  refine r_loc a 1 (by kernel_rfl) rfl ?_
  refine a_cons rfl ?_
  refine r_loc a 2 (by kernel_rfl) rfl ?_
  refine a_nil ?_
  refine k_place_at a (Nat.le_of_ble_eq_true rfl) hr hc h9 hz ?_
  refine s_loc a 4 (by kernel_rfl) ?_
  refine st_cons ?_
  refine st_ret ?_
  refine e_tuple ?_
  refine a_cons rfl ?_
  refine ev_slice ?_
  refine r_loc a 3 (by kernel_rfl) rfl ?_
  refine part_none ?_
  refine part_some ?_
  refine r_loc a 4 (by kernel_rfl) rfl ?_
  refine ⟨_, _, _, _, rfl, hr, rfl, rfl, fun q1 => ?_⟩
  refine a_cons rfl ?_
  refine ev_slice ?_
  refine r_loc a 3 (by kernel_rfl) rfl ?_
  refine part_some ?_
  refine r_loc a 4 (by kernel_rfl) rfl ?_
  refine part_none ?_
  refine ⟨_, _, _, _, rfl, .tail _ hr, rfl, rfl, fun q2 => ?_⟩
  refine a_nil ?_
  refine ⟨Nat.le_of_ble_eq_true rfl, fun q3 => ?_⟩
  refine ⟨_, .refl _, q3, q1, q2, rfl, ?_⟩
  rw [cut_to xs (by lia), cut_from xs (by lia), show (min col (xs.length : Int)).toNat = min col.toNat xs.length by lia, ← List.take_eq_take_min, ← List.drop_eq_drop_min]
theorem k_cut_at (a : At c sc d) {row : Addr} {xs : List Int} {col : Int} (hd : 4 ≤ d) (hr : (row, MO.lst (ilst xs)) ∈ M) (hc : 0 ≤ col) (h9 : (9 : Int) ∉ xs) (hz : xs.length ≤ 10000)
    (h : ∀ t q1 q2, k (.ref t) ((t, .tup [.ref q1, .ref q2]) :: (q2, .lst (ilst (xs.drop col.toNat))) :: (q1, .lst (ilst (xs.take col.toNat))) :: M)) : TC c (.ref 205) [.ref row, .int col, .int 8] lm M k :=
  use' a (fun p w => d_cut_at hr hc h9 hz p w) hd fun _ _ zz => by obtain ⟨t, q1, q2, e, e'⟩ := zz; subst e e'; exact h t q1 q2
end
end Mine
end

section
open PySem PySem.W PySem.Calls PyProof.Rows
set_option Elab.async false
set_option maxRecDepth 100000
set_option linter.unusedVariables false
namespace Mine
section
variable {c : Cx} {sc : Scope} {d : Nat} {lm : Loc} {M : Led} {k : MV → Led → Prop}
theorem d_cut_between {M : Led} {row : Addr} {xs : List Int} {lo hi : Int} (hr : (row, MO.lst (ilst xs)) ∈ M) (h0 : 0 ≤ lo) (h1 : lo ≤ hi) (h9 : (9 : Int) ∉ xs) (hz : xs.length ≤ 10000) (prog : Program) (w : World) :
    Does prog w (KK w.params) (.ref 212) 5 [.ref row, .int lo, .int hi, .int 8] M (fun r M' => ∃ t q1 q2 q3, r = .ref t ∧ M' = (t, .tup [.ref q1, .ref q2, .ref q3]) :: (q1, .lst (ilst (xs.take lo.toNat))) :: (q3, .lst (ilst (xs.drop hi.toNat))) :: M) := by
  refine does_fn 212 (fS 33) rfl (by kernel_rfl) (fun vs s' _ => bind4 rfl (fun v1 v2 v3 v4 => by kernel_rfl) vs s') (by kernel_rfl) rfl fun c a => ?_
  refine st_cons ?_
  refine st_assign rfl rfl rfl ?_
  refine c_ref a 205 (by kernel_rfl) rfl ?_
  refine a_cons rfl ?_
  refine r_loc a 0 (by kernel_rfl) rfl ?_
  refine a_cons rfl ?_
  refine r_loc a 2 (by kernel_rfl) rfl ?_
  refine a_cons rfl ?_
  refine r_loc a 3 (by kernel_rfl) rfl ?_
  refine a_nil ?_
  refine k_cut_at a (Nat.le_of_ble_eq_true rfl) hr (by lia) h9 hz fun t q1 q2 => ?_
  refine ta_tuple a.ok rfl (by trivial) rfl ?_
  refine tas_cons ?_
  refine s_loc a 4 (by kernel_rfl) ?_
  refine tas_cons ?_
  refine s_loc a 5 (by kernel_rfl) ?_
  refine tas_nil ?_
  refine st_cons ?_
  refine st_assign rfl rfl rfl ?_
  refine c_ref a 205 (by kernel_rfl) rfl ?_
  refine a_cons rfl ?_
  refine r_loc a 4 (by kernel_rfl) rfl ?_
  refine a_cons rfl ?_
  refine r_loc a 1 (by kernel_rfl) rfl ?_
  refine a_cons rfl ?_
  refine r_loc a 3 (by kernel_rfl) rfl ?_
  refine a_nil ?_
  refine k_cut_at a (Nat.le_of_ble_eq_true rfl) (xs := xs.take hi.toNat) (by trivial) (by lia) (fun q => h9 (List.mem_of_mem_take q)) (Ln.tk hz) fun t2 q3 q4 => ?_
  refine ta_tuple a.ok rfl (by trivial) rfl ?_
  refine tas_cons ?_
  refine s_loc a 6 (by kernel_rfl) ?_
  refine tas_cons ?_
  refine s_loc a 7 (by kernel_rfl) ?_
  refine tas_nil ?_
  refine st_cons ?_
  refine st_ret ?_
  refine e_tuple ?_
  refine a_cons rfl ?_
  refine r_loc a 6 (by kernel_rfl) rfl ?_
  refine a_cons rfl ?_
  refine r_loc a 7 (by kernel_rfl) rfl ?_
  refine a_cons rfl ?_
  refine r_loc a 5 (by kernel_rfl) rfl ?_
  refine a_nil ?_
  refine ⟨Nat.le_of_ble_eq_true rfl, fun q1 => ?_⟩
  refine ⟨_, .cons (.skip (.skip (.cons (.skip (.cons (.skip (.refl _))))))), _, q3, q4, q2, rfl, ?_⟩
  rw [List.take_take, Nat.min_eq_left (by lia)]
theorem k_cut_between (a : At c sc d) {row : Addr} {xs : List Int} {lo hi : Int} (hd : 5 ≤ d) (hr : (row, MO.lst (ilst xs)) ∈ M) (h0 : 0 ≤ lo) (h1 : lo ≤ hi) (h9 : (9 : Int) ∉ xs) (hz : xs.length ≤ 10000)
    (h : ∀ t q1 q2 q3, k (.ref t) ((t, .tup [.ref q1, .ref q2, .ref q3]) :: (q1, .lst (ilst (xs.take lo.toNat))) :: (q3, .lst (ilst (xs.drop hi.toNat))) :: M)) : TC c (.ref 212) [.ref row, .int lo, .int hi, .int 8] lm M k :=
  use' a (fun p w => d_cut_between hr h0 h1 h9 hz p w) hd fun _ _ zz => by obtain ⟨t, q1, q2, q3, e, e'⟩ := zz; subst e e'; exact h t q1 q2 q3

/-- a row as the four ways leave it -/
noncomputable def rowW (way : Nat) (xs : List Int) (lo hi : Nat) (t : List Int) : List Int :=
  if way = 3 then xs.take lo ++ List.replicate (lo - xs.length) 32 ++ t ++ xs.drop hi
  else if xs.length ≤ lo then xs
  else if way = 0 then xs.take lo ++ xs.drop hi
  else if way = 1 then xs.take lo ++ (if xs.drop hi = [] then [] else List.replicate (hi - lo) 32 ++ xs.drop hi)
  else xs.take lo ++ List.replicate (hi - lo) 32 ++ xs.drop lo
/-- what a row's turn leaves: a list that stands, what stood stands -/
noncomputable def RowP (M : Led) (ys : List Int) : MV → Led → Prop := fun r M' => ∃ q X, r = .ref q ∧ M' = X ++ M ∧ (q, MO.lst (ilst ys)) ∈ X ++ M
theorem d_erased {M : Led} {row : Addr} {xs : List Int} {lo hi : Int} (hr : (row, MO.lst (ilst xs)) ∈ M) (h0 : 0 ≤ lo) (h1 : lo ≤ hi) (h2 : hi ≤ 100) (h9 : (9 : Int) ∉ xs) (hz : xs.length ≤ 1000) (prog : Program) (w : World) :
    Does prog w (KK w.params) (.ref 219) 6 [.ref row, .int lo, .int hi, .int 8] M (RowP M (rowW 0 xs lo.toNat hi.toNat [])) := by
  refine does_fn 219 (fS 34) rfl (by kernel_rfl) (fun vs s' _ => bind4 rfl (fun v1 v2 v3 v4 => by kernel_rfl) vs s') (by kernel_rfl) rfl fun c a => ?_
  refine st_cons ?_
  refine st_if ?_
  refine tb_compare1 rfl ?_
  refine c_ref a 177 (by kernel_rfl) rfl ?_
  refine a_cons rfl ?_
  refine r_loc a 0 (by kernel_rfl) rfl ?_
  refine a_cons rfl ?_
  refine r_loc a 3 (by kernel_rfl) rfl ?_
  refine a_nil ?_
  refine k_row_columns a (Nat.le_of_ble_eq_true rfl) hr h9 ?_
  refine r_loc a 1 (by kernel_rfl) rfl ?_
  refine cmp_le ?_
  refine ⟨_, rfl, fun hb => ?_, fun hb => ?_⟩
  · replace hb := of_decide_eq_true hb
    refine st_cons ?_
    refine st_ret ?_
    refine r_loc a 0 (by kernel_rfl) rfl ?_
    exact ⟨_, .refl _, row, [], rfl, rfl, by unfold rowW; rw [if_neg (by decide), if_pos (by lia)]; exact hr⟩
  · replace hb := of_decide_eq_false hb
    refine st_nil ?_
    refine st_cons ?_
    refine st_assign rfl rfl rfl ?_
    refine c_ref a 212 (by kernel_rfl) rfl ?_
    refine a_cons rfl ?_
    refine r_loc a 0 (by kernel_rfl) rfl ?_
    refine a_cons rfl ?_
    refine r_loc a 1 (by kernel_rfl) rfl ?_
    refine a_cons rfl ?_
    refine r_loc a 2 (by kernel_rfl) rfl ?_
    refine a_cons rfl ?_
    refine r_loc a 3 (by kernel_rfl) rfl ?_
    refine a_nil ?_
    refine k_cut_between a (Nat.le_of_ble_eq_true rfl) hr h0 h1 h9 (by lia) fun t q1 q2 q3 => ?_
    refine ta_tuple a.ok rfl (by trivial) rfl ?_
    refine tas_cons ?_
    refine s_loc a 4 (by kernel_rfl) ?_
    refine tas_cons ?_
    refine s_loc a 5 (by kernel_rfl) ?_
    refine tas_cons ?_
    refine s_loc a 6 (by kernel_rfl) ?_
    refine tas_nil ?_
    refine st_cons ?_
    refine st_ret ?_
    refine ev_binop ?_
    refine r_loc a 4 (by kernel_rfl) rfl ?_
    refine r_loc a 6 (by kernel_rfl) rfl ?_
    refine bin_add_lst (by trivial) (by trivial) (szOk (by exact Ln.two (Ln.il (Ln.tk hz)) (Ln.il (Ln.dr hz)) rfl)) fun q => ?_
    rw [ilst_app]
    exact ⟨_, .cons (.skip (.skip (.skip (.refl _)))), q, [_], rfl, rfl, by unfold rowW; rw [if_neg (by decide), if_neg (by lia), if_pos rfl]; exact .head _⟩
theorem k_erased (a : At c sc d) {row : Addr} {xs : List Int} {lo hi : Int} (hd : 6 ≤ d) (hr : (row, MO.lst (ilst xs)) ∈ M) (h0 : 0 ≤ lo) (h1 : lo ≤ hi) (h2 : hi ≤ 100) (h9 : (9 : Int) ∉ xs) (hz : xs.length ≤ 1000)
    (h : ∀ q X, (q, MO.lst (ilst (rowW 0 xs lo.toNat hi.toNat []))) ∈ X ++ M → k (.ref q) (X ++ M)) : TC c (.ref 219) [.ref row, .int lo, .int hi, .int 8] lm M k :=
  use' a (fun p w => d_erased hr h0 h1 h2 h9 hz p w) hd fun _ _ zz => by obtain ⟨q, X, e, e', hm⟩ := zz; subst e e'; exact h q X hm
theorem d_cleared {M : Led} {row : Addr} {xs : List Int} {lo hi : Int} (hr : (row, MO.lst (ilst xs)) ∈ M) (h0 : 0 ≤ lo) (h1 : lo ≤ hi) (h2 : hi ≤ 100) (h9 : (9 : Int) ∉ xs) (hz : xs.length ≤ 1000) (prog : Program) (w : World) :
    Does prog w (KK w.params) (.ref 226) 6 [.ref row, .int lo, .int hi, .int 8] M (RowP M (rowW 1 xs lo.toNat hi.toNat [])) := by
  refine does_fn 226 (fS 35) rfl (by kernel_rfl) (fun vs s' _ => bind4 rfl (fun v1 v2 v3 v4 => by kernel_rfl) vs s') (by kernel_rfl) rfl fun c a => ?_
  refine st_cons ?_
  refine st_if ?_
  refine tb_compare1 rfl ?_
  refine c_ref a 177 (by kernel_rfl) rfl ?_
  refine a_cons rfl ?_
  refine r_loc a 0 (by kernel_rfl) rfl ?_
  refine a_cons rfl ?_
  refine r_loc a 3 (by kernel_rfl) rfl ?_
  refine a_nil ?_
  refine k_row_columns a (Nat.le_of_ble_eq_true rfl) hr h9 ?_
  refine r_loc a 1 (by kernel_rfl) rfl ?_
  refine cmp_le ?_
  refine ⟨_, rfl, fun hb => ?_, fun hb => ?_⟩
  · replace hb := of_decide_eq_true hb
    refine st_cons ?_
    refine st_ret ?_
    refine r_loc a 0 (by kernel_rfl) rfl ?_
    exact ⟨_, .refl _, row, [], rfl, rfl, by unfold rowW; rw [if_neg (by decide), if_pos (by lia)]; exact hr⟩
  · replace hb := of_decide_eq_false hb
    refine st_nil ?_
    refine st_cons ?_
    refine st_assign rfl rfl rfl ?_
    refine c_ref a 212 (by kernel_rfl) rfl ?_
    refine a_cons rfl ?_
    refine r_loc a 0 (by kernel_rfl) rfl ?_
    refine a_cons rfl ?_
    refine r_loc a 1 (by kernel_rfl) rfl ?_
    refine a_cons rfl ?_
    refine r_loc a 2 (by kernel_rfl) rfl ?_
    refine a_cons rfl ?_
    refine r_loc a 3 (by kernel_rfl) rfl ?_
    refine a_nil ?_
    refine k_cut_between a (Nat.le_of_ble_eq_true rfl) hr h0 h1 h9 (by lia) fun t q1 q2 q3 => ?_
    refine ta_tuple a.ok rfl (by trivial) rfl ?_
    refine tas_cons ?_
    refine s_loc a 4 (by kernel_rfl) ?_
    refine tas_cons ?_
    refine s_loc a 5 (by kernel_rfl) ?_
    refine tas_cons ?_
    refine s_loc a 6 (by kernel_rfl) ?_
    refine tas_nil ?_
    refine st_cons ?_
    refine st_ret ?_
    refine ev_binop ?_
    refine r_loc a 4 (by kernel_rfl) rfl ?_
    refine ev_ifexp ?_
    refine tb_compare1 rfl ?_
    refine c_blt a "len" (by kernel_rfl) rfl ?_
    refine a_cons rfl ?_
    refine r_loc a 6 (by kernel_rfl) rfl ?_
    refine a_nil ?_
    refine tc_len (by trivial) ?_
    refine ev_int ?_
    refine cmp_gt ?_
    refine ⟨_, rfl, fun hb => ?_, fun hb => ?_⟩
    · replace hb := of_decide_eq_true hb
      refine ev_binop ?_
      refine ev_binop ?_
      refine e_list ?_
      refine a_cons rfl ?_
      refine r_gint a 32 401 (by kernel_rfl) ?_
      refine a_nil ?_
      refine ⟨by decide, fun q1 => ?_⟩
      refine ev_binop ?_
      refine r_loc a 2 (by kernel_rfl) rfl ?_
      refine r_loc a 1 (by kernel_rfl) rfl ?_
      refine bin_sub ?_
      refine bin_mul_lst (by trivial) (Ln.wr h0 h1 h2) (by exact Ln.w1 h0 h2) fun q4 => ?_
      rw [rep32]
      refine r_loc a 6 (by kernel_rfl) rfl ?_
      refine bin_add_lst (by trivial) (by trivial) (szOk (by exact Ln.two (Ln.il (Ln.rp (Ln.w h0 h2))) (Ln.il (Ln.dr hz)) rfl)) fun q5 => ?_
      rw [ilst_app]
      refine bin_add_lst (by trivial) (by trivial) (szOk (by exact Ln.two (Ln.il (Ln.tk hz)) (Ln.il (Ln.app (Ln.rp (Ln.w h0 h2)) (Ln.dr hz))) rfl)) fun q6 => ?_
      rw [ilst_app]
      exact ⟨_, .cons (.skip (.skip (.skip (.skip (.skip (.skip (.refl _))))))), q6, [_], rfl, rfl, by unfold rowW; rw [if_neg (by decide), if_neg (by lia), if_neg (by decide), if_pos rfl, if_neg (by intro e; rw [e] at hb; simp [ilst] at hb), show (hi - lo).toNat = hi.toNat - lo.toNat by lia]; exact .head _⟩
    · replace hb := of_decide_eq_false hb
      refine e_list ?_
      refine a_nil ?_
      refine ⟨Nat.le_of_ble_eq_true rfl, fun q4 => ?_⟩
      refine bin_add_lst (ys := ilst []) (by trivial) (.head _) (szOk (by exact Ln.two (Ln.il (Ln.tk hz)) (Nat.le_refl 0) rfl)) fun q5 => ?_
      rw [ilst_app]
      have hd0 : xs.drop hi.toNat = [] := by
        simp only [ilst_len, List.length_drop] at hb
        exact List.drop_of_length_le (by lia)
      exact ⟨_, .cons (.skip (.skip (.skip (.skip (.refl _))))), q5, [_], rfl, rfl, by unfold rowW; rw [if_neg (by decide), if_neg (by lia), if_neg (by decide), if_pos rfl, if_pos hd0]; exact .head _⟩
theorem k_cleared (a : At c sc d) {row : Addr} {xs : List Int} {lo hi : Int} (hd : 6 ≤ d) (hr : (row, MO.lst (ilst xs)) ∈ M) (h0 : 0 ≤ lo) (h1 : lo ≤ hi) (h2 : hi ≤ 100) (h9 : (9 : Int) ∉ xs) (hz : xs.length ≤ 1000)
    (h : ∀ q X, (q, MO.lst (ilst (rowW 1 xs lo.toNat hi.toNat []))) ∈ X ++ M → k (.ref q) (X ++ M)) : TC c (.ref 226) [.ref row, .int lo, .int hi, .int 8] lm M k :=
  use' a (fun p w => d_cleared hr h0 h1 h2 h9 hz p w) hd fun _ _ zz => by obtain ⟨q, X, e, e', hm⟩ := zz; subst e e'; exact h q X hm
theorem d_opened_up {M : Led} {row : Addr} {xs : List Int} {lo hi : Int} (hr : (row, MO.lst (ilst xs)) ∈ M) (h0 : 0 ≤ lo) (h1 : lo ≤ hi) (h2 : hi ≤ 100) (h9 : (9 : Int) ∉ xs) (hz : xs.length ≤ 1000) (prog : Program) (w : World) :
    Does prog w (KK w.params) (.ref 233) 6 [.ref row, .int lo, .int hi, .int 8] M (RowP M (rowW 2 xs lo.toNat hi.toNat [])) := by
  refine does_fn 233 (fS 36) rfl (by kernel_rfl) (fun vs s' _ => bind4 rfl (fun v1 v2 v3 v4 => by kernel_rfl) vs s') (by kernel_rfl) rfl fun c a => ?_
  refine st_cons ?_
  refine st_if ?_
  refine tb_compare1 rfl ?_
  refine c_ref a 177 (by kernel_rfl) rfl ?_
  refine a_cons rfl ?_
  refine r_loc a 0 (by kernel_rfl) rfl ?_
  refine a_cons rfl ?_
  refine r_loc a 3 (by kernel_rfl) rfl ?_
  refine a_nil ?_
  refine k_row_columns a (Nat.le_of_ble_eq_true rfl) hr h9 ?_
  refine r_loc a 1 (by kernel_rfl) rfl ?_
  refine cmp_le ?_
  refine ⟨_, rfl, fun hb => ?_, fun hb => ?_⟩
  · replace hb := of_decide_eq_true hb
    refine st_cons ?_
    refine st_ret ?_
    refine r_loc a 0 (by kernel_rfl) rfl ?_
    exact ⟨_, .refl _, row, [], rfl, rfl, by unfold rowW; rw [if_neg (by decide), if_pos (by lia)]; exact hr⟩
  · replace hb := of_decide_eq_false hb
    refine st_nil ?_
    refine st_cons ?_
    refine st_assign rfl rfl rfl ?_
    refine c_ref a 205 (by kernel_rfl) rfl ?_
    refine a_cons rfl ?_
    refine r_loc a 0 (by kernel_rfl) rfl ?_
    refine a_cons rfl ?_
    refine r_loc a 1 (by kernel_rfl) rfl ?_
    refine a_cons rfl ?_
    refine r_loc a 3 (by kernel_rfl) rfl ?_
    refine a_nil ?_
    refine k_cut_at a (Nat.le_of_ble_eq_true rfl) hr h0 h9 (by lia) fun t q1 q2 => ?_
    refine ta_tuple a.ok rfl (by trivial) rfl ?_
    refine tas_cons ?_
    refine s_loc a 4 (by kernel_rfl) ?_
    refine tas_cons ?_
    refine s_loc a 5 (by kernel_rfl) ?_
    refine tas_nil ?_
    refine st_cons ?_
    refine st_ret ?_
    refine ev_binop ?_
    refine ev_binop ?_
    refine r_loc a 4 (by kernel_rfl) rfl ?_
    refine ev_binop ?_
    refine e_list ?_
    refine a_cons rfl ?_
    refine r_gint a 32 401 (by kernel_rfl) ?_
    refine a_nil ?_
    refine ⟨by decide, fun q1 => ?_⟩
    refine ev_binop ?_
    refine r_loc a 2 (by kernel_rfl) rfl ?_
    refine r_loc a 1 (by kernel_rfl) rfl ?_
    refine bin_sub ?_
    refine bin_mul_lst (by trivial) (Ln.wr h0 h1 h2) (by exact Ln.w1 h0 h2) fun q4 => ?_
    rw [rep32]
    refine bin_add_lst (by trivial) (by trivial) (szOk (by exact Ln.two (Ln.il (Ln.tk hz)) (Ln.il (Ln.rp (Ln.w h0 h2))) rfl)) fun q5 => ?_
    rw [ilst_app]
    refine r_loc a 5 (by kernel_rfl) rfl ?_
    refine bin_add_lst (by trivial) (by trivial) (szOk (by exact Ln.two (Ln.il (Ln.app (Ln.tk hz) (Ln.rp (Ln.w h0 h2)))) (Ln.il (Ln.dr hz)) rfl)) fun q6 => ?_
    rw [ilst_app]
    exact ⟨_, .cons (.skip (.skip (.skip (.skip (.skip (.skip (.refl _))))))), q6, [_], rfl, rfl, by unfold rowW; rw [if_neg (by decide), if_neg (by lia), if_neg (by decide), if_neg (by decide), show (hi - lo).toNat = hi.toNat - lo.toNat by lia]; exact .head _⟩
theorem k_opened_up (a : At c sc d) {row : Addr} {xs : List Int} {lo hi : Int} (hd : 6 ≤ d) (hr : (row, MO.lst (ilst xs)) ∈ M) (h0 : 0 ≤ lo) (h1 : lo ≤ hi) (h2 : hi ≤ 100) (h9 : (9 : Int) ∉ xs) (hz : xs.length ≤ 1000)
    (h : ∀ q X, (q, MO.lst (ilst (rowW 2 xs lo.toNat hi.toNat []))) ∈ X ++ M → k (.ref q) (X ++ M)) : TC c (.ref 233) [.ref row, .int lo, .int hi, .int 8] lm M k :=
  use' a (fun p w => d_opened_up hr h0 h1 h2 h9 hz p w) hd fun _ _ zz => by obtain ⟨q, X, e, e', hm⟩ := zz; subst e e'; exact h q X hm
theorem padded_take (xs : List Int) (lo : Nat) : (xs ++ List.replicate (lo - xs.length) 32).take lo = xs.take lo ++ List.replicate (lo - xs.length) 32 := by
  rw [List.take_append, List.take_replicate]; congr 1; simp
theorem padded_drop (xs : List Int) {lo hi : Nat} (h : lo ≤ hi) : (xs ++ List.replicate (lo - xs.length) 32).drop hi = xs.drop hi := by
  rw [List.drop_append, List.drop_replicate, show lo - xs.length - (hi - xs.length) = 0 by lia]; simp
theorem d_replaced {M : Led} {row ct : Addr} {xs t : List Int} {lo hi : Int} (hr : (row, MO.lst (ilst xs)) ∈ M) (ht : (ct, MO.lst (ilst t)) ∈ M) (h0 : 0 ≤ lo) (h1 : lo ≤ hi) (h2 : hi ≤ 100) (h9 : (9 : Int) ∉ xs) (hz : xs.length ≤ 1000) (hzt : t.length ≤ 1000) (prog : Program) (w : World) :
    Does prog w (KK w.params) (.ref 240) 6 [.ref row, .int lo, .int hi, .ref ct, .int 8] M (RowP M (rowW 3 xs lo.toNat hi.toNat t)) := by
  refine does_fn 240 (fS 37) rfl (by kernel_rfl) (fun vs s' _ => bind5 rfl (fun v1 v2 v3 v4 v5 => by kernel_rfl) vs s') (by kernel_rfl) rfl fun c a => ?_
  refine st_cons ?_
  refine st_assign rfl rfl rfl ?_
  refine c_ref a 212 (by kernel_rfl) rfl ?_
  refine a_cons rfl ?_
  refine c_ref a 198 (by kernel_rfl) rfl ?_
  refine a_cons rfl ?_
  refine r_loc a 0 (by kernel_rfl) rfl ?_
  refine a_cons rfl ?_
  refine r_loc a 1 (by kernel_rfl) rfl ?_
  refine a_cons rfl ?_
  refine r_loc a 4 (by kernel_rfl) rfl ?_
  refine a_nil ?_
  refine k_padded a (Nat.le_of_ble_eq_true rfl) hr (by lia) h9 hz fun q1 => ?_
  refine a_cons rfl ?_
  refine r_loc a 1 (by kernel_rfl) rfl ?_
  refine a_cons rfl ?_
  refine r_loc a 2 (by kernel_rfl) rfl ?_
  refine a_cons rfl ?_
  refine r_loc a 4 (by kernel_rfl) rfl ?_
  refine a_nil ?_
  refine k_cut_between a (Nat.le_of_ble_eq_true rfl) (.head _) h0 h1 (by simp [h9]) (by exact Ln.le (Ln.app hz (Ln.rp (Nat.le_trans (Nat.sub_le _ _) (Int.toNat_le.mpr (Int.le_trans h1 h2))))) rfl) fun t1 q2 q3 q4 => ?_
  rw [padded_take, padded_drop xs (by lia)]
  refine ta_tuple a.ok rfl (by trivial) rfl ?_
  refine tas_cons ?_
  refine s_loc a 5 (by kernel_rfl) ?_
  refine tas_cons ?_
  refine s_loc a 6 (by kernel_rfl) ?_
  refine tas_cons ?_
  refine s_loc a 7 (by kernel_rfl) ?_
  refine tas_nil ?_
  refine st_cons ?_
  refine st_ret ?_
  refine ev_binop ?_
  refine ev_binop ?_
  refine r_loc a 5 (by kernel_rfl) rfl ?_
  refine r_loc a 3 (by kernel_rfl) rfl ?_
  refine bin_add_lst (by trivial) (ys := ilst t) (by trivial) (szOk (by exact Ln.two (Ln.il (Ln.app (Ln.tk hz) (Ln.rp (Nat.le_trans (Nat.sub_le _ _) (Int.toNat_le.mpr (Int.le_trans h1 h2)))))) (Ln.il hzt) rfl)) fun q5 => ?_
  rw [ilst_app]
  refine r_loc a 7 (by kernel_rfl) rfl ?_
  refine bin_add_lst (by trivial) (by trivial) (szOk (by exact Ln.two (Ln.il (Ln.app (Ln.app (Ln.tk hz) (Ln.rp (Nat.le_trans (Nat.sub_le _ _) (Int.toNat_le.mpr (Int.le_trans h1 h2))))) hzt)) (Ln.il (Ln.dr hz)) rfl)) fun q6 => ?_
  rw [ilst_app]
  exact ⟨_, .cons (.skip (.skip (.skip (.skip (.skip (.refl _)))))), q6, [_], rfl, rfl, by unfold rowW; rw [if_pos rfl]; exact .head _⟩
theorem k_replaced (a : At c sc d) {row ct : Addr} {xs t : List Int} {lo hi : Int} (hd : 6 ≤ d) (hr : (row, MO.lst (ilst xs)) ∈ M) (ht : (ct, MO.lst (ilst t)) ∈ M) (h0 : 0 ≤ lo) (h1 : lo ≤ hi) (h2 : hi ≤ 100) (h9 : (9 : Int) ∉ xs) (hz : xs.length ≤ 1000) (hzt : t.length ≤ 1000)
    (h : ∀ q X, (q, MO.lst (ilst (rowW 3 xs lo.toNat hi.toNat t))) ∈ X ++ M → k (.ref q) (X ++ M)) : TC c (.ref 240) [.ref row, .int lo, .int hi, .ref ct, .int 8] lm M k :=
  use' a (fun p w => d_replaced hr ht h0 h1 h2 h9 hz hzt p w) hd fun _ _ zz => by obtain ⟨q, X, e, e', hm⟩ := zz; subst e e'; exact h q X hm
end
end Mine
end

section
open PySem PySem.W PySem.Calls PyProof.Rows
set_option Elab.async false
set_option maxRecDepth 100000
set_option linter.unusedVariables false
namespace Mine
section
variable {c : Cx} {sc : Scope} {d : Nat} {lm : Loc} {M : Led} {k : MV → Led → Prop}

/-! ### texts with a gap -/
structure Gap where
  t : Addr
  td : Addr
  cl : Addr
  cells : List Int
  gs : Nat
  ge : Nat
noncomputable def gapF (g : Gap) : List (Str × MV) := [(Str.ofString "room", .int 8), (Str.ofString "cells", .ref g.cl), (Str.ofString "gap_start", .int g.gs), (Str.ofString "gap_end", .int g.ge)]
noncomputable def gapL (g : Gap) : Led := [(g.t, .inst 410 g.td), (g.td, .flds (gapF g)), (g.cl, .lst (ilst g.cells))]
noncomputable def Gap.text (g : Gap) : List Int := g.cells.take g.gs ++ g.cells.drop g.ge
structure Gap.Ok (g : Gap) : Prop where
  le : g.gs ≤ g.ge
  len : g.ge ≤ g.cells.length
  size : g.cells.length ≤ 5000
theorem Gap.text_len {g : Gap} (h : g.Ok) : g.text.length + g.ge = g.cells.length + g.gs := by
  have := h.le; have := h.len
  unfold Gap.text; rw [List.length_append, List.length_take, List.length_drop]; lia
theorem Gap.get_low {g : Gap} {i : Nat} (h : g.Ok) (hi : i < g.gs) : g.text[i]? = g.cells[i]? := by
  have := h.le; have := h.len
  unfold Gap.text
  rw [List.getElem?_append_left (by rw [List.length_take]; lia), List.getElem?_take_of_lt hi]
theorem Gap.get_high {g : Gap} {i : Nat} (h : g.Ok) (hi : g.gs ≤ i) : g.text[i]? = g.cells[i - g.gs + g.ge]? := by
  have := h.le; have := h.len
  unfold Gap.text
  rw [List.getElem?_append_right (by rw [List.length_take]; lia), List.length_take, Nat.min_eq_left (by lia), List.getElem?_drop, Nat.add_comm]

theorem d_gap_size {g : Gap} (ok : g.Ok) (prog : Program) (w : World) : Does prog w (KK w.params) (.ref 344) 1 [.ref g.t] (gapL g) (fun r M' => r = .int g.text.length ∧ M' = gapL g) := by
  refine does_fn 344 (cS 52 1) rfl (by kernel_rfl) (fun vs s' _ => bind1 rfl (fun v1 => by kernel_rfl) vs s') (by kernel_rfl) rfl fun c a => ?_
  refine st_cons ?_
  refine st_ret ?_
  refine ev_binop ?_
  refine ev_binop ?_
  refine c_blt a "len" (by kernel_rfl) rfl ?_
  refine a_cons rfl ?_
  refine r_attr rfl ?_
  refine r_loc a 0 (by kernel_rfl) rfl ?_
  refine t_get a 410 1 (by kernel_rfl) (by trivial) (by trivial) rfl rfl ?_
  refine a_nil ?_
  refine tc_len (by trivial) ?_
  refine r_attr rfl ?_
  refine r_loc a 0 (by kernel_rfl) rfl ?_
  refine t_get a 410 3 (by kernel_rfl) (by trivial) (by trivial) rfl rfl ?_
  refine bin_sub ?_
  refine r_attr rfl ?_
  refine r_loc a 0 (by kernel_rfl) rfl ?_
  refine t_get a 410 2 (by kernel_rfl) (by trivial) (by trivial) rfl rfl ?_
  refine bin_add ?_
  refine ⟨_, .refl _, congrArg MV.int ?_, rfl⟩
  have := Gap.text_len ok
  rw [ilst_len]; lia
theorem d_gap_code {g : Gap} {i : Nat} {x : Int} (ok : g.Ok) (hx : g.text[i]? = some x) (prog : Program) (w : World) : Does prog w (KK w.params) (.ref 351) 1 [.ref g.t, .int i] (gapL g) (fun r M' => r = .int x ∧ M' = gapL g) := by
  refine does_fn 351 (cS 52 2) rfl (by kernel_rfl) (fun vs s' _ => bind2 rfl (fun v1 v2 => by kernel_rfl) vs s') (by kernel_rfl) rfl fun c a => ?_
  refine st_cons ?_
  refine st_if ?_
  refine tb_compare1 rfl ?_
  refine r_loc a 1 (by kernel_rfl) rfl ?_
  refine r_attr rfl ?_
  refine r_loc a 0 (by kernel_rfl) rfl ?_
  refine t_get a 410 2 (by kernel_rfl) (by trivial) (by trivial) rfl rfl ?_
  refine cmp_lt ?_
  refine ⟨_, rfl, fun hb => ?_, fun hb => ?_⟩
  · replace hb := of_decide_eq_true hb
    refine st_cons ?_
    refine st_ret ?_
    refine ev_index ?_
    refine r_attr rfl ?_
    refine r_loc a 0 (by kernel_rfl) rfl ?_
    refine t_get a 410 1 (by kernel_rfl) (by trivial) (by trivial) rfl rfl ?_
    refine r_loc a 1 (by kernel_rfl) rfl ?_
    refine sub_lst (by trivial) (item_at g.cells (x := x) (by lia) ?_) ?_ (fun _ => rfl)
    · rw [Int.toNat_natCast, ← Gap.get_low ok (by lia)]; exact hx
    · exact ⟨_, .refl _, rfl, rfl⟩
  · replace hb := of_decide_eq_false hb
    refine st_nil ?_
    refine st_cons ?_
    refine st_ret ?_
    refine ev_index ?_
    refine r_attr rfl ?_
    refine r_loc a 0 (by kernel_rfl) rfl ?_
    refine t_get a 410 1 (by kernel_rfl) (by trivial) (by trivial) rfl rfl ?_
    refine ev_binop ?_
    refine ev_binop ?_
    refine r_loc a 1 (by kernel_rfl) rfl ?_
    refine r_attr rfl ?_
    refine r_loc a 0 (by kernel_rfl) rfl ?_
    refine t_get a 410 2 (by kernel_rfl) (by trivial) (by trivial) rfl rfl ?_
    refine bin_sub ?_
    refine r_attr rfl ?_
    refine r_loc a 0 (by kernel_rfl) rfl ?_
    refine t_get a 410 3 (by kernel_rfl) (by trivial) (by trivial) rfl rfl ?_
    refine bin_add ?_
    refine sub_lst (by trivial) (item_at g.cells (x := x) (by lia) ?_) ?_ (fun _ => rfl)
    · rw [show ((i : Int) - (g.gs : Int) + (g.ge : Int)).toNat = i - g.gs + g.ge by lia, ← Gap.get_high ok (by lia)]; exact hx
    · exact ⟨_, .refl _, rfl, rfl⟩
/-- the signs between two places -/
noncomputable def seg (xs : List Int) (i j : Nat) : List Int := (xs.drop i).take (j - i)
theorem seg_low {g : Gap} {i j : Nat} (h : g.Ok) (hj : j ≤ g.gs) : seg g.text i j = (g.cells.drop i).take (j - i) := by
  have := h.le; have := h.len
  unfold seg Gap.text
  apply List.ext_getElem?
  intro n
  rw [List.getElem?_take, List.getElem?_take, List.getElem?_drop, List.getElem?_drop]
  split
  · rw [List.getElem?_append_left (by rw [List.length_take]; lia), List.getElem?_take_of_lt (by lia)]
  · rfl
theorem seg_high {g : Gap} {i j : Nat} (h : g.Ok) (hi : g.gs ≤ i) (hij : i ≤ j) : seg g.text i j = (g.cells.drop (i + (g.ge - g.gs))).take (j - i) := by
  have := h.le; have := h.len
  unfold seg Gap.text
  apply List.ext_getElem?
  intro n
  rw [List.getElem?_take, List.getElem?_take, List.getElem?_drop, List.getElem?_drop]
  split
  · rw [List.getElem?_append_right (by rw [List.length_take]; lia), List.length_take, Nat.min_eq_left (by lia), List.getElem?_drop]
    congr 1; lia
  · rfl
theorem seg_mid {g : Gap} {i j : Nat} (h : g.Ok) (hi : i ≤ g.gs) (hj : g.gs ≤ j) : seg g.text i j = (g.cells.drop i).take (g.gs - i) ++ (g.cells.drop g.ge).take (j - g.gs) := by
  have := h.le; have := h.len
  unfold seg Gap.text
  rw [List.drop_append, List.length_take, Nat.min_eq_left (by lia), show i - g.gs = 0 by lia, List.drop_zero, List.take_append, List.length_drop, List.length_take, Nat.min_eq_left (by lia), List.drop_take, List.take_take, Nat.min_eq_right (by lia), show j - i - (g.gs - i) = j - g.gs by lia]
theorem d_gap_codes {g : Gap} {i j : Nat} (ok : g.Ok) (hij : i ≤ j) (prog : Program) (w : World) : Does prog w (KK w.params) (.ref 358) 1 [.ref g.t, .int i, .int j] (gapL g) (fun r M' => ∃ q, r = .ref q ∧ M' = (q, .lst (ilst (seg g.text i j))) :: gapL g) := by
  refine does_fn 358 (cS 52 3) rfl (by kernel_rfl) (fun vs s' _ => bind3 rfl (fun v1 v2 v3 => by kernel_rfl) vs s') (by kernel_rfl) rfl fun c a => ?_
  refine st_cons ?_
  refine st_assign rfl rfl rfl ?_
  refine ev_binop ?_
  refine r_attr rfl ?_
  refine r_loc a 0 (by kernel_rfl) rfl ?_
  refine t_get a 410 3 (by kernel_rfl) (by trivial) (by trivial) rfl rfl ?_
  refine r_attr rfl ?_
  refine r_loc a 0 (by kernel_rfl) rfl ?_
  refine t_get a 410 2 (by kernel_rfl) (by trivial) (by trivial) rfl rfl ?_
  refine bin_sub ?_
  refine s_loc a 3 (by kernel_rfl) ?_
  refine st_cons ?_
  refine st_if ?_
  refine tb_compare1 rfl ?_
  refine r_loc a 2 (by kernel_rfl) rfl ?_
  refine r_attr rfl ?_
  refine r_loc a 0 (by kernel_rfl) rfl ?_
  refine t_get a 410 2 (by kernel_rfl) (by trivial) (by trivial) rfl rfl ?_
  refine cmp_le ?_
  refine ⟨_, rfl, fun hb => ?_, fun hb => ?_⟩
  · replace hb := of_decide_eq_true hb
    refine st_cons ?_
    refine st_ret ?_
    refine ev_slice ?_
    refine r_attr rfl ?_
    refine r_loc a 0 (by kernel_rfl) rfl ?_
    refine t_get a 410 1 (by kernel_rfl) (by trivial) (by trivial) rfl rfl ?_
    refine part_some ?_
    refine r_loc a 1 (by kernel_rfl) rfl ?_
    refine part_some ?_
    refine r_loc a 2 (by kernel_rfl) rfl ?_
    refine ⟨_, _, _, _, rfl, by trivial, rfl, rfl, fun q1 => ?_⟩
    rw [cut_nat g.cells i j rfl rfl hij]
    exact ⟨_, .refl _, _, rfl, by rw [seg_low ok (Int.ofNat_le.mp hb)]⟩
  · replace hb := of_decide_eq_false hb
    refine st_nil ?_
    refine st_cons ?_
    refine st_if ?_
    refine tb_compare1 rfl ?_
    refine r_loc a 1 (by kernel_rfl) rfl ?_
    refine r_attr rfl ?_
    refine r_loc a 0 (by kernel_rfl) rfl ?_
    refine t_get a 410 2 (by kernel_rfl) (by trivial) (by trivial) rfl rfl ?_
    refine cmp_ge ?_
    refine ⟨_, rfl, fun hb => ?_, fun hb => ?_⟩
    · replace hb := of_decide_eq_true hb
      refine st_cons ?_
      refine st_ret ?_
      refine ev_slice ?_
      refine r_attr rfl ?_
      refine r_loc a 0 (by kernel_rfl) rfl ?_
      refine t_get a 410 1 (by kernel_rfl) (by trivial) (by trivial) rfl rfl ?_
      refine part_some ?_
      refine ev_binop ?_
      refine r_loc a 1 (by kernel_rfl) rfl ?_
      refine r_loc a 3 (by kernel_rfl) rfl ?_
      refine bin_add ?_
      refine part_some ?_
      refine ev_binop ?_
      refine r_loc a 2 (by kernel_rfl) rfl ?_
      refine r_loc a 3 (by kernel_rfl) rfl ?_
      refine bin_add ?_
      refine ⟨_, _, _, _, rfl, by trivial, rfl, rfl, fun q1 => ?_⟩
      rw [cut_nat g.cells (i + (g.ge - g.gs)) (j + (g.ge - g.gs)) (by rw [← Int.ofNat_sub ok.le]; rfl) (by rw [← Int.ofNat_sub ok.le]; rfl) (Nat.add_le_add_right hij _), Nat.add_sub_add_right]
      exact ⟨_, .refl _, _, rfl, by rw [seg_high ok (Int.ofNat_le.mp hb) hij]⟩
    · replace hb := of_decide_eq_false hb
      refine st_nil ?_
      refine st_cons ?_
      refine st_ret ?_
      refine ev_binop ?_
      refine ev_slice ?_
      refine r_attr rfl ?_
      refine r_loc a 0 (by kernel_rfl) rfl ?_
      refine t_get a 410 1 (by kernel_rfl) (by trivial) (by trivial) rfl rfl ?_
      refine part_some ?_
      refine r_loc a 1 (by kernel_rfl) rfl ?_
      refine part_some ?_
      refine r_attr rfl ?_
      refine r_loc a 0 (by kernel_rfl) rfl ?_
      refine t_get a 410 2 (by kernel_rfl) (by trivial) (by trivial) rfl rfl ?_
      refine ⟨_, _, _, _, rfl, by trivial, rfl, rfl, fun q1 => ?_⟩
      refine ev_slice ?_
      refine r_attr rfl ?_
      refine r_loc a 0 (by kernel_rfl) rfl ?_
      refine t_get a 410 1 (by kernel_rfl) (by trivial) (by trivial) rfl rfl ?_
      refine part_some ?_
      refine r_attr rfl ?_
      refine r_loc a 0 (by kernel_rfl) rfl ?_
      refine t_get a 410 3 (by kernel_rfl) (by trivial) (by trivial) rfl rfl ?_
      refine part_some ?_
      refine ev_binop ?_
      refine r_loc a 2 (by kernel_rfl) rfl ?_
      refine r_loc a 3 (by kernel_rfl) rfl ?_
      refine bin_add ?_
      refine ⟨_, _, _, _, rfl, by trivial, rfl, rfl, fun q2 => ?_⟩
      have hle := ok.le
      rename_i hb0
      have q1 : i ≤ g.gs := Nat.le_of_lt (Int.ofNat_lt.mp (Int.not_le.mp hb))
      have q2 : g.gs ≤ j := Nat.le_of_lt (Int.ofNat_lt.mp (Int.not_le.mp hb0))
      have e1 : j + (g.ge - g.gs) - g.ge = j - g.gs := by clear hij hb hb0 q1; lia
      rw [cut_nat g.cells i g.gs rfl rfl q1, cut_nat g.cells g.ge (j + (g.ge - g.gs)) rfl (by rw [← Int.ofNat_sub ok.le]; rfl) (by clear hij hb hb0 q1 e1; lia), e1]
      have z1 : ((g.cells.drop i).take (g.gs - i)).length ≤ 5000 := Nat.le_trans (List.length_take_le' _ _) (by rw [List.length_drop]; exact Nat.le_trans (Nat.sub_le _ _) ok.size)
      have z2 : ((g.cells.drop g.ge).take (j - g.gs)).length ≤ 5000 := Nat.le_trans (List.length_take_le' _ _) (by rw [List.length_drop]; exact Nat.le_trans (Nat.sub_le _ _) ok.size)
      refine bin_add_lst (by trivial) (by trivial) (szOk (by rw [ilst_len, ilst_len]; exact Nat.add_le_add z1 z2)) fun q3 => ?_
      rw [ilst_app]
      exact ⟨_, .cons (.skip (.skip (.refl _))), _, rfl, by rw [seg_mid ok q1 q2]⟩
end
end Mine
end

section
open PySem PySem.W PySem.Calls PyProof.Rows
set_option Elab.async false
set_option maxRecDepth 100000
set_option linter.unusedVariables false
namespace Mine
/-- two of a ledger, at two places -/
inductive Two (x y : Addr × MO) : Led → Prop
  | here {r : Led} : y ∈ r → Two x y (x :: r)
  | there {r : Led} : x ∈ r → Two x y (y :: r)
  | skip {z : Addr × MO} {r : Led} : Two x y r → Two x y (z :: r)
theorem Two.ne {x y : Addr × MO} {M : Led} (h : Two x y M) (nd : (M.map (·.1)).Nodup) : x.1 ≠ y.1 := by
  induction h with
  | here hm => rw [List.map_cons, List.nodup_cons] at nd; exact fun e => nd.1 (e ▸ List.mem_map_of_mem hm)
  | there hm => rw [List.map_cons, List.nodup_cons] at nd; exact fun e => nd.1 (e ▸ List.mem_map_of_mem hm)
  | skip _ ih => rw [List.map_cons, List.nodup_cons] at nd; exact ih nd.2
theorem Two.right {x y : Addr × MO} {M : Led} (h : Two x y M) : y ∈ M := by
  induction h with
  | here hm => exact .tail _ hm
  | there _ => exact .head _
  | skip _ ih => exact .tail _ ih
section
variable {c : Cx} {sc : Scope} {d : Nat} {lm : Loc} {M : Led} {k : MV → Led → Prop} {ku : Loc → Led → Prop} {kb : Bool → Led → Prop} {kN : Loc → Led → Prop} {kR : MV → Led → Prop}
theorem Inv.nodup {R : CLed} {h : Heap} (I : Inv c R h lm M) : (M.map (·.1)).Nodup := by
  obtain ⟨m, led, F, N, nd, l1, l2⟩ := I
  rw [List.map_append] at nd
  rw [← l2.keys]; exact (List.nodup_append.mp nd).2.1
theorem s_slice {l q v : Addr} {lv uv : Value} {pa pb : Option Int} {xs ys : List MV} {M' : Led} (hq : (q, MO.raw (sliceObj lv uv)) ∈ M) (pl : IsPart lv pa) (pu : IsPart uv pb) (h2 : Two (l, MO.lst xs) (v, MO.lst ys) M)
    (U : Up l (.lst xs) (.lst (patch xs ys pa pb)) M M') (hz : xs.length + ys.length ≤ 10000) (h : ku lm M') :
    ∀ u i w, RV (.ref l) u → RV (.ref q) i → RV (.ref v) w → Tu c (setItem u i w) lm M ku :=
  fun u i w hu hi hw R s I => set_slice hq pl pu h2.right (beq_eq_false_iff_ne.mpr (h2.ne I.nodup)) U (szOk hz) h u i w hu hi hw R s I
theorem st_join {st : Stmt} {rest : List Stmt} (Q : Loc → Led → Prop) (h : Tf c (exec st c.env) lm M (JQ Q) kR) (h2 : ∀ lm₁ M₁, Q lm₁ M₁ → Tf c (execs rest c.env) lm₁ M₁ kN kR) : Tf c (execs (st :: rest) c.env) lm M kN kR :=
  st_cons (h.mono (fun _ _ ⟨_, _, hs, hl, hq⟩ => Tf.sub hs (Tf.less hl (h2 _ _ hq))) fun _ _ x => x)
end
theorem patch_ilst (xs ys : List Int) {p r : Nat} (hp : p ≤ r) (hr : r ≤ xs.length) : patch (ilst xs) (ilst ys) (some (p : Int)) (some (r : Int)) = ilst (xs.take p ++ ys ++ xs.drop r) := by
  unfold patch kms_lo kms_hi ilst
  simp only [show ¬ (p : Int) < 0 by lia, show ¬ (r : Int) < 0 by lia, if_false, List.length_map, Int.toNat_natCast]
  rw [Nat.min_eq_left (by lia), Nat.min_eq_left hr, Nat.max_eq_right hp]
  simp

/-! ### the gap moved -/
structure Gap.Moved (g g' : Gap) (at_ : Nat) : Prop where
  t : g'.t = g.t
  td : g'.td = g.td
  cl : g'.cl = g.cl
  ok : g'.Ok
  text : g'.text = g.text
  gs : g'.gs = at_
  gap : g'.ge = at_ + (g.ge - g.gs)
  len : g'.cells.length = g.cells.length
noncomputable def Gap.down (g : Gap) (i : Nat) : Gap := { g with cells := g.cells.take (g.ge - (g.gs - i)) ++ (g.cells.drop i).take (g.gs - i) ++ g.cells.drop g.ge, gs := i, ge := g.ge - (g.gs - i) }
noncomputable def Gap.up (g : Gap) (i : Nat) : Gap := { g with cells := g.cells.take g.gs ++ (g.cells.drop g.ge).take (i - g.gs) ++ g.cells.drop i, gs := i, ge := g.ge + (i - g.gs) }
theorem Gap.down_moved {g : Gap} {i : Nat} (ok : g.Ok) (hi : i ≤ g.gs) : g.Moved (g.down i) i := by
  obtain ⟨h1, h2, h3⟩ := ok
  have e1 : (g.cells.take (g.ge - (g.gs - i))).length = g.ge - (g.gs - i) := List.length_take_of_le (by clear h3; lia)
  have e2 : ((g.cells.drop i).take (g.gs - i)).length = g.gs - i := List.length_take_of_le (by rw [List.length_drop]; clear h3 e1; lia)
  have hl : (g.down i).cells.length = g.cells.length := by
    unfold Gap.down; rw [List.length_append, List.length_append, e1, e2, List.length_drop]; clear h3 e1 e2; lia
  have h4 : i ≤ g.ge - (g.gs - i) := by clear h3 e1 e2 hl; lia
  refine ⟨rfl, rfl, rfl, ⟨h4, Nat.le_trans (Nat.sub_le _ _) (by rw [hl]; exact h2), by rw [hl]; exact h3⟩, ?_, rfl, ?_, hl⟩
  · show ((g.cells.take (g.ge - (g.gs - i))) ++ (g.cells.drop i).take (g.gs - i) ++ g.cells.drop g.ge).take i ++ ((g.cells.take (g.ge - (g.gs - i))) ++ (g.cells.drop i).take (g.gs - i) ++ g.cells.drop g.ge).drop (g.ge - (g.gs - i)) = g.cells.take g.gs ++ g.cells.drop g.ge
    rw [List.append_assoc, List.take_append_of_le_length (by rw [e1]; exact h4), List.take_take, Nat.min_eq_left h4, List.drop_left' e1, ← List.append_assoc, ← List.take_add, Nat.add_sub_cancel' hi]
  · show g.ge - (g.gs - i) = _; clear h3 e1 e2 hl; lia
theorem Gap.up_moved {g : Gap} {i : Nat} (ok : g.Ok) (hi : g.gs ≤ i) (hlen : i ≤ g.text.length) : g.Moved (g.up i) i := by
  have h4 := Gap.text_len ok
  obtain ⟨h1, h2, h3⟩ := ok
  have e1 : (g.cells.take g.gs).length = g.gs := List.length_take_of_le (Nat.le_trans h1 h2)
  have h5 : g.ge + (i - g.gs) ≤ g.cells.length := by clear h3 e1; lia
  have e2 : ((g.cells.drop g.ge).take (i - g.gs)).length = i - g.gs := List.length_take_of_le (by rw [List.length_drop]; clear h3 e1 h4 hlen; lia)
  have e3 : (g.cells.take g.gs ++ (g.cells.drop g.ge).take (i - g.gs)).length = i := by rw [List.length_append, e1, e2]; exact Nat.add_sub_cancel' hi
  have h6 : i ≤ g.ge + (i - g.gs) := by clear h3 e1 e2 e3 h4 hlen h5; lia
  have hl : (g.up i).cells.length = g.cells.length := by
    unfold Gap.up; rw [List.length_append, e3, List.length_drop]; exact Nat.add_sub_cancel' (Nat.le_trans h6 h5)
  refine ⟨rfl, rfl, rfl, ⟨h6, by rw [hl]; exact h5, by rw [hl]; exact h3⟩, ?_, rfl, by show g.ge + (i - g.gs) = _; clear h3 e1 e2 e3 h4 hlen h5 h6 hl; lia, hl⟩
  show ((g.cells.take g.gs ++ (g.cells.drop g.ge).take (i - g.gs)) ++ g.cells.drop i).take i ++ ((g.cells.take g.gs ++ (g.cells.drop g.ge).take (i - g.gs)) ++ g.cells.drop i).drop (g.ge + (i - g.gs)) = g.cells.take g.gs ++ g.cells.drop g.ge
  have e4 : ∀ (A C : List Int) (n : Nat), A.length ≤ n → (A ++ C).drop n = C.drop (n - A.length) := fun A C n h => by rw [List.drop_append, List.drop_of_length_le h, List.nil_append]
  rw [List.take_left' e3, e4 _ _ _ (by rw [e3]; exact h6), e3, List.drop_drop, Nat.add_sub_cancel' h6, List.append_assoc, ← List.drop_drop, List.take_append_drop]
section
variable {c : Cx} {lm : Loc} {M : Led} {ku : Loc → Led → Prop}
theorem s_patch (p r : Nat) {l q v : Addr} {lv uv : Value} {x y : Int} {xs ys : List Int} {M' : Led} (hq : (q, MO.raw (sliceObj lv uv)) ∈ M) (pl : IsPart lv (some x)) (pu : IsPart uv (some y)) (ex : x = p) (ey : y = r) (hp : p ≤ r) (hr : r ≤ xs.length)
    (h2 : Two (l, MO.lst (ilst xs)) (v, MO.lst (ilst ys)) M) (U : Up l (.lst (ilst xs)) (.lst (ilst (xs.take p ++ ys ++ xs.drop r))) M M') (hz : xs.length + ys.length ≤ 10000) (h : ku lm M') :
    ∀ u i w, RV (.ref l) u → RV (.ref q) i → RV (.ref v) w → Tu c (setItem u i w) lm M ku := by
  subst ex ey
  exact s_slice hq pl pu h2 (by rw [patch_ilst xs ys hp hr]; exact U) (by rw [ilst_len, ilst_len]; exact hz) h
end
end Mine
end

local macro_rules | `(tactic| decreasing_tactic) => `(tactic| (first | exact Mine.Up.head | (apply Mine.Up.tail; decreasing_tactic) | exact Mine.Two.here (by trivial) | exact Mine.Two.there (by trivial) | (apply Mine.Two.skip; decreasing_tactic)))
section
open PySem PySem.W PySem.Calls PyProof.Rows
set_option Elab.async false
set_option maxRecDepth 100000
set_option linter.unusedVariables false
namespace Mine
section
variable {c : Cx} {sc : Scope} {d : Nat} {lm : Loc} {M : Led} {k : MV → Led → Prop}
theorem d_move_gap {g : Gap} {i : Nat} (ok : g.Ok) (hi : i ≤ g.text.length) (prog : Program) (w : World) : Does prog w (KK w.params) (.ref 365) 1 [.ref g.t, .int i] (gapL g) (fun r M' => ∃ g', r = .none ∧ M' = gapL g' ∧ g.Moved g' i) := by
  have h1 := ok.le
  have h2 := ok.len
  have h3 := ok.size
  have h4 := Gap.text_len ok
  refine does_fn 365 (cS 52 4) rfl (by kernel_rfl) (fun vs s' _ => bind2 rfl (fun v1 v2 => by kernel_rfl) vs s') (by kernel_rfl) rfl fun c a => ?_
  refine st_cons ?_
  refine st_if ?_
  refine tb_compare1 rfl ?_
  refine r_loc a 1 (by kernel_rfl) rfl ?_
  refine r_attr rfl ?_
  refine r_loc a 0 (by kernel_rfl) rfl ?_
  refine t_get a 410 2 (by kernel_rfl) (by trivial) (by trivial) rfl rfl ?_
  refine cmp_lt ?_
  refine ⟨_, rfl, fun hb => ?_, fun hb => ?_⟩
  · replace hb := of_decide_eq_true hb
    refine st_cons ?_
    refine st_assign rfl rfl rfl ?_
    refine ev_slice ?_
    refine r_attr rfl ?_
    refine r_loc a 0 (by kernel_rfl) rfl ?_
    refine t_get a 410 1 (by kernel_rfl) (by trivial) (by trivial) rfl rfl ?_
    refine part_some ?_
    refine r_loc a 1 (by kernel_rfl) rfl ?_
    refine part_some ?_
    refine r_attr rfl ?_
    refine r_loc a 0 (by kernel_rfl) rfl ?_
    refine t_get a 410 2 (by kernel_rfl) (by trivial) (by trivial) rfl rfl ?_
    refine ⟨_, _, _, _, rfl, by trivial, rfl, rfl, fun q1 => ?_⟩
    rw [cut_nat g.cells i g.gs rfl rfl (by lia)]
    refine s_loc a 2 (by kernel_rfl) ?_
    refine st_cons ?_
    refine st_assign rfl rfl rfl ?_
    refine r_loc a 2 (by kernel_rfl) rfl ?_
    refine ta_sub ?_
    refine r_attr rfl ?_
    refine r_loc a 0 (by kernel_rfl) rfl ?_
    refine t_get a 410 1 (by kernel_rfl) (by trivial) (by trivial) rfl rfl ?_
    refine ev_sliceobj ?_
    refine part_some ?_
    refine ev_binop ?_
    refine r_attr rfl ?_
    refine r_loc a 0 (by kernel_rfl) rfl ?_
    refine t_get a 410 3 (by kernel_rfl) (by trivial) (by trivial) rfl rfl ?_
    refine c_blt a "len" (by kernel_rfl) rfl ?_
    refine a_cons rfl ?_
    refine r_loc a 2 (by kernel_rfl) rfl ?_
    refine a_nil ?_
    refine tc_len (by trivial) ?_
    refine bin_sub ?_
    refine part_some ?_
    refine r_attr rfl ?_
    refine r_loc a 0 (by kernel_rfl) rfl ?_
    refine t_get a 410 3 (by kernel_rfl) (by trivial) (by trivial) rfl rfl ?_
    refine ⟨_, _, rfl, rfl, fun sq lv uv hlv huv => ?_⟩
    have e1 : ((ilst ((g.cells.drop i).take (g.gs - i))).length : Int) = (g.gs : Int) - (i : Int) := by
      rw [ilst_len, List.length_take, List.length_drop]; lia
    rw [e1] at hlv
    refine s_patch (xs := g.cells) (g.ge - (g.gs - i)) g.ge (by trivial) hlv huv (by lia) rfl (by lia) h2 (by decreasing_tactic) (by decreasing_tactic) (by rw [List.length_take, List.length_drop]; lia) ?_
    refine st_cons ?_
    refine st_assign rfl rfl rfl ?_
    refine ev_binop ?_
    refine r_attr rfl ?_
    refine r_loc a 0 (by kernel_rfl) rfl ?_
    refine t_get a 410 3 (by kernel_rfl) (by trivial) (by trivial) rfl rfl ?_
    refine c_blt a "len" (by kernel_rfl) rfl ?_
    refine a_cons rfl ?_
    refine r_loc a 2 (by kernel_rfl) rfl ?_
    refine a_nil ?_
    refine tc_len (by trivial) ?_
    refine bin_sub ?_
    refine ta_attr ?_
    refine r_loc a 0 (by kernel_rfl) rfl ?_
    rw [e1]
    refine s_field a 410 3 (by kernel_rfl) (by trivial) (by decreasing_tactic) (by kernel_rfl) ?_
    refine st_nil ?_
    refine st_cons ?_
    refine st_assign rfl rfl rfl ?_
    refine r_loc a 1 (by kernel_rfl) rfl ?_
    refine ta_attr ?_
    refine r_loc a 0 (by kernel_rfl) rfl ?_
    refine s_field a 410 2 (by kernel_rfl) (by trivial) (by decreasing_tactic) (by kernel_rfl) ?_
    refine st_nil ?_
    refine ⟨_, .skip (.skip (.refl _)), g.down i, rfl, ?_, Gap.down_moved ok (by lia)⟩
    rw [show ((g.ge : Int) - ((g.gs : Int) - (i : Int))) = ((g.ge - (g.gs - i) : Nat) : Int) by lia]
    rfl
  · replace hb := of_decide_eq_false hb
    refine st_cons ?_
    refine st_assign rfl rfl rfl ?_
    refine ev_slice ?_
    refine r_attr rfl ?_
    refine r_loc a 0 (by kernel_rfl) rfl ?_
    refine t_get a 410 1 (by kernel_rfl) (by trivial) (by trivial) rfl rfl ?_
    refine part_some ?_
    refine r_attr rfl ?_
    refine r_loc a 0 (by kernel_rfl) rfl ?_
    refine t_get a 410 3 (by kernel_rfl) (by trivial) (by trivial) rfl rfl ?_
    refine part_some ?_
    refine ev_binop ?_
    refine ev_binop ?_
    refine r_attr rfl ?_
    refine r_loc a 0 (by kernel_rfl) rfl ?_
    refine t_get a 410 3 (by kernel_rfl) (by trivial) (by trivial) rfl rfl ?_
    refine r_loc a 1 (by kernel_rfl) rfl ?_
    refine bin_add ?_
    refine r_attr rfl ?_
    refine r_loc a 0 (by kernel_rfl) rfl ?_
    refine t_get a 410 2 (by kernel_rfl) (by trivial) (by trivial) rfl rfl ?_
    refine bin_sub ?_
    refine ⟨_, _, _, _, rfl, by trivial, rfl, rfl, fun q1 => ?_⟩
    rw [cut_nat g.cells g.ge (g.ge + (i - g.gs)) rfl (by lia) (by lia), Nat.add_sub_cancel_left]
    refine s_loc a 2 (by kernel_rfl) ?_
    refine st_cons ?_
    refine st_assign rfl rfl rfl ?_
    refine r_loc a 2 (by kernel_rfl) rfl ?_
    refine ta_sub ?_
    refine r_attr rfl ?_
    refine r_loc a 0 (by kernel_rfl) rfl ?_
    refine t_get a 410 1 (by kernel_rfl) (by trivial) (by trivial) rfl rfl ?_
    refine ev_sliceobj ?_
    refine part_some ?_
    refine r_attr rfl ?_
    refine r_loc a 0 (by kernel_rfl) rfl ?_
    refine t_get a 410 2 (by kernel_rfl) (by trivial) (by trivial) rfl rfl ?_
    refine part_some ?_
    refine ev_binop ?_
    refine r_attr rfl ?_
    refine r_loc a 0 (by kernel_rfl) rfl ?_
    refine t_get a 410 2 (by kernel_rfl) (by trivial) (by trivial) rfl rfl ?_
    refine c_blt a "len" (by kernel_rfl) rfl ?_
    refine a_cons rfl ?_
    refine r_loc a 2 (by kernel_rfl) rfl ?_
    refine a_nil ?_
    refine tc_len (by trivial) ?_
    refine bin_add ?_
    refine ⟨_, _, rfl, rfl, fun sq lv uv hlv huv => ?_⟩
    have e1 : ((ilst ((g.cells.drop g.ge).take (i - g.gs))).length : Int) = (i : Int) - (g.gs : Int) := by
      rw [ilst_len, List.length_take, List.length_drop]; lia
    rw [e1] at huv
    refine s_patch (xs := g.cells) g.gs i (by trivial) hlv huv rfl (by lia) (by lia) (by lia) (by decreasing_tactic) (by decreasing_tactic) (by rw [List.length_take, List.length_drop]; lia) ?_
    refine st_cons ?_
    refine st_assign rfl rfl rfl ?_
    refine ev_binop ?_
    refine r_attr rfl ?_
    refine r_loc a 0 (by kernel_rfl) rfl ?_
    refine t_get a 410 3 (by kernel_rfl) (by trivial) (by trivial) rfl rfl ?_
    refine c_blt a "len" (by kernel_rfl) rfl ?_
    refine a_cons rfl ?_
    refine r_loc a 2 (by kernel_rfl) rfl ?_
    refine a_nil ?_
    refine tc_len (by trivial) ?_
    refine bin_add ?_
    refine ta_attr ?_
    refine r_loc a 0 (by kernel_rfl) rfl ?_
    rw [e1]
    refine s_field a 410 3 (by kernel_rfl) (by trivial) (by decreasing_tactic) (by kernel_rfl) ?_
    refine st_nil ?_
    refine st_cons ?_
    refine st_assign rfl rfl rfl ?_
    refine r_loc a 1 (by kernel_rfl) rfl ?_
    refine ta_attr ?_
    refine r_loc a 0 (by kernel_rfl) rfl ?_
    refine s_field a 410 2 (by kernel_rfl) (by trivial) (by decreasing_tactic) (by kernel_rfl) ?_
    refine st_nil ?_
    refine ⟨_, .skip (.skip (.refl _)), g.up i, rfl, ?_, Gap.up_moved ok (by lia) hi⟩
    rw [show ((g.ge : Int) + ((i : Int) - (g.gs : Int))) = ((g.ge + (i - g.gs) : Nat) : Int) by lia]
    rfl
theorem k_move_gap (a : At c sc d) {g : Gap} {i : Nat} {X : Led} (hd : 1 ≤ d) (ok : g.Ok) (hi : i ≤ g.text.length) (p : Less M (gapL g ++ X)) (h : ∀ g', g.Moved g' i → k .none (gapL g' ++ X)) : TC c (.ref 365) [.ref g.t, .int i] lm M k :=
  use a (fun p w => d_move_gap ok hi p w) hd p fun _ _ zz => by obtain ⟨g', e, e', m⟩ := zz; subst e e'; exact h g' m
end
end Mine
end

section
open PySem PySem.W PySem.Calls PyProof.Rows
set_option Elab.async false
set_option maxRecDepth 100000
set_option linter.unusedVariables false
namespace Mine
section
variable {c : Cx} {sc : Scope} {d : Nat} {lm : Loc} {M : Led} {k : MV → Led → Prop}
structure Gap.To (g g' : Gap) (txt : List Int) (n : Nat) : Prop where
  t : g'.t = g.t
  td : g'.td = g.td
  cl : g'.cl = g.cl
  ok : g'.Ok
  text : g'.text = txt
  len : g'.cells.length ≤ n
noncomputable def Gap.wide (g : Gap) (n : Nat) : Gap := { g with cells := g.cells.take g.ge ++ List.replicate n 0 ++ g.cells.drop g.ge, ge := g.ge + n }
theorem Gap.wide_text {g : Gap} (n : Nat) (ok : g.Ok) : (g.wide n).text = g.text ∧ (g.wide n).cells.length = g.cells.length + n := by
  have h1 := ok.le; have h2 := ok.len
  constructor
  · unfold Gap.text Gap.wide
    dsimp only
    rw [List.append_assoc, List.take_append_of_le_length (by rw [List.length_take]; lia), List.take_take, Nat.min_eq_left h1, ← List.append_assoc, List.drop_append, List.drop_of_length_le (by rw [List.length_append, List.length_take, List.length_replicate]; lia), List.length_append, List.length_take, List.length_replicate,
      show g.ge + n - (min g.ge g.cells.length + n) = 0 by lia]
    rfl
  · unfold Gap.wide
    simp only [List.length_append, List.length_take, List.length_drop, List.length_replicate]; lia
theorem rep0 (n : Nat) : (List.replicate n [MV.int 0]).flatten = ilst (List.replicate n 0) := by
  induction n with
  | zero => rfl
  | succ n ih => rw [List.replicate_succ, List.flatten_cons, ih, List.replicate_succ]; rfl
/-- the gap is wide enough -/
structure Gap.Wide (g g' : Gap) (n : Nat) : Prop extends g.To g' g.text (g.cells.length + n + 8) where
  gs : g'.gs = g.gs
  room : n ≤ g'.ge - g'.gs
theorem d_widen_gap {g : Gap} {n : Nat} (ok : g.Ok) (hn : n ≤ 200) (hz : g.cells.length + n + 8 ≤ 5000) (prog : Program) (w : World) : Does prog w (KK w.params) (.ref 372) 1 [.ref g.t, .int n] (gapL g) (fun r M' => ∃ g', r = .none ∧ M' = gapL g' ∧ g.Wide g' n) := by
  have h1 := ok.le
  have h2 := ok.len
  have h3 := ok.size
  refine does_fn 372 (cS 52 5) rfl (by kernel_rfl) (fun vs s' _ => bind2 rfl (fun v1 v2 => by kernel_rfl) vs s') (by kernel_rfl) rfl fun c a => ?_
  refine st_cons ?_
  refine st_assign rfl rfl rfl ?_
  refine ev_binop ?_
  refine r_loc a 1 (by kernel_rfl) rfl ?_
  refine ev_binop ?_
  refine r_attr rfl ?_
  refine r_loc a 0 (by kernel_rfl) rfl ?_
  refine t_get a 410 3 (by kernel_rfl) (by trivial) (by trivial) rfl rfl ?_
  refine r_attr rfl ?_
  refine r_loc a 0 (by kernel_rfl) rfl ?_
  refine t_get a 410 2 (by kernel_rfl) (by trivial) (by trivial) rfl rfl ?_
  refine bin_sub ?_
  refine bin_sub ?_
  refine s_loc a 2 (by kernel_rfl) ?_
  refine st_cons ?_
  refine st_if ?_
  refine tb_compare1 rfl ?_
  refine r_loc a 2 (by kernel_rfl) rfl ?_
  refine ev_int ?_
  refine cmp_gt ?_
  refine ⟨_, rfl, fun hb => ?_, fun hb => ?_⟩
  · replace hb := of_decide_eq_true hb
    refine st_cons ?_
    refine st_assign rfl rfl rfl ?_
    refine ev_binop ?_
    refine e_list ?_
    refine a_cons rfl ?_
    refine ev_int ?_
    refine a_nil ?_
    refine ⟨by decide, fun q1 => ?_⟩
    refine ev_binop ?_
    refine r_loc a 2 (by kernel_rfl) rfl ?_
    refine r_attr rfl ?_
    refine r_loc a 0 (by kernel_rfl) rfl ?_
    refine t_get a 410 0 (by kernel_rfl) (by trivial) (by trivial) rfl rfl ?_
    refine bin_add ?_
    refine bin_mul_lst (by trivial) (by lia) (by simp; lia) fun q2 => ?_
    rw [rep0]
    refine ta_sub ?_
    refine r_attr rfl ?_
    refine r_loc a 0 (by kernel_rfl) rfl ?_
    refine t_get a 410 1 (by kernel_rfl) (by trivial) (by trivial) rfl rfl ?_
    refine ev_sliceobj ?_
    refine part_some ?_
    refine r_attr rfl ?_
    refine r_loc a 0 (by kernel_rfl) rfl ?_
    refine t_get a 410 3 (by kernel_rfl) (by trivial) (by trivial) rfl rfl ?_
    refine part_some ?_
    refine r_attr rfl ?_
    refine r_loc a 0 (by kernel_rfl) rfl ?_
    refine t_get a 410 3 (by kernel_rfl) (by trivial) (by trivial) rfl rfl ?_
    refine ⟨_, _, rfl, rfl, fun sq lv uv hlv huv => ?_⟩
    refine s_patch (xs := g.cells) g.ge g.ge (by trivial) hlv huv rfl rfl (by lia) h2 (by decreasing_tactic) (by decreasing_tactic) (by rw [List.length_replicate]; lia) ?_
    refine st_cons ?_
    refine st_assign rfl rfl rfl ?_
    refine ev_binop ?_
    refine ev_binop ?_
    refine r_attr rfl ?_
    refine r_loc a 0 (by kernel_rfl) rfl ?_
    refine t_get a 410 3 (by kernel_rfl) (by trivial) (by trivial) rfl rfl ?_
    refine r_loc a 2 (by kernel_rfl) rfl ?_
    refine bin_add ?_
    refine r_attr rfl ?_
    refine r_loc a 0 (by kernel_rfl) rfl ?_
    refine t_get a 410 0 (by kernel_rfl) (by trivial) (by trivial) rfl rfl ?_
    refine bin_add ?_
    refine ta_attr ?_
    refine r_loc a 0 (by kernel_rfl) rfl ?_
    refine s_field a 410 3 (by kernel_rfl) (by trivial) (by decreasing_tactic) (by kernel_rfl) ?_
    refine st_nil ?_
    refine st_nil ?_
    obtain ⟨e1, e2⟩ := Gap.wide_text ((n : Int) - ((g.ge : Int) - (g.gs : Int)) + 8).toNat ok
    refine ⟨_, .skip (.skip (.skip (.refl _))), g.wide ((n : Int) - ((g.ge : Int) - (g.gs : Int)) + 8).toNat, rfl, ?_, ⟨⟨rfl, rfl, rfl, ⟨?_, ?_, by lia⟩, e1, by lia⟩, rfl, ?_⟩⟩
    · unfold gapL Gap.wide gapF
      dsimp only
      rw [show ((g.ge + ((n : Int) - ((g.ge : Int) - (g.gs : Int)) + 8).toNat : Nat) : Int) = (g.ge : Int) + ((n : Int) - ((g.ge : Int) - (g.gs : Int))) + 8 by lia]
      rfl
    · show g.gs ≤ g.ge + _; lia
    · rw [e2]; show g.ge + _ ≤ _; lia
    · show n ≤ g.ge + _ - g.gs; lia
  · replace hb := of_decide_eq_false hb
    refine st_nil ?_
    refine st_nil ?_
    exact ⟨_, .refl _, g, rfl, rfl, ⟨⟨rfl, rfl, rfl, ok, rfl, by lia⟩, rfl, by lia⟩⟩
theorem k_widen_gap (a : At c sc d) {g : Gap} {n : Nat} {X : Led} (hd : 1 ≤ d) (ok : g.Ok) (hn : n ≤ 200) (hz : g.cells.length + n + 8 ≤ 5000) (p : Less M (gapL g ++ X)) (h : ∀ g', g.Wide g' n → k .none (gapL g' ++ X)) : TC c (.ref 372) [.ref g.t, .int n] lm M k :=
  use a (fun p w => d_widen_gap ok hn hz p w) hd p fun _ _ zz => by obtain ⟨g', e, e', m⟩ := zz; subst e e'; exact h g' m
noncomputable def Gap.ins (g : Gap) (cs : List Int) : Gap := { g with cells := g.cells.take g.gs ++ cs ++ g.cells.drop (g.gs + cs.length), gs := g.gs + cs.length }
theorem Gap.ins_ok {g : Gap} {cs : List Int} (ok : g.Ok) (hc : cs.length ≤ g.ge - g.gs) : (g.ins cs).Ok ∧ (g.ins cs).text = g.text.take g.gs ++ cs ++ g.text.drop g.gs ∧ (g.ins cs).cells.length = g.cells.length := by
  have h1 := ok.le; have h2 := ok.len; have h3 := ok.size
  have hl : (g.ins cs).cells.length = g.cells.length := by
    unfold Gap.ins; simp only [List.length_append, List.length_take, List.length_drop]; lia
  refine ⟨⟨?_, by rw [hl]; exact h2, by rw [hl]; exact h3⟩, ?_, hl⟩
  · show g.gs + cs.length ≤ g.ge; lia
  · unfold Gap.text Gap.ins
    dsimp only
    have e1 : (g.cells.take g.gs ++ cs).length = g.gs + cs.length := by rw [List.length_append, List.length_take]; lia
    have e2 : (g.cells.take g.gs).length = g.gs := by rw [List.length_take]; lia
    rw [List.take_left' e1, List.take_left' e2, List.drop_left' e2, List.drop_append, List.drop_of_length_le (by rw [e1]; lia), e1, List.nil_append, List.drop_drop, show g.gs + cs.length + (g.ge - (g.gs + cs.length)) = g.ge by lia]
theorem d_gap_insert {g : Gap} {i : Nat} {q : Addr} {cs : List Int} (ok : g.Ok) (hi : i ≤ g.text.length) (hn : cs.length ≤ 200) (hz : g.cells.length + cs.length + 8 ≤ 5000) (prog : Program) (w : World) :
    Does prog w (KK w.params) (.ref 379) 2 [.ref g.t, .int i, .ref q] (gapL g ++ [(q, .lst (ilst cs))]) (fun r M' => ∃ g', r = .none ∧ M' = gapL g' ++ [(q, .lst (ilst cs))] ∧ g.To g' (g.text.take i ++ cs ++ g.text.drop i) (g.cells.length + cs.length + 8)) := by
  refine does_fn 379 (cS 52 6) rfl (by kernel_rfl) (fun vs s' _ => bind3 rfl (fun v1 v2 v3 => by kernel_rfl) vs s') (by kernel_rfl) rfl fun c a => ?_
  refine st_cons ?_
  refine st_expr a.ok rfl ?_
  refine c_meth a 410 372 rfl rfl (by kernel_rfl) ?_
  refine r_loc a 0 (by kernel_rfl) rfl ?_
  refine ⟨_, _, _, rfl, by trivial, by trivial, by kernel_rfl, ?_⟩
  refine a_cons rfl ?_
  refine c_blt a "len" (by kernel_rfl) rfl ?_
  refine a_cons rfl ?_
  refine r_loc a 2 (by kernel_rfl) rfl ?_
  refine a_nil ?_
  refine tc_len (by trivial) ?_
  refine a_nil ?_
  refine k_widen_gap a (Nat.le_of_ble_eq_true rfl) (n := (ilst cs).length) (X := [(q, .lst (ilst cs))]) ok (by rw [ilst_len]; lia) (by rw [ilst_len]; lia) (.refl _) fun g1 w1 => ?_
  rw [ilst_len] at w1
  obtain ⟨⟨et, etd, ecl, ok1, etx, elen⟩, egs, eroom⟩ := w1
  rw [← et]
  refine st_cons ?_
  refine st_expr a.ok rfl ?_
  refine c_meth a 410 365 rfl rfl (by kernel_rfl) ?_
  refine r_loc a 0 (by kernel_rfl) rfl ?_
  refine ⟨_, _, _, rfl, by trivial, by trivial, by kernel_rfl, ?_⟩
  refine a_cons rfl ?_
  refine r_loc a 1 (by kernel_rfl) rfl ?_
  refine a_nil ?_
  refine k_move_gap a (Nat.le_of_ble_eq_true rfl) (X := [(q, .lst (ilst cs))]) ok1 (by rw [etx]; exact hi) (.refl _) fun g2 m2 => ?_
  obtain ⟨ft, ftd, fcl, ok2, ftx, fgs, fgap, flen⟩ := m2
  have hroom : cs.length ≤ g2.ge - g2.gs := by lia
  have h1 := ok2.le
  have h2 := ok2.len
  obtain ⟨i1, i2, i3⟩ := Gap.ins_ok (cs := cs) ok2 hroom
  rw [← ft]
  refine st_cons ?_
  refine st_assign rfl rfl rfl ?_
  refine r_loc a 2 (by kernel_rfl) rfl ?_
  refine ta_sub ?_
  refine r_attr rfl ?_
  refine r_loc a 0 (by kernel_rfl) rfl ?_
  refine t_get a 410 1 (by kernel_rfl) (by trivial) (by trivial) rfl rfl ?_
  refine ev_sliceobj ?_
  refine part_some ?_
  refine r_loc a 1 (by kernel_rfl) rfl ?_
  refine part_some ?_
  refine ev_binop ?_
  refine r_loc a 1 (by kernel_rfl) rfl ?_
  refine c_blt a "len" (by kernel_rfl) rfl ?_
  refine a_cons rfl ?_
  refine r_loc a 2 (by kernel_rfl) rfl ?_
  refine a_nil ?_
  refine tc_len (by trivial) ?_
  refine bin_add ?_
  refine ⟨_, _, rfl, rfl, fun sq lv uv hlv huv => ?_⟩
  rw [ilst_len] at huv
  refine s_patch (xs := g2.cells) (ys := cs) i (i + cs.length) (by trivial) hlv huv rfl (by lia) (by lia) (by lia) (by decreasing_tactic) (by decreasing_tactic) (by have := ok2.size; lia) ?_
  refine st_cons ?_
  refine st_assign rfl rfl rfl ?_
  refine ev_binop ?_
  refine r_loc a 1 (by kernel_rfl) rfl ?_
  refine c_blt a "len" (by kernel_rfl) rfl ?_
  refine a_cons rfl ?_
  refine r_loc a 2 (by kernel_rfl) rfl ?_
  refine a_nil ?_
  refine tc_len (by trivial) ?_
  refine bin_add ?_
  refine ta_attr ?_
  refine r_loc a 0 (by kernel_rfl) rfl ?_
  refine s_field a 410 2 (by kernel_rfl) (by trivial) (by decreasing_tactic) (by kernel_rfl) ?_
  refine st_nil ?_
  refine ⟨_, .skip (.refl _), g2.ins cs, rfl, ?_, ⟨ft.trans et, ftd.trans etd, fcl.trans ecl, i1, by rw [i2, fgs, ftx, etx], by rw [i3]; lia⟩⟩
  unfold gapL Gap.ins gapF
  dsimp only
  rw [fgs, ilst_len]
  rfl
end
end Mine
end

section
open PySem PySem.W PySem.Calls PyProof.Rows
set_option Elab.async false
set_option maxRecDepth 100000
set_option linter.unusedVariables false
namespace Mine
section
variable {c : Cx} {sc : Scope} {d : Nat} {lm : Loc} {M : Led} {k : MV → Led → Prop}
theorem k_gap_codes (a : At c sc d) {g : Gap} {i j : Nat} {X : Led} (hd : 1 ≤ d) (ok : g.Ok) (hij : i ≤ j) (p : Less M (gapL g ++ X)) (h : ∀ q, k (.ref q) ((q, .lst (ilst (seg g.text i j))) :: gapL g ++ X)) : TC c (.ref 358) [.ref g.t, .int i, .int j] lm M k :=
  use a (fun p w => d_gap_codes ok hij p w) hd p fun _ _ zz => by obtain ⟨q, e, e'⟩ := zz; subst e e'; exact h q
theorem k_gap_insert (a : At c sc d) {g : Gap} {i : Nat} {q : Addr} {cs : List Int} {X : Led} (hd : 2 ≤ d) (ok : g.Ok) (hi : i ≤ g.text.length) (hn : cs.length ≤ 200) (hz : g.cells.length + cs.length + 8 ≤ 5000) (p : Less M (gapL g ++ [(q, .lst (ilst cs))] ++ X))
    (h : ∀ g', g.To g' (g.text.take i ++ cs ++ g.text.drop i) (g.cells.length + cs.length + 8) → k .none (gapL g' ++ [(q, .lst (ilst cs))] ++ X)) : TC c (.ref 379) [.ref g.t, .int i, .ref q] lm M k :=
  use a (fun p w => d_gap_insert ok hi hn hz p w) hd p fun _ _ zz => by obtain ⟨g', e, e', m⟩ := zz; subst e e'; exact h g' m
theorem Less.last {x : Addr × MO} {G : Led} : Less (x :: G) (G ++ [x]) := .perm (List.perm_append_singleton _ _).symm
theorem Less.first {x : Addr × MO} {G : Led} : Less (G ++ [x]) (x :: G) := .perm (List.perm_append_singleton _ _)
noncomputable def Gap.del (g : Gap) (i j : Nat) : Gap := { g with gs := i, ge := g.ge + j - g.gs }
theorem Gap.del_ok {g : Gap} {i j : Nat} (ok : g.Ok) (h1 : i ≤ g.gs) (h2 : g.gs ≤ j) (hj : j ≤ g.text.length) : (g.del i j).Ok ∧ (g.del i j).text = g.text.take i ++ g.text.drop j := by
  have h3 := ok.le; have h4 := ok.len; have h5 := ok.size
  have h6 := Gap.text_len ok
  refine ⟨⟨by show i ≤ g.ge + j - g.gs; lia, by show g.ge + j - g.gs ≤ g.cells.length; lia, h5⟩, ?_⟩
  unfold Gap.text Gap.del
  dsimp only
  have e2 : (g.cells.take g.gs).length = g.gs := by rw [List.length_take]; lia
  have d1 : (g.cells.take g.gs).drop j = [] := List.drop_of_length_le (by lia)
  rw [List.take_append_of_le_length (by lia), List.take_take, Nat.min_eq_left h1, List.drop_append, d1, e2, List.nil_append, List.drop_drop, show g.ge + (j - g.gs) = g.ge + j - g.gs by lia]
theorem d_gap_delete {g : Gap} {i j : Nat} (ok : g.Ok) (hij : i ≤ j) (hj : j ≤ g.text.length) (prog : Program) (w : World) :
    Does prog w (KK w.params) (.ref 386) 2 [.ref g.t, .int i, .int j] (gapL g) (fun r M' => ∃ q g', r = .ref q ∧ M' = (q, .lst (ilst (seg g.text i j))) :: gapL g' ∧ g.To g' (g.text.take i ++ g.text.drop j) g.cells.length) := by
  refine does_fn 386 (cS 52 7) rfl (by kernel_rfl) (fun vs s' _ => bind3 rfl (fun v1 v2 v3 => by kernel_rfl) vs s') (by kernel_rfl) rfl fun c a => ?_
  refine st_cons ?_
  refine st_assign rfl rfl rfl ?_
  refine c_meth a 410 358 rfl rfl (by kernel_rfl) ?_
  refine r_loc a 0 (by kernel_rfl) rfl ?_
  refine ⟨_, _, _, rfl, by trivial, by trivial, by kernel_rfl, ?_⟩
  refine a_cons rfl ?_
  refine r_loc a 1 (by kernel_rfl) rfl ?_
  refine a_cons rfl ?_
  refine r_loc a 2 (by kernel_rfl) rfl ?_
  refine a_nil ?_
  refine k_gap_codes a (Nat.le_of_ble_eq_true rfl) (X := []) ok hij (by rw [List.append_nil]; exact .refl _) fun q => ?_
  rw [List.append_nil]
  refine s_loc a 3 (by kernel_rfl) ?_
  refine st_join (fun lm₁ M₁ => lm₁ = [(Str.ofString "self", .ref g.t), (Str.ofString "start", .int i), (Str.ofString "end", .int j), (Str.ofString "gone", .ref q)] ∧ ∃ g1, M₁ = (q, .lst (ilst (seg g.text i j))) :: gapL g1 ∧ g1.t = g.t ∧ g1.td = g.td ∧ g1.cl = g.cl ∧ g1.Ok ∧ g1.text = g.text ∧ g1.cells.length = g.cells.length ∧ g1.gs ≤ j) ?_ (fun lm M hq => ?_)
  · refine st_if ?_
    refine tb_compare1 rfl ?_
    refine r_loc a 2 (by kernel_rfl) rfl ?_
    refine r_attr rfl ?_
    refine r_loc a 0 (by kernel_rfl) rfl ?_
    refine t_get a 410 2 (by kernel_rfl) (by trivial) (by trivial) rfl rfl ?_
    refine cmp_lt ?_
    refine ⟨_, rfl, fun hb => ?_, fun hb => ?_⟩
    · replace hb := of_decide_eq_true hb
      refine st_cons ?_
      refine st_expr a.ok rfl ?_
      refine c_meth a 410 365 rfl rfl (by kernel_rfl) ?_
      refine r_loc a 0 (by kernel_rfl) rfl ?_
      refine ⟨_, _, _, rfl, by trivial, by trivial, by kernel_rfl, ?_⟩
      refine a_cons rfl ?_
      refine r_loc a 2 (by kernel_rfl) rfl ?_
      refine a_nil ?_
      refine k_move_gap a (Nat.le_of_ble_eq_true rfl) ok hj .last fun g2 m2 => ?_
      obtain ⟨ft, ftd, fcl, ok2, ftx, fgs, fgap, flen⟩ := m2
      refine st_nil ?_
      exact ⟨_, _, sub_cons 0 (by kernel_rfl) rfl (sub_cons 1 (by kernel_rfl) rfl (sub_cons 2 (by kernel_rfl) rfl (sub_cons 3 (by kernel_rfl) rfl sub_nil))), .first, rfl, g2, rfl, ft, ftd, fcl, ok2, ftx, flen, by lia⟩
    · replace hb := of_decide_eq_false hb
      refine st_nil ?_
      exact ⟨_, _, sub_cons 0 (by kernel_rfl) rfl (sub_cons 1 (by kernel_rfl) rfl (sub_cons 2 (by kernel_rfl) rfl (sub_cons 3 (by kernel_rfl) rfl sub_nil))), .refl _, rfl, g, rfl, rfl, rfl, rfl, ok, rfl, rfl, by lia⟩
  obtain ⟨e, g1, e', et, etd, ecl, ok1, etx, elen, egs⟩ := hq
  subst e e'
  rw [← et]
  refine st_join (fun lm₁ M₁ => lm₁ = [(Str.ofString "self", .ref g1.t), (Str.ofString "start", .int i), (Str.ofString "end", .int j), (Str.ofString "gone", .ref q)] ∧ ∃ g2, M₁ = (q, .lst (ilst (seg g.text i j))) :: gapL g2 ∧ g2.t = g1.t ∧ g2.td = g.td ∧ g2.cl = g.cl ∧ g2.Ok ∧ g2.text = g.text ∧ g2.cells.length = g.cells.length ∧ g2.gs ≤ j ∧ i ≤ g2.gs) ?_ (fun lm M hq => ?_)
  · refine st_if ?_
    refine tb_compare1 rfl ?_
    refine r_loc a 1 (by kernel_rfl) rfl ?_
    refine r_attr rfl ?_
    refine r_loc a 0 (by kernel_rfl) rfl ?_
    refine t_get a 410 2 (by kernel_rfl) (by trivial) (by trivial) rfl rfl ?_
    refine cmp_gt ?_
    refine ⟨_, rfl, fun hb => ?_, fun hb => ?_⟩
    · replace hb := of_decide_eq_true hb
      refine st_cons ?_
      refine st_expr a.ok rfl ?_
      refine c_meth a 410 365 rfl rfl (by kernel_rfl) ?_
      refine r_loc a 0 (by kernel_rfl) rfl ?_
      refine ⟨_, _, _, rfl, by trivial, by trivial, by kernel_rfl, ?_⟩
      refine a_cons rfl ?_
      refine r_loc a 1 (by kernel_rfl) rfl ?_
      refine a_nil ?_
      refine k_move_gap a (Nat.le_of_ble_eq_true rfl) ok1 (by rw [etx]; lia) .last fun g2 m2 => ?_
      obtain ⟨ft, ftd, fcl, ok2, ftx, fgs, fgap, flen⟩ := m2
      refine st_nil ?_
      exact ⟨_, _, sub_cons 0 (by kernel_rfl) rfl (sub_cons 1 (by kernel_rfl) rfl (sub_cons 2 (by kernel_rfl) rfl (sub_cons 3 (by kernel_rfl) rfl sub_nil))), .first, rfl, g2, rfl, ft, ftd.trans etd, fcl.trans ecl, ok2, ftx.trans etx, by lia, by lia, by lia⟩
    · replace hb := of_decide_eq_false hb
      refine st_nil ?_
      exact ⟨_, _, sub_cons 0 (by kernel_rfl) rfl (sub_cons 1 (by kernel_rfl) rfl (sub_cons 2 (by kernel_rfl) rfl (sub_cons 3 (by kernel_rfl) rfl sub_nil))), .refl _, rfl, g1, rfl, rfl, etd, ecl, ok1, etx, elen, egs, by lia⟩
  obtain ⟨e, g2, e', ft, ftd, fcl, ok2, ftx, flen, fgs, fgs2⟩ := hq
  subst e e'
  rw [← ft]
  obtain ⟨i1, i2⟩ := Gap.del_ok ok2 fgs2 fgs (by rw [ftx]; exact hj)
  have h1 := ok2.le
  refine st_cons ?_
  refine st_assign rfl rfl rfl ?_
  refine ev_binop ?_
  refine ev_binop ?_
  refine r_attr rfl ?_
  refine r_loc a 0 (by kernel_rfl) rfl ?_
  refine t_get a 410 3 (by kernel_rfl) (by trivial) (by trivial) rfl rfl ?_
  refine r_loc a 2 (by kernel_rfl) rfl ?_
  refine bin_add ?_
  refine r_attr rfl ?_
  refine r_loc a 0 (by kernel_rfl) rfl ?_
  refine t_get a 410 2 (by kernel_rfl) (by trivial) (by trivial) rfl rfl ?_
  refine bin_sub ?_
  refine ta_attr ?_
  refine r_loc a 0 (by kernel_rfl) rfl ?_
  refine s_field a 410 3 (by kernel_rfl) (by trivial) (by decreasing_tactic) (by kernel_rfl) ?_
  refine st_cons ?_
  refine st_assign rfl rfl rfl ?_
  refine r_loc a 1 (by kernel_rfl) rfl ?_
  refine ta_attr ?_
  refine r_loc a 0 (by kernel_rfl) rfl ?_
  refine s_field a 410 2 (by kernel_rfl) (by trivial) (by decreasing_tactic) (by kernel_rfl) ?_
  refine st_cons ?_
  refine st_ret ?_
  refine r_loc a 3 (by kernel_rfl) rfl ?_
  refine ⟨_, .refl _, q, g2.del i j, rfl, ?_, ⟨ft.trans et, ftd, fcl, i1, by rw [i2, ftx], by show g2.cells.length ≤ _; lia⟩⟩
  unfold gapL Gap.del gapF
  dsimp only
  rw [show (((g2.ge + j - g2.gs : Nat)) : Int) = (g2.ge : Int) + (j : Int) - (g2.gs : Int) by lia]
  rfl
theorem k_gap_delete (a : At c sc d) {g : Gap} {i j : Nat} {X : Led} (hd : 2 ≤ d) (ok : g.Ok) (hij : i ≤ j) (hj : j ≤ g.text.length) (p : Less M (gapL g ++ X))
    (h : ∀ q g', g.To g' (g.text.take i ++ g.text.drop j) g.cells.length → k (.ref q) ((q, .lst (ilst (seg g.text i j))) :: gapL g' ++ X)) : TC c (.ref 386) [.ref g.t, .int i, .int j] lm M k :=
  use a (fun p w => d_gap_delete ok hij hj p w) hd p fun _ _ zz => by obtain ⟨q, g', e, e', m⟩ := zz; subst e e'; exact h q g' m
end
end Mine
end

section
open PySem PySem.W PySem.Calls PyProof.Rows
set_option Elab.async false
set_option maxRecDepth 100000
set_option linter.unusedVariables false
namespace Mine
section
variable {c : Cx} {sc : Scope} {d : Nat} {lm : Loc} {M : Led} {k : MV → Led → Prop}
/-! ### markers -/
structure Mk where
  a : Addr
  d : Addr
  n : Int
  p : Int
structure Mks where
  ms : Addr
  md : Addr
  rd : Addr
  b : Addr
  l : List Mk
noncomputable def mkF (b : Addr) (m : Mk) : List (Str × MV) := [(Str.ofString "number", .int m.n), (Str.ofString "advances", .bool false), (Str.ofString "buffer", .ref b), (Str.ofString "position", .int m.p)]
noncomputable def mkE (b : Addr) (m : Mk) : Led := [(m.a, .inst 487 m.d), (m.d, .flds (mkF b m))]
noncomputable def mksL (b : Addr) (l : List Mk) : Led := l.flatMap (mkE b)
noncomputable def mhL (K : Mks) : Led := [(K.ms, .inst 555 K.md), (K.md, .flds [(Str.ofString "rows", .ref K.rd)]), (K.rd, .idict (K.l.map fun m => (m.n, .ref m.a)))]
structure Mks.Ok (K : Mks) : Prop where
  lo : (K.rd == sysModules) = false
  few : K.l.length < 60
  asc : (K.l.map (·.n)).Pairwise (· < ·)
theorem d_numbers {K : Mks} (ok : K.Ok) (prog : Program) (w : World) : Does prog w (KK w.params) (.ref 510) 1 [.ref K.ms] (mhL K) (fun r M' => ∃ q, r = .ref q ∧ M' = (q, .lst (ilst (K.l.map (·.n)))) :: mhL K) := by
  have e : (K.l.map fun m => (m.n, MV.ref m.a)).map (·.1) = K.l.map (·.n) := by rw [List.map_map]; rfl
  refine does_fn 510 (cS 57 1) rfl (by kernel_rfl) (fun vs s' _ => bind1 rfl (fun v1 => by kernel_rfl) vs s') (by kernel_rfl) rfl fun c a => ?_
  refine st_cons ?_
  refine st_ret ?_
  refine c_blt a "sorted" (by kernel_rfl) rfl ?_
  refine a_cons rfl ?_
  refine r_attr rfl ?_
  refine r_loc a 0 (by kernel_rfl) rfl ?_
  refine t_get a 555 0 (by kernel_rfl) (by trivial) (by trivial) rfl rfl ?_
  refine a_nil ?_
  refine tc_sorted_dict a.ok (by trivial) ok.lo (by rw [List.length_map]; have := ok.few; lia) (by rw [e]; exact ok.asc.imp fun h => Int.le_of_lt h) fun q => ?_
  rw [e]
  exact ⟨_, .refl _, q, rfl, rfl⟩
theorem k_numbers (a : At c sc d) {K : Mks} {X : Led} (hd : 1 ≤ d) (ok : K.Ok) (p : Less M (mhL K ++ X)) (h : ∀ q, k (.ref q) ((q, .lst (ilst (K.l.map (·.n)))) :: mhL K ++ X)) : TC c (.ref 510) [.ref K.ms] lm M k :=
  use a (fun p w => d_numbers ok p w) hd p fun _ _ zz => by obtain ⟨q, e, e'⟩ := zz; subst e e'; exact h q
theorem d_put {K : Mks} {m : Mk} {b : Addr} {p : Int} (few : K.l.length < 60) (hn : ∀ x ∈ K.l, x.n ≠ m.n) (prog : Program) (w : World) : Does prog w (KK w.params) (.ref 517) 1 [.ref K.ms, .ref m.a, .int p] (mhL K ++ mkE b m) (fun r M' => r = .none ∧ M' = mhL { K with l := K.l ++ [{ m with p := p }] } ++ mkE b { m with p := p }) := by
  have hl : (K.l.map fun m => (m.n, MV.ref m.a)).lookup m.n = none := by
    rw [List.lookup_eq_none_iff]
    intro q hq
    obtain ⟨x, hx, rfl⟩ := List.mem_map.mp hq
    exact bne_iff_ne.mpr fun (e : m.n = x.n) => hn x hx e.symm
  refine does_fn 517 (cS 57 2) rfl (by kernel_rfl) (fun vs s' _ => bind3 rfl (fun v1 v2 v3 => by kernel_rfl) vs s') (by kernel_rfl) rfl fun c a => ?_
  refine st_cons ?_
  refine st_assign rfl rfl rfl ?_
  refine r_loc a 1 (by kernel_rfl) rfl ?_
  refine ta_sub ?_
  refine r_attr rfl ?_
  refine r_loc a 0 (by kernel_rfl) rfl ?_
  refine t_get a 555 0 (by kernel_rfl) (by trivial) (by trivial) rfl rfl ?_
  refine r_attr rfl ?_
  refine r_loc a 1 (by kernel_rfl) rfl ?_
  refine t_get a 487 0 (by kernel_rfl) (by trivial) (by trivial) rfl rfl ?_
  refine set_dict (by decreasing_tactic) hl (by rw [List.length_map]; lia) ?_
  refine st_cons ?_
  refine st_assign rfl rfl rfl ?_
  refine r_loc a 2 (by kernel_rfl) rfl ?_
  refine ta_attr ?_
  refine r_loc a 1 (by kernel_rfl) rfl ?_
  refine s_field a 487 3 (by kernel_rfl) (by trivial) (by decreasing_tactic) (by kernel_rfl) ?_
  refine st_nil ?_
  exact ⟨_, .refl _, rfl, by unfold mhL; simp only [List.map_append]; rfl⟩
theorem k_put (a : At c sc d) {K : Mks} {m : Mk} {b : Addr} {p : Int} {X : Led} (hd : 1 ≤ d) (few : K.l.length < 60) (hn : ∀ x ∈ K.l, x.n ≠ m.n) (pl : Less M (mhL K ++ mkE b m ++ X)) (h : k .none (mhL { K with l := K.l ++ [{ m with p := p }] } ++ mkE b { m with p := p } ++ X)) : TC c (.ref 517) [.ref K.ms, .ref m.a, .int p] lm M k :=
  use a (fun p w => d_put few hn p w) hd pl fun _ _ zz => by obtain ⟨e, e'⟩ := zz; subst e e'; exact h

noncomputable def mv (f : Int → Int) (m : Mk) : Mk := { m with p := f m.p }
theorem mksL_mid (b : Addr) (A : List Mk) (m : Mk) (B : List Mk) : mksL b (A ++ m :: B) = mksL b A ++ (mkE b m ++ mksL b B) := by
  unfold mksL; rw [List.flatMap_append, List.flatMap_cons]
theorem look_at {l A B : List Mk} {m : Mk} (e : l = A ++ m :: B) (h : (l.map (·.n)).Pairwise (· < ·)) : (l.map fun m => (m.n, MV.ref m.a)).lookup m.n = some (.ref m.a) := by
  subst e
  rw [List.map_append, List.map_cons, List.pairwise_append] at h
  rw [List.map_append, List.map_cons, List.lookup_append]
  have : (A.map fun m => (m.n, MV.ref m.a)).lookup m.n = none := by
    rw [List.lookup_eq_none_iff]
    intro q hq
    obtain ⟨x, hx, rfl⟩ := List.mem_map.mp hq
    have := h.2.2 x.n (List.mem_map_of_mem hx) m.n (.head _)
    exact bne_iff_ne.mpr fun (e : m.n = x.n) => by lia
  rw [this, List.lookup_cons]
  simp
theorem tb_cut {t : Sem Bool} {kb : Bool → Led → Prop} (b₀ : Bool) (h : Tb c t lm M fun b M' => b = b₀ ∧ M' = M) (h2 : kb b₀ M) : Tb c t lm M kb :=
  fun R s I => wpNo (h R s I) fun b s' ⟨M', i, e, e1, e2⟩ => by subst e1 e2; exact ⟨_, i, e, h2⟩
noncomputable def fDel (s e : Int) (p : Int) : Int := if e < p then p - (e - s) else if s < p then s else p
noncomputable def fIns (s e : Int) (p : Int) : Int := if s < p then p + e - s else p
noncomputable def fRep (s e n : Int) (p : Int) : Int := if e ≤ p then p + n - (e - s) else if s < p then s else p
theorem mv_set {f : Int → Int} {m : Mk} {p : Int} (h : f m.p = p) : mv f m = { m with p := p } := by unfold mv; rw [h]
theorem mv_keep {f : Int → Int} {m : Mk} (h : f m.p = m.p) : mv f m = m := by unfold mv; rw [h]
theorem d_m_deleted {K : Mks} {s e : Int} (ok : K.Ok) (prog : Program) (w : World) : Does prog w (KK w.params) (.ref 545) 2 [.ref K.ms, .int s, .int e] (mhL K ++ mksL K.b K.l) (fun r M' => r = .none ∧ M' = mhL K ++ mksL K.b (K.l.map (mv (fDel s e)))) := by
  refine does_fn 545 (cS 57 6) rfl (by kernel_rfl) (fun vs s' _ => bind3 rfl (fun v1 v2 v3 => by kernel_rfl) vs s') (by kernel_rfl) rfl fun c a => ?_
  refine st_cons ?_
  -- FOR
  refine st_for (fun _ => rfl) ?_
  refine ti_list a.ok ?_
  refine c_meth a 555 510 rfl rfl (by kernel_rfl) ?_
  refine r_loc a 0 (by kernel_rfl) rfl ?_
  refine ⟨_, _, _, rfl, by trivial, by trivial, by kernel_rfl, ?_⟩
  refine a_nil ?_
  refine k_numbers a (Nat.le_of_ble_eq_true rfl) ok (.refl _) fun q => ?_
  refine ⟨_, _, mhL K ++ mksL K.b K.l, rfl, .refl _, ?_⟩
  refine ⟨fun i lm M => ∃ A B, K.l = A ++ B ∧ A.length = i ∧ lm = [(Str.ofString "self", .ref K.ms), (Str.ofString "start", .int s), (Str.ofString "end", .int e)] ∧ M = mhL K ++ mksL K.b (A.map (mv (fDel s e)) ++ B), ⟨_, _, .refl _, .refl _, [], K.l, rfl, rfl, rfl, rfl⟩, fun i iv lm M hi hJ => ?_, fun lm M hJ => ?_⟩
  · obtain ⟨A, B, eL, hA, e1, e2⟩ := hJ
    subst e1 e2
    obtain ⟨num, hnum, e⟩ := one_of hi
    subst e
    rw [eL, List.map_append, List.getElem?_append_right (by rw [List.length_map]; lia), List.length_map, hA, Nat.sub_self] at hnum
    obtain ⟨m, B, rfl⟩ : ∃ m B', B = m :: B' := by
      cases B with
      | nil => simp at hnum
      | cons m B => exact ⟨m, B, rfl⟩
    have hmn : m.n = num := by simpa using hnum
    subst hmn
    rw [mksL_mid]
    have ha : (m.a, MO.inst 487 m.d) ∈ mhL K ++ (mksL K.b (A.map (mv (fDel s e))) ++ (mkE K.b m ++ mksL K.b B)) := List.mem_append_right _ (List.mem_append_right _ (.head _))
    have hd : (m.d, MO.flds (mkF K.b m)) ∈ mhL K ++ (mksL K.b (A.map (mv (fDel s e))) ++ (mkE K.b m ++ mksL K.b B)) := List.mem_append_right _ (List.mem_append_right _ (.tail _ (.head _)))
    have U : ∀ p, Up m.d (.flds (mkF K.b m)) (.flds (putAt 3 (Str.ofString "position", .int p) (mkF K.b m))) (mhL K ++ (mksL K.b (A.map (mv (fDel s e))) ++ (mkE K.b m ++ mksL K.b B))) (mhL K ++ (mksL K.b (A.map (mv (fDel s e))) ++ (mkE K.b { m with p := p } ++ mksL K.b B))) := fun p => Up.right _ (Up.right _ (.tail .head))
    refine ti_one ?_
    refine s_loc a 3 (by kernel_rfl) ?_
    refine st_cons ?_
    refine st_assign rfl rfl rfl ?_
    refine ev_index ?_
    refine r_attr rfl ?_
    refine r_loc a 0 (by kernel_rfl) rfl ?_
    refine t_get a 555 0 (by kernel_rfl) (by trivial) (by trivial) rfl rfl ?_
    refine r_loc a 3 (by kernel_rfl) rfl ?_
    refine sub_dict (by trivial) (look_at eL ok.asc) ?_ (fun _ => rfl)
    refine s_loc a 4 (by kernel_rfl) ?_
    refine st_cons ?_
    refine st_if ?_
    refine tb_compare1 rfl ?_
    refine r_attr rfl ?_
    refine r_loc a 4 (by kernel_rfl) rfl ?_
    refine t_get a 487 3 (by kernel_rfl) (by trivial) (by trivial) rfl rfl ?_
    refine r_loc a 2 (by kernel_rfl) rfl ?_
    refine cmp_gt ?_
    refine ⟨_, rfl, fun hb => ?_, fun hb => ?_⟩
    · replace hb := of_decide_eq_true hb
      refine st_cons ?_
      refine st_assign rfl rfl rfl ?_
      refine ev_binop ?_
      refine r_attr rfl ?_
      refine r_loc a 4 (by kernel_rfl) rfl ?_
      refine t_get a 487 3 (by kernel_rfl) (by trivial) (by trivial) rfl rfl ?_
      refine ev_binop ?_
      refine r_loc a 2 (by kernel_rfl) rfl ?_
      refine r_loc a 1 (by kernel_rfl) rfl ?_
      refine bin_sub ?_
      refine bin_sub ?_
      refine ta_attr ?_
      refine r_loc a 4 (by kernel_rfl) rfl ?_
      refine s_field a 487 3 (by kernel_rfl) (by trivial) (U _) (by kernel_rfl) ?_
      refine st_nil ?_
      refine st_nil ?_
      refine ⟨_, _, sub_cons 0 (by kernel_rfl) rfl (sub_cons 1 (by kernel_rfl) rfl (sub_cons 2 (by kernel_rfl) rfl sub_nil)), .refl _, A ++ [m], B, by rw [eL, List.append_assoc]; rfl, by rw [List.length_append, hA]; rfl, rfl, ?_⟩
      rw [List.map_append, List.append_assoc]
      show _ = mhL K ++ mksL K.b (A.map (mv (fDel s e)) ++ mv (fDel s e) m :: B)
      rw [mksL_mid]
      rw [mv_set (p := m.p - (e - s)) (by unfold fDel; rw [if_pos hb])]
    · replace hb := of_decide_eq_false hb
      refine st_cons ?_
      refine st_if ?_
      refine tb_compare1 rfl ?_
      refine r_attr rfl ?_
      refine r_loc a 4 (by kernel_rfl) rfl ?_
      refine t_get a 487 3 (by kernel_rfl) (by trivial) (by trivial) rfl rfl ?_
      refine r_loc a 1 (by kernel_rfl) rfl ?_
      refine cmp_gt ?_
      refine ⟨_, rfl, fun hb2 => ?_, fun hb2 => ?_⟩
      · replace hb2 := of_decide_eq_true hb2
        refine st_cons ?_
        refine st_assign rfl rfl rfl ?_
        refine r_loc a 1 (by kernel_rfl) rfl ?_
        refine ta_attr ?_
        refine r_loc a 4 (by kernel_rfl) rfl ?_
        refine s_field a 487 3 (by kernel_rfl) (by trivial) (U _) (by kernel_rfl) ?_
        refine st_nil ?_
        refine st_nil ?_
        refine st_nil ?_
        refine ⟨_, _, sub_cons 0 (by kernel_rfl) rfl (sub_cons 1 (by kernel_rfl) rfl (sub_cons 2 (by kernel_rfl) rfl sub_nil)), .refl _, A ++ [m], B, by rw [eL, List.append_assoc]; rfl, by rw [List.length_append, hA]; rfl, rfl, ?_⟩
        rw [List.map_append, List.append_assoc]
        show _ = mhL K ++ mksL K.b (A.map (mv (fDel s e)) ++ mv (fDel s e) m :: B)
        rw [mksL_mid]
        rw [mv_set (p := s) (by unfold fDel; rw [if_neg hb, if_pos hb2])]
      · replace hb2 := of_decide_eq_false hb2
        refine st_nil ?_
        refine st_nil ?_
        refine st_nil ?_
        refine ⟨_, _, sub_cons 0 (by kernel_rfl) rfl (sub_cons 1 (by kernel_rfl) rfl (sub_cons 2 (by kernel_rfl) rfl sub_nil)), .refl _, A ++ [m], B, by rw [eL, List.append_assoc]; rfl, by rw [List.length_append, hA]; rfl, rfl, ?_⟩
        rw [List.map_append, List.append_assoc]
        show _ = mhL K ++ mksL K.b (A.map (mv (fDel s e)) ++ mv (fDel s e) m :: B)
        rw [mksL_mid]
        rw [mv_keep (by unfold fDel; rw [if_neg hb, if_neg hb2])]
  · refine st_nil ?_
    obtain ⟨A, B, eL, hA, e1, e2⟩ := hJ
    have hB : B = [] := by
      have h1 := congrArg List.length eL
      rw [List.length_append] at h1
      simp only [ilst, List.length_map] at hA
      exact List.eq_nil_of_length_eq_zero (by lia)
    subst hB e2
    rw [List.append_nil] at eL
    refine ⟨_, .skip (.refl _), rfl, ?_⟩
    rw [List.append_nil, eL]
    rfl
theorem k_m_deleted (a : At c sc d) {K : Mks} {s e : Int} {X : Led} (hd : 2 ≤ d) (ok : K.Ok) (p : Less M (mhL K ++ mksL K.b K.l ++ X)) (h : k .none (mhL K ++ mksL K.b (K.l.map (mv (fDel s e))) ++ X)) : TC c (.ref 545) [.ref K.ms, .int s, .int e] lm M k :=
  use a (fun p w => d_m_deleted ok p w) hd p fun _ _ zz => by obtain ⟨e, e'⟩ := zz; subst e e'; exact h
theorem d_m_replaced {K : Mks} {s e n : Int} (ok : K.Ok) (prog : Program) (w : World) : Does prog w (KK w.params) (.ref 552) 2 [.ref K.ms, .int s, .int e, .int n] (mhL K ++ mksL K.b K.l) (fun r M' => r = .none ∧ M' = mhL K ++ mksL K.b (K.l.map (mv (fRep s e n)))) := by
  refine does_fn 552 (cS 57 7) rfl (by kernel_rfl) (fun vs s' _ => bind4 rfl (fun v1 v2 v3 v4 => by kernel_rfl) vs s') (by kernel_rfl) rfl fun c a => ?_
  refine st_cons ?_
  -- FOR
  refine st_for (fun _ => rfl) ?_
  refine ti_list a.ok ?_
  refine c_meth a 555 510 rfl rfl (by kernel_rfl) ?_
  refine r_loc a 0 (by kernel_rfl) rfl ?_
  refine ⟨_, _, _, rfl, by trivial, by trivial, by kernel_rfl, ?_⟩
  refine a_nil ?_
  refine k_numbers a (Nat.le_of_ble_eq_true rfl) ok (.refl _) fun q => ?_
  refine ⟨_, _, mhL K ++ mksL K.b K.l, rfl, .refl _, ?_⟩
  refine ⟨fun i lm M => ∃ A B, K.l = A ++ B ∧ A.length = i ∧ lm = [(Str.ofString "self", .ref K.ms), (Str.ofString "start", .int s), (Str.ofString "end", .int e), (Str.ofString "many", .int n)] ∧ M = mhL K ++ mksL K.b (A.map (mv (fRep s e n)) ++ B), ⟨_, _, .refl _, .refl _, [], K.l, rfl, rfl, rfl, rfl⟩, fun i iv lm M hi hJ => ?_, fun lm M hJ => ?_⟩
  · obtain ⟨A, B, eL, hA, e1, e2⟩ := hJ
    subst e1 e2
    obtain ⟨num, hnum, e⟩ := one_of hi
    subst e
    rw [eL, List.map_append, List.getElem?_append_right (by rw [List.length_map]; lia), List.length_map, hA, Nat.sub_self] at hnum
    obtain ⟨m, B, rfl⟩ : ∃ m B', B = m :: B' := by
      cases B with
      | nil => simp at hnum
      | cons m B => exact ⟨m, B, rfl⟩
    have hmn : m.n = num := by simpa using hnum
    subst hmn
    rw [mksL_mid]
    have ha : (m.a, MO.inst 487 m.d) ∈ mhL K ++ (mksL K.b (A.map (mv (fRep s e n))) ++ (mkE K.b m ++ mksL K.b B)) := List.mem_append_right _ (List.mem_append_right _ (.head _))
    have hd : (m.d, MO.flds (mkF K.b m)) ∈ mhL K ++ (mksL K.b (A.map (mv (fRep s e n))) ++ (mkE K.b m ++ mksL K.b B)) := List.mem_append_right _ (List.mem_append_right _ (.tail _ (.head _)))
    have U : ∀ p, Up m.d (.flds (mkF K.b m)) (.flds (putAt 3 (Str.ofString "position", .int p) (mkF K.b m))) (mhL K ++ (mksL K.b (A.map (mv (fRep s e n))) ++ (mkE K.b m ++ mksL K.b B))) (mhL K ++ (mksL K.b (A.map (mv (fRep s e n))) ++ (mkE K.b { m with p := p } ++ mksL K.b B))) := fun p => Up.right _ (Up.right _ (.tail .head))
    refine ti_one ?_
    refine s_loc a 4 (by kernel_rfl) ?_
    refine st_cons ?_
    refine st_assign rfl rfl rfl ?_
    refine ev_index ?_
    refine r_attr rfl ?_
    refine r_loc a 0 (by kernel_rfl) rfl ?_
    refine t_get a 555 0 (by kernel_rfl) (by trivial) (by trivial) rfl rfl ?_
    refine r_loc a 4 (by kernel_rfl) rfl ?_
    refine sub_dict (by trivial) (look_at eL ok.asc) ?_ (fun _ => rfl)
    refine s_loc a 5 (by kernel_rfl) ?_
    refine st_cons ?_
    refine st_if ?_
    refine tb_compare1 rfl ?_
    refine r_attr rfl ?_
    refine r_loc a 5 (by kernel_rfl) rfl ?_
    refine t_get a 487 3 (by kernel_rfl) (by trivial) (by trivial) rfl rfl ?_
    refine r_loc a 2 (by kernel_rfl) rfl ?_
    refine cmp_ge ?_
    refine ⟨_, rfl, fun hb => ?_, fun hb => ?_⟩
    · replace hb := of_decide_eq_true hb
      refine st_cons ?_
      refine st_assign rfl rfl rfl ?_
      refine ev_binop ?_
      refine ev_binop ?_
      refine r_attr rfl ?_
      refine r_loc a 5 (by kernel_rfl) rfl ?_
      refine t_get a 487 3 (by kernel_rfl) (by trivial) (by trivial) rfl rfl ?_
      refine r_loc a 3 (by kernel_rfl) rfl ?_
      refine bin_add ?_
      refine ev_binop ?_
      refine r_loc a 2 (by kernel_rfl) rfl ?_
      refine r_loc a 1 (by kernel_rfl) rfl ?_
      refine bin_sub ?_
      refine bin_sub ?_
      refine ta_attr ?_
      refine r_loc a 5 (by kernel_rfl) rfl ?_
      refine s_field a 487 3 (by kernel_rfl) (by trivial) (U _) (by kernel_rfl) ?_
      refine st_nil ?_
      refine st_nil ?_
      refine ⟨_, _, sub_cons 0 (by kernel_rfl) rfl (sub_cons 1 (by kernel_rfl) rfl (sub_cons 2 (by kernel_rfl) rfl (sub_cons 3 (by kernel_rfl) rfl sub_nil))), .refl _, A ++ [m], B, by rw [eL, List.append_assoc]; rfl, by rw [List.length_append, hA]; rfl, rfl, ?_⟩
      rw [List.map_append, List.append_assoc]
      show _ = mhL K ++ mksL K.b (A.map (mv (fRep s e n)) ++ mv (fRep s e n) m :: B)
      rw [mksL_mid]
      rw [mv_set (p := m.p + n - (e - s)) (by unfold fRep; rw [if_pos hb])]
    · replace hb := of_decide_eq_false hb
      refine st_cons ?_
      refine st_if ?_
      refine tb_compare1 rfl ?_
      refine r_attr rfl ?_
      refine r_loc a 5 (by kernel_rfl) rfl ?_
      refine t_get a 487 3 (by kernel_rfl) (by trivial) (by trivial) rfl rfl ?_
      refine r_loc a 1 (by kernel_rfl) rfl ?_
      refine cmp_gt ?_
      refine ⟨_, rfl, fun hb2 => ?_, fun hb2 => ?_⟩
      · replace hb2 := of_decide_eq_true hb2
        refine st_cons ?_
        refine st_assign rfl rfl rfl ?_
        refine r_loc a 1 (by kernel_rfl) rfl ?_
        refine ta_attr ?_
        refine r_loc a 5 (by kernel_rfl) rfl ?_
        refine s_field a 487 3 (by kernel_rfl) (by trivial) (U _) (by kernel_rfl) ?_
        refine st_nil ?_
        refine st_nil ?_
        refine st_nil ?_
        refine ⟨_, _, sub_cons 0 (by kernel_rfl) rfl (sub_cons 1 (by kernel_rfl) rfl (sub_cons 2 (by kernel_rfl) rfl (sub_cons 3 (by kernel_rfl) rfl sub_nil))), .refl _, A ++ [m], B, by rw [eL, List.append_assoc]; rfl, by rw [List.length_append, hA]; rfl, rfl, ?_⟩
        rw [List.map_append, List.append_assoc]
        show _ = mhL K ++ mksL K.b (A.map (mv (fRep s e n)) ++ mv (fRep s e n) m :: B)
        rw [mksL_mid]
        rw [mv_set (p := s) (by unfold fRep; rw [if_neg hb, if_pos hb2])]
      · replace hb2 := of_decide_eq_false hb2
        refine st_nil ?_
        refine st_nil ?_
        refine st_nil ?_
        refine ⟨_, _, sub_cons 0 (by kernel_rfl) rfl (sub_cons 1 (by kernel_rfl) rfl (sub_cons 2 (by kernel_rfl) rfl (sub_cons 3 (by kernel_rfl) rfl sub_nil))), .refl _, A ++ [m], B, by rw [eL, List.append_assoc]; rfl, by rw [List.length_append, hA]; rfl, rfl, ?_⟩
        rw [List.map_append, List.append_assoc]
        show _ = mhL K ++ mksL K.b (A.map (mv (fRep s e n)) ++ mv (fRep s e n) m :: B)
        rw [mksL_mid]
        rw [mv_keep (by unfold fRep; rw [if_neg hb, if_neg hb2])]
  · refine st_nil ?_
    obtain ⟨A, B, eL, hA, e1, e2⟩ := hJ
    have hB : B = [] := by
      have h1 := congrArg List.length eL
      rw [List.length_append] at h1
      simp only [ilst, List.length_map] at hA
      exact List.eq_nil_of_length_eq_zero (by lia)
    subst hB e2
    rw [List.append_nil] at eL
    refine ⟨_, .skip (.refl _), rfl, ?_⟩
    rw [List.append_nil, eL]
    rfl
theorem k_m_replaced (a : At c sc d) {K : Mks} {s e n : Int} {X : Led} (hd : 2 ≤ d) (ok : K.Ok) (p : Less M (mhL K ++ mksL K.b K.l ++ X)) (h : k .none (mhL K ++ mksL K.b (K.l.map (mv (fRep s e n))) ++ X)) : TC c (.ref 552) [.ref K.ms, .int s, .int e, .int n] lm M k :=
  use a (fun p w => d_m_replaced ok p w) hd p fun _ _ zz => by obtain ⟨e, e'⟩ := zz; subst e e'; exact h
theorem d_m_inserted {K : Mks} {s e : Int} (ok : K.Ok) (prog : Program) (w : World) : Does prog w (KK w.params) (.ref 538) 2 [.ref K.ms, .int s, .int e, .bool false] (mhL K ++ mksL K.b K.l) (fun r M' => r = .none ∧ M' = mhL K ++ mksL K.b (K.l.map (mv (fIns s e)))) := by
  refine does_fn 538 (cS 57 5) rfl (by kernel_rfl) (fun vs s' _ => bind4 rfl (fun v1 v2 v3 v4 => by kernel_rfl) vs s') (by kernel_rfl) rfl fun c a => ?_
  refine st_cons ?_
  -- FOR
  refine st_for (fun _ => rfl) ?_
  refine ti_list a.ok ?_
  refine c_meth a 555 510 rfl rfl (by kernel_rfl) ?_
  refine r_loc a 0 (by kernel_rfl) rfl ?_
  refine ⟨_, _, _, rfl, by trivial, by trivial, by kernel_rfl, ?_⟩
  refine a_nil ?_
  refine k_numbers a (Nat.le_of_ble_eq_true rfl) ok (.refl _) fun q => ?_
  refine ⟨_, _, mhL K ++ mksL K.b K.l, rfl, .refl _, ?_⟩
  refine ⟨fun i lm M => ∃ A B, K.l = A ++ B ∧ A.length = i ∧ lm = [(Str.ofString "self", .ref K.ms), (Str.ofString "start", .int s), (Str.ofString "end", .int e), (Str.ofString "is_before", .bool false)] ∧ M = mhL K ++ mksL K.b (A.map (mv (fIns s e)) ++ B), ⟨_, _, .refl _, .refl _, [], K.l, rfl, rfl, rfl, rfl⟩, fun i iv lm M hi hJ => ?_, fun lm M hJ => ?_⟩
  · obtain ⟨A, B, eL, hA, e1, e2⟩ := hJ
    subst e1 e2
    obtain ⟨num, hnum, e⟩ := one_of hi
    subst e
    rw [eL, List.map_append, List.getElem?_append_right (by rw [List.length_map]; lia), List.length_map, hA, Nat.sub_self] at hnum
    obtain ⟨m, B, rfl⟩ : ∃ m B', B = m :: B' := by
      cases B with
      | nil => simp at hnum
      | cons m B => exact ⟨m, B, rfl⟩
    have hmn : m.n = num := by simpa using hnum
    subst hmn
    rw [mksL_mid]
    have ha : (m.a, MO.inst 487 m.d) ∈ mhL K ++ (mksL K.b (A.map (mv (fIns s e))) ++ (mkE K.b m ++ mksL K.b B)) := List.mem_append_right _ (List.mem_append_right _ (.head _))
    have hd : (m.d, MO.flds (mkF K.b m)) ∈ mhL K ++ (mksL K.b (A.map (mv (fIns s e))) ++ (mkE K.b m ++ mksL K.b B)) := List.mem_append_right _ (List.mem_append_right _ (.tail _ (.head _)))
    have U : ∀ p, Up m.d (.flds (mkF K.b m)) (.flds (putAt 3 (Str.ofString "position", .int p) (mkF K.b m))) (mhL K ++ (mksL K.b (A.map (mv (fIns s e))) ++ (mkE K.b m ++ mksL K.b B))) (mhL K ++ (mksL K.b (A.map (mv (fIns s e))) ++ (mkE K.b { m with p := p } ++ mksL K.b B))) := fun p => Up.right _ (Up.right _ (.tail .head))
    refine ti_one ?_
    refine s_loc a 4 (by kernel_rfl) ?_
    refine st_cons ?_
    refine st_assign rfl rfl rfl ?_
    refine ev_index ?_
    refine r_attr rfl ?_
    refine r_loc a 0 (by kernel_rfl) rfl ?_
    refine t_get a 555 0 (by kernel_rfl) (by trivial) (by trivial) rfl rfl ?_
    refine r_loc a 4 (by kernel_rfl) rfl ?_
    refine sub_dict (by trivial) (look_at eL ok.asc) ?_ (fun _ => rfl)
    refine s_loc a 5 (by kernel_rfl) ?_
    refine st_cons ?_
    refine st_if ?_
    refine tb_cut (decide (s < m.p)) ?_ ?_
    · refine tb_bool ?_
      refine all_or_cons ?_
      refine tb_compare1 rfl ?_
      refine r_attr rfl ?_
      refine r_loc a 5 (by kernel_rfl) rfl ?_
      refine t_get a 487 3 (by kernel_rfl) (by trivial) (by trivial) rfl rfl ?_
      refine r_loc a 1 (by kernel_rfl) rfl ?_
      refine cmp_gt ?_
      refine ⟨_, rfl, fun hb => ⟨hb.symm, rfl⟩, fun hb => ?_⟩
      refine all_or_cons ?_
      refine tb_bool ?_
      refine all_and_cons ?_
      refine tb_compare1 rfl ?_
      refine r_attr rfl ?_
      refine r_loc a 5 (by kernel_rfl) rfl ?_
      refine t_get a 487 3 (by kernel_rfl) (by trivial) (by trivial) rfl rfl ?_
      refine r_loc a 1 (by kernel_rfl) rfl ?_
      refine cmp_eq ?_
      refine ⟨_, rfl, fun h2 => ?_, fun h2 => ?_⟩
      · refine all_and_cons ?_
        refine tb_bool ?_
        refine all_or_cons ?_
        refine tb_value (fun _ => rfl) ?_
        refine r_loc a 3 (by kernel_rfl) rfl ?_
        refine ⟨_, rfl, nofun, fun _ => ?_⟩
        refine all_or_cons ?_
        refine tb_value (fun _ => rfl) ?_
        refine r_attr rfl ?_
        refine r_loc a 5 (by kernel_rfl) rfl ?_
        refine t_get a 487 1 (by kernel_rfl) (by trivial) (by trivial) rfl rfl ?_
        refine ⟨_, rfl, nofun, fun _ => ?_⟩
        refine all_or_nil ?_
        refine ⟨nofun, fun _ => ?_⟩
        refine ⟨nofun, fun _ => ?_⟩
        refine all_or_nil ?_
        exact ⟨hb.symm, rfl⟩
      · refine ⟨nofun, fun _ => ?_⟩
        refine all_or_nil ?_
        exact ⟨hb.symm, rfl⟩
    · refine ⟨fun hb => ?_, fun hb => ?_⟩
      · replace hb := of_decide_eq_true hb
        refine st_cons ?_
        refine st_assign rfl rfl rfl ?_
        refine ev_binop ?_
        refine ev_binop ?_
        refine r_attr rfl ?_
        refine r_loc a 5 (by kernel_rfl) rfl ?_
        refine t_get a 487 3 (by kernel_rfl) (by trivial) (by trivial) rfl rfl ?_
        refine r_loc a 2 (by kernel_rfl) rfl ?_
        refine bin_add ?_
        refine r_loc a 1 (by kernel_rfl) rfl ?_
        refine bin_sub ?_
        refine ta_attr ?_
        refine r_loc a 5 (by kernel_rfl) rfl ?_
        refine s_field a 487 3 (by kernel_rfl) (by trivial) (U _) (by kernel_rfl) ?_
        refine st_nil ?_
        refine st_nil ?_
        refine ⟨_, _, sub_cons 0 (by kernel_rfl) rfl (sub_cons 1 (by kernel_rfl) rfl (sub_cons 2 (by kernel_rfl) rfl (sub_cons 3 (by kernel_rfl) rfl sub_nil))), .refl _, A ++ [m], B, by rw [eL, List.append_assoc]; rfl, by rw [List.length_append, hA]; rfl, rfl, ?_⟩
        rw [List.map_append, List.append_assoc]
        show _ = mhL K ++ mksL K.b (A.map (mv (fIns s e)) ++ mv (fIns s e) m :: B)
        rw [mksL_mid]
        rw [mv_set (p := m.p + e - s) (by unfold fIns; rw [if_pos hb])]
      · replace hb := of_decide_eq_false hb
        refine st_nil ?_
        refine st_nil ?_
        refine ⟨_, _, sub_cons 0 (by kernel_rfl) rfl (sub_cons 1 (by kernel_rfl) rfl (sub_cons 2 (by kernel_rfl) rfl (sub_cons 3 (by kernel_rfl) rfl sub_nil))), .refl _, A ++ [m], B, by rw [eL, List.append_assoc]; rfl, by rw [List.length_append, hA]; rfl, rfl, ?_⟩
        rw [List.map_append, List.append_assoc]
        show _ = mhL K ++ mksL K.b (A.map (mv (fIns s e)) ++ mv (fIns s e) m :: B)
        rw [mksL_mid]
        rw [mv_keep (by unfold fIns; rw [if_neg hb])]
  · refine st_nil ?_
    obtain ⟨A, B, eL, hA, e1, e2⟩ := hJ
    have hB : B = [] := by
      have h1 := congrArg List.length eL
      rw [List.length_append] at h1
      simp only [ilst, List.length_map] at hA
      exact List.eq_nil_of_length_eq_zero (by lia)
    subst hB e2
    rw [List.append_nil] at eL
    refine ⟨_, .skip (.refl _), rfl, ?_⟩
    rw [List.append_nil, eL]
    rfl
theorem k_m_inserted (a : At c sc d) {K : Mks} {s e : Int} {X : Led} (hd : 2 ≤ d) (ok : K.Ok) (p : Less M (mhL K ++ mksL K.b K.l ++ X)) (h : k .none (mhL K ++ mksL K.b (K.l.map (mv (fIns s e))) ++ X)) : TC c (.ref 538) [.ref K.ms, .int s, .int e, .bool false] lm M k :=
  use a (fun p w => d_m_inserted ok p w) hd p fun _ _ zz => by obtain ⟨e, e'⟩ := zz; subst e e'; exact h
end
end Mine
end

section
open PySem PySem.W PySem.Calls PyProof.Rows
set_option Elab.async false
set_option maxRecDepth 100000
set_option linter.unusedVariables false
namespace Mine
section
variable {c : Cx} {sc : Scope} {d : Nat} {lm : Loc} {M : Led} {k : MV → Led → Prop}
/-! ### the buffer -/
structure Buf where
  b : Addr
  bd : Addr
  ls : Addr
  g : Gap
  K : Mks
  pt : Int
  zv : Int
  tk : Int
  ct : Int
noncomputable def bufF (B : Buf) : List (Str × MV) := [(Str.ofString "number", .int 1), (Str.ofString "name", .str "a"), (Str.ofString "text", .ref B.g.t), (Str.ofString "markers", .ref B.K.ms), (Str.ofString "point", .int B.pt), (Str.ofString "begv", .int 1), (Str.ofString "zv", .int B.zv), (Str.ofString "mark", .none),
  (Str.ofString "is_live", .bool true), (Str.ofString "is_read_only", .bool false), (Str.ofString "ticks", .int B.tk), (Str.ofString "codes_ticks", .int B.ct), (Str.ofString "saved_ticks", .int 1), (Str.ofString "listeners", .ref B.ls), (Str.ofString "undo", .none), (Str.ofString "props", .none), (Str.ofString "overlays", .none),
  (Str.ofString "locals", .none), (Str.ofString "syntax", .none), (Str.ofString "file", .none)]
noncomputable def headL (B : Buf) : Led := [(B.b, .inst 661 B.bd), (B.bd, .flds (bufF B)), (B.ls, .lst [])]
noncomputable def markL (K : Mks) : Led := mhL K ++ mksL K.b K.l
noncomputable def bufL (B : Buf) : Led := headL B ++ (gapL B.g ++ markL B.K)
structure Buf.Ok (B : Buf) : Prop where
  g : B.g.Ok
  k : B.K.Ok
  b : B.K.b = B.b
  zv : B.zv = B.g.text.length + 1
theorem bufL_gap {B : Buf} : Less (bufL B) (gapL B.g ++ (headL B ++ markL B.K)) := Less.swap
theorem gap_bufL {B : Buf} {g : Gap} : Less (gapL g ++ (headL B ++ markL B.K)) (headL B ++ (gapL g ++ markL B.K)) := Less.swap
theorem d_begin {B : Buf} (ok : B.Ok) (prog : Program) (w : World) : Does prog w (KK w.params) (.ref 595) 1 [.ref B.b] (bufL B) (fun r M' => r = .int 1 ∧ M' = bufL B) := by
  refine does_fn 595 (cS 59 3) rfl (by kernel_rfl) (fun vs s' _ => bind1 rfl (fun v1 => by kernel_rfl) vs s') (by kernel_rfl) rfl fun c a => ?_
  refine st_cons ?_
  refine st_ret ?_
  refine r_attr rfl ?_
  refine r_loc a 0 (by kernel_rfl) rfl ?_
  refine t_get a 661 5 (by kernel_rfl) (by trivial) (by trivial) rfl rfl ?_
  exact ⟨_, .refl _, rfl, rfl⟩
theorem k_begin (a : At c sc d) {B : Buf} {X : Led} (hd : 1 ≤ d) (ok : B.Ok) (p : Less M (bufL B ++ X)) (h : k (.int 1) (bufL B ++ X)) : TC c (.ref 595) [.ref B.b] lm M k :=
  use a (fun p w => d_begin ok p w) hd p fun _ _ zz => by obtain ⟨e, e'⟩ := zz; subst e e'; exact h
theorem d_end {B : Buf} (ok : B.Ok) (prog : Program) (w : World) : Does prog w (KK w.params) (.ref 602) 1 [.ref B.b] (bufL B) (fun r M' => r = .int B.zv ∧ M' = bufL B) := by
  refine does_fn 602 (cS 59 4) rfl (by kernel_rfl) (fun vs s' _ => bind1 rfl (fun v1 => by kernel_rfl) vs s') (by kernel_rfl) rfl fun c a => ?_
  refine st_cons ?_
  refine st_ret ?_
  refine r_attr rfl ?_
  refine r_loc a 0 (by kernel_rfl) rfl ?_
  refine t_get a 661 6 (by kernel_rfl) (by trivial) (by trivial) rfl rfl ?_
  exact ⟨_, .refl _, rfl, rfl⟩
theorem k_end (a : At c sc d) {B : Buf} {X : Led} (hd : 1 ≤ d) (ok : B.Ok) (p : Less M (bufL B ++ X)) (h : k (.int B.zv) (bufL B ++ X)) : TC c (.ref 602) [.ref B.b] lm M k :=
  use a (fun p w => d_end ok p w) hd p fun _ _ zz => by obtain ⟨e, e'⟩ := zz; subst e e'; exact h
theorem k_gap_size (a : At c sc d) {g : Gap} {X : Led} (hd : 1 ≤ d) (ok : g.Ok) (p : Less M (gapL g ++ X)) (h : k (.int g.text.length) (gapL g ++ X)) : TC c (.ref 344) [.ref g.t] lm M k :=
  use a (fun p w => d_gap_size ok p w) hd p fun _ _ zz => by obtain ⟨e, e'⟩ := zz; subst e e'; exact h
theorem k_gap_code (a : At c sc d) {g : Gap} {i : Nat} {x : Int} {X : Led} (hd : 1 ≤ d) (ok : g.Ok) (hx : g.text[i]? = some x) (p : Less M (gapL g ++ X)) (h : k (.int x) (gapL g ++ X)) : TC c (.ref 351) [.ref g.t, .int i] lm M k :=
  use a (fun p w => d_gap_code ok hx p w) hd p fun _ _ zz => by obtain ⟨e, e'⟩ := zz; subst e e'; exact h
theorem d_bsize {B : Buf} (ok : B.Ok) (prog : Program) (w : World) : Does prog w (KK w.params) (.ref 609) 2 [.ref B.b] (bufL B) (fun r M' => r = .int B.g.text.length ∧ M' = bufL B) := by
  refine does_fn 609 (cS 59 5) rfl (by kernel_rfl) (fun vs s' _ => bind1 rfl (fun v1 => by kernel_rfl) vs s') (by kernel_rfl) rfl fun c a => ?_
  refine st_cons ?_
  refine st_ret ?_
  refine c_meth a 410 344 rfl rfl (by kernel_rfl) ?_
  refine r_attr rfl ?_
  refine r_loc a 0 (by kernel_rfl) rfl ?_
  refine t_get a 661 2 (by kernel_rfl) (by trivial) (by trivial) rfl rfl ?_
  refine ⟨_, _, _, rfl, by trivial, by trivial, by kernel_rfl, ?_⟩
  refine a_nil ?_
  refine k_gap_size a (Nat.le_of_ble_eq_true rfl) ok.g bufL_gap ?_
  exact ⟨_, gap_bufL, rfl, rfl⟩
theorem k_bsize (a : At c sc d) {B : Buf} {X : Led} (hd : 2 ≤ d) (ok : B.Ok) (p : Less M (bufL B ++ X)) (h : k (.int B.g.text.length) (bufL B ++ X)) : TC c (.ref 609) [.ref B.b] lm M k :=
  use a (fun p w => d_bsize ok p w) hd p fun _ _ zz => by obtain ⟨e, e'⟩ := zz; subst e e'; exact h
/-- the sign behind a position -/
noncomputable def codeAt (t : List Int) (p : Int) : Int := if p < 1 then -1 else (t[(p - 1).toNat]?).getD (-1)
theorem d_code_at {B : Buf} {p : Int} (ok : B.Ok) (prog : Program) (w : World) : Does prog w (KK w.params) (.ref 616) 2 [.ref B.b, .int p] (bufL B) (fun r M' => r = .int (codeAt B.g.text p) ∧ M' = bufL B) := by
  refine does_fn 616 (cS 59 6) rfl (by kernel_rfl) (fun vs s' _ => bind2 rfl (fun v1 v2 => by kernel_rfl) vs s') (by kernel_rfl) rfl fun c a => ?_
  refine st_cons ?_
  refine st_if ?_
  refine tb_bool ?_
  refine all_or_cons ?_
  refine tb_compare1 rfl ?_
  refine r_loc a 1 (by kernel_rfl) rfl ?_
  refine r_attr rfl ?_
  refine r_loc a 0 (by kernel_rfl) rfl ?_
  refine t_get a 661 5 (by kernel_rfl) (by trivial) (by trivial) rfl rfl ?_
  refine cmp_lt ?_
  refine ⟨_, rfl, fun hb => ?_, fun hb => ?_⟩
  · replace hb := of_decide_eq_true hb
    refine ⟨fun _ => ?_, nofun⟩
    refine st_cons ?_
    refine st_ret ?_
    refine ev_unary ?_
    refine ev_int ?_
    refine un_neg ?_
    exact ⟨_, .refl _, by unfold codeAt; rw [if_pos hb], rfl⟩
  · replace hb := of_decide_eq_false hb
    refine all_or_cons ?_
    refine tb_compare1 rfl ?_
    refine r_loc a 1 (by kernel_rfl) rfl ?_
    refine r_attr rfl ?_
    refine r_loc a 0 (by kernel_rfl) rfl ?_
    refine t_get a 661 6 (by kernel_rfl) (by trivial) (by trivial) rfl rfl ?_
    refine cmp_ge ?_
    refine ⟨_, rfl, fun hb => ?_, fun hb => ?_⟩
    · replace hb := of_decide_eq_true hb
      refine ⟨fun _ => ?_, nofun⟩
      refine st_cons ?_
      refine st_ret ?_
      refine ev_unary ?_
      refine ev_int ?_
      refine un_neg ?_
      refine ⟨_, .refl _, ?_, rfl⟩
      unfold codeAt
      rw [if_neg (by assumption), List.getElem?_eq_none (by have := ok.zv; lia)]
      rfl
    · replace hb := of_decide_eq_false hb
      refine all_or_nil ?_
      refine ⟨nofun, fun _ => ?_⟩
      refine st_nil ?_
      refine st_cons ?_
      refine st_ret ?_
      refine c_meth a 410 351 rfl rfl (by kernel_rfl) ?_
      refine r_attr rfl ?_
      refine r_loc a 0 (by kernel_rfl) rfl ?_
      refine t_get a 661 2 (by kernel_rfl) (by trivial) (by trivial) rfl rfl ?_
      refine ⟨_, _, _, rfl, by trivial, by trivial, by kernel_rfl, ?_⟩
      refine a_cons rfl ?_
      refine ev_binop ?_
      refine r_loc a 1 (by kernel_rfl) rfl ?_
      refine ev_int ?_
      refine bin_sub ?_
      refine a_nil ?_
      have hz := ok.zv
      have hlt : (p - 1).toNat < B.g.text.length := by lia
      rw [show p - 1 = (((p - 1).toNat : Nat) : Int) by lia]
      refine k_gap_code a (Nat.le_of_ble_eq_true rfl) ok.g (List.getElem?_eq_getElem hlt) bufL_gap ?_
      refine ⟨_, gap_bufL, ?_, rfl⟩
      unfold codeAt
      rw [if_neg (by lia), List.getElem?_eq_getElem hlt]
      rfl
theorem k_code_at (a : At c sc d) {B : Buf} {p : Int} {X : Led} (hd : 2 ≤ d) (ok : B.Ok) (pl : Less M (bufL B ++ X)) (h : k (.int (codeAt B.g.text p)) (bufL B ++ X)) : TC c (.ref 616) [.ref B.b, .int p] lm M k :=
  use a (fun p w => d_code_at ok p w) hd pl fun _ _ zz => by obtain ⟨e, e'⟩ := zz; subst e e'; exact h
theorem d_bcodes {B : Buf} {i j : Nat} (ok : B.Ok) (hij : i ≤ j) (prog : Program) (w : World) : Does prog w (KK w.params) (.ref 623) 2 [.ref B.b, .int ((i : Int) + 1), .int ((j : Int) + 1)] (bufL B) (fun r M' => ∃ q, r = .ref q ∧ M' = (q, .lst (ilst (seg B.g.text i j))) :: bufL B) := by
  refine does_fn 623 (cS 59 7) rfl (by kernel_rfl) (fun vs s' _ => bind3 rfl (fun v1 v2 v3 => by kernel_rfl) vs s') (by kernel_rfl) rfl fun c a => ?_
  refine st_cons ?_
  refine st_ret ?_
  refine c_meth a 410 358 rfl rfl (by kernel_rfl) ?_
  refine r_attr rfl ?_
  refine r_loc a 0 (by kernel_rfl) rfl ?_
  refine t_get a 661 2 (by kernel_rfl) (by trivial) (by trivial) rfl rfl ?_
  refine ⟨_, _, _, rfl, by trivial, by trivial, by kernel_rfl, ?_⟩
  refine a_cons rfl ?_
  refine ev_binop ?_
  refine r_loc a 1 (by kernel_rfl) rfl ?_
  refine ev_int ?_
  refine bin_sub ?_
  refine a_cons rfl ?_
  refine ev_binop ?_
  refine r_loc a 2 (by kernel_rfl) rfl ?_
  refine ev_int ?_
  refine bin_sub ?_
  refine a_nil ?_
  rw [Int.add_sub_cancel, Int.add_sub_cancel]
  refine k_gap_codes a (Nat.le_of_ble_eq_true rfl) ok.g hij bufL_gap fun q => ?_
  exact ⟨_, .cons gap_bufL, q, rfl, rfl⟩
theorem k_bcodes (a : At c sc d) {B : Buf} {i j : Nat} {X : Led} (hd : 2 ≤ d) (ok : B.Ok) (hij : i ≤ j) (p : Less M (bufL B ++ X)) (h : ∀ q, k (.ref q) ((q, .lst (ilst (seg B.g.text i j))) :: bufL B ++ X)) : TC c (.ref 623) [.ref B.b, .int ((i : Int) + 1), .int ((j : Int) + 1)] lm M k :=
  use a (fun p w => d_bcodes ok hij p w) hd p fun _ _ zz => by obtain ⟨q, e, e'⟩ := zz; subst e e'; exact h q
theorem d_touch {B : Buf} (ok : B.Ok) (prog : Program) (w : World) : Does prog w (KK w.params) (.ref 658) 1 [.ref B.b, .bool true] (bufL B) (fun r M' => r = .none ∧ M' = bufL { B with tk := B.tk + 1, ct := B.tk + 1 }) := by
  refine does_fn 658 (cS 59 12) rfl (by kernel_rfl) (fun vs s' _ => bind2 rfl (fun v1 v2 => by kernel_rfl) vs s') (by kernel_rfl) rfl fun c a => ?_
  refine st_cons ?_
  refine st_assign rfl rfl rfl ?_
  refine ev_binop ?_
  refine r_attr rfl ?_
  refine r_loc a 0 (by kernel_rfl) rfl ?_
  refine t_get a 661 10 (by kernel_rfl) (by trivial) (by trivial) rfl rfl ?_
  refine ev_int ?_
  refine bin_add ?_
  refine ta_attr ?_
  refine r_loc a 0 (by kernel_rfl) rfl ?_
  refine s_field a 661 10 (by kernel_rfl) (by trivial) (by decreasing_tactic) (by kernel_rfl) ?_
  refine st_cons ?_
  refine st_if ?_
  refine tb_value (fun _ => rfl) ?_
  refine r_loc a 1 (by kernel_rfl) rfl ?_
  refine ⟨_, rfl, fun hb => ?_, fun hb => ?_⟩
  · refine st_cons ?_
    refine st_assign rfl rfl rfl ?_
    refine r_attr rfl ?_
    refine r_loc a 0 (by kernel_rfl) rfl ?_
    refine t_get a 661 10 (by kernel_rfl) (by trivial) (by trivial) rfl rfl ?_
    refine ta_attr ?_
    refine r_loc a 0 (by kernel_rfl) rfl ?_
    refine s_field a 661 11 (by kernel_rfl) (by trivial) (by decreasing_tactic) (by kernel_rfl) ?_
    refine st_nil ?_
    refine st_nil ?_
    exact ⟨_, .refl _, rfl, rfl⟩
  · cases hb
theorem k_touch (a : At c sc d) {B : Buf} {X : Led} (hd : 1 ≤ d) (ok : B.Ok) (p : Less M (bufL B ++ X)) (h : k .none (bufL { B with tk := B.tk + 1, ct := B.tk + 1 } ++ X)) : TC c (.ref 658) [.ref B.b, .bool true] lm M k :=
  use a (fun p w => d_touch ok p w) hd p fun _ _ zz => by obtain ⟨e, e'⟩ := zz; subst e e'; exact h
end
end Mine
end

section
open PySem PySem.W PySem.Calls PyProof.Rows
set_option Elab.async false
set_option maxRecDepth 100000
set_option linter.unusedVariables false
namespace Mine
section
variable {c : Cx} {sc : Scope} {d : Nat} {lm : Loc} {M : Led} {k : MV → Led → Prop}
theorem swap_of (a : At c sc d) {ts : List PySem.Expr} {value : PySem.Expr} {r : Option (List Str)} (h : ∀ e : Env, swappedStores ts value { e with scope := sc } = pure r) : swappedStores ts value c.env = pure r := by
  have e : c.env = { c.env with scope := sc } := by rw [← a.s]
  rw [e]; exact h _
theorem s_swap {ku : Loc → Led → Prop} (a : At c sc d) (i : Nat) {n : Str} {ns : List Str} {v : MV} {vs : List MV} (hx : okS sc lm i n = true) (h : TBs c ns vs (putAt i (n, v) lm) M ku) : TBs c (n :: ns) (v :: vs) lm M ku := by
  have hx' := hx
  simp only [okS, Bool.and_eq_true, beq_iff_eq] at hx
  refine tbs_cons a.ok (by rw [a.s]; exact hx.1) ?_
  rw [set_put hx.2]; exact h
theorem d_need_writable {B : Buf} (ok : B.Ok) (prog : Program) (w : World) : Does prog w (KK w.params) (.ref 48) 1 [.ref B.b] (bufL B) (fun r M' => r = .none ∧ M' = bufL B) := by
  refine does_fn 48 (fS 5) rfl (by kernel_rfl) (fun vs s' _ => bind1 rfl (fun v1 => by kernel_rfl) vs s') (by kernel_rfl) rfl fun c a => ?_
  refine st_cons ?_
  refine st_if ?_
  refine tb_value (fun _ => rfl) ?_
  refine r_attr rfl ?_
  refine r_loc a 0 (by kernel_rfl) rfl ?_
  refine t_get a 661 9 (by kernel_rfl) (by trivial) (by trivial) rfl rfl ?_
  refine ⟨_, rfl, nofun, fun _ => ?_⟩
  refine st_nil ?_
  refine st_nil ?_
  exact ⟨_, .refl _, rfl, rfl⟩
theorem k_need_writable (a : At c sc d) {B : Buf} {X : Led} (hd : 1 ≤ d) (ok : B.Ok) (p : Less M (bufL B ++ X)) (h : k .none (bufL B ++ X)) : TC c (.ref 48) [.ref B.b] lm M k :=
  use a (fun p w => d_need_writable ok p w) hd p fun _ _ zz => by obtain ⟨e, e'⟩ := zz; subst e e'; exact h 
theorem d_need_room {B : Buf} {n : Int} (ok : B.Ok) (hn : B.g.text.length + n ≤ 4194304) (prog : Program) (w : World) : Does prog w (KK w.params) (.ref 55) 3 [.ref B.b, .int n] (bufL B) (fun r M' => r = .none ∧ M' = bufL B) := by
  refine does_fn 55 (fS 6) rfl (by kernel_rfl) (fun vs s' _ => bind2 rfl (fun v1 v2 => by kernel_rfl) vs s') (by kernel_rfl) rfl fun c a => ?_
  refine st_cons ?_
  refine st_if ?_
  refine tb_compare1 rfl ?_
  refine ev_binop ?_
  refine c_meth a 661 609 rfl rfl (by kernel_rfl) ?_
  refine r_loc a 0 (by kernel_rfl) rfl ?_
  refine ⟨_, _, _, rfl, by trivial, by trivial, by kernel_rfl, ?_⟩
  refine a_nil ?_
  refine k_bsize a (Nat.le_of_ble_eq_true rfl) (X := []) ok (by rw [List.append_nil]; exact .refl _) ?_
  refine r_loc a 1 (by kernel_rfl) rfl ?_
  refine bin_add ?_
  refine r_gint a 4194304 231 (by kernel_rfl) ?_
  refine cmp_gt ?_
  refine ⟨_, rfl, fun hb => absurd (of_decide_eq_true hb) (by lia), fun _ => ?_⟩
  refine st_nil ?_
  refine st_nil ?_
  exact ⟨_, .refl _, rfl, by rw [List.append_nil]⟩
theorem k_need_room (a : At c sc d) {B : Buf} {n : Int} {X : Led} (hd : 3 ≤ d) (ok : B.Ok) (hn : B.g.text.length + n ≤ 4194304) (p : Less M (bufL B ++ X)) (h : k .none (bufL B ++ X)) : TC c (.ref 55) [.ref B.b, .int n] lm M k :=
  use a (fun p w => d_need_room ok hn p w) hd p fun _ _ zz => by obtain ⟨e, e'⟩ := zz; subst e e'; exact h 
theorem d_reached {B : Buf} {i j : Int} (ok : B.Ok) (h1 : 1 ≤ min i j) (h2 : max i j ≤ B.zv) (prog : Program) (w : World) : Does prog w (KK w.params) (.ref 62) 1 [.ref B.b, .int i, .int j] (bufL B) (fun r M' => ∃ t, r = .ref t ∧ M' = (t, .tup [.int (min i j), .int (max i j)]) :: bufL B) := by
  refine does_fn 62 (fS 7) rfl (by kernel_rfl) (fun vs s' _ => bind3 rfl (fun v1 v2 v3 => by kernel_rfl) vs s') (by kernel_rfl) rfl fun c a => ?_
  refine st_cons ?_
  refine st_assign_swap a.ok rfl (swap_of a (r := some [Str.ofString "low", Str.ofString "high"]) fun e => by kernel_rfl) ?_
  refine e_tuple ?_
  refine a_cons rfl ?_
  refine c_blt a "min" (by kernel_rfl) rfl ?_
  refine a_cons rfl ?_
  refine r_loc a 1 (by kernel_rfl) rfl ?_
  refine a_cons rfl ?_
  refine r_loc a 2 (by kernel_rfl) rfl ?_
  refine a_nil ?_
  refine tc_min2 a.ok ?_
  refine a_cons rfl ?_
  refine c_blt a "max" (by kernel_rfl) rfl ?_
  refine a_cons rfl ?_
  refine r_loc a 1 (by kernel_rfl) rfl ?_
  refine a_cons rfl ?_
  refine r_loc a 2 (by kernel_rfl) rfl ?_
  refine a_nil ?_
  refine tc_max2 a.ok ?_
  refine a_nil ?_
  refine ⟨by simp, fun q1 => ?_⟩
  refine ⟨_, _, rfl, by trivial, rfl, ?_⟩
  refine s_swap a 3 (by kernel_rfl) ?_
  refine s_swap a 4 (by kernel_rfl) ?_
  refine tbs_nil ?_
  refine st_cons ?_
  refine st_if ?_
  refine tb_bool ?_
  refine all_or_cons ?_
  refine tb_compare1 rfl ?_
  refine r_loc a 4 (by kernel_rfl) rfl ?_
  refine r_attr rfl ?_
  refine r_loc a 0 (by kernel_rfl) rfl ?_
  refine t_get a 661 5 (by kernel_rfl) (by trivial) (by trivial) rfl rfl ?_
  refine cmp_lt ?_
  refine ⟨_, rfl, fun hb => absurd (of_decide_eq_true hb) (by lia), fun _ => ?_⟩
  refine all_or_cons ?_
  refine tb_compare1 rfl ?_
  refine r_loc a 3 (by kernel_rfl) rfl ?_
  refine r_attr rfl ?_
  refine r_loc a 0 (by kernel_rfl) rfl ?_
  refine t_get a 661 6 (by kernel_rfl) (by trivial) (by trivial) rfl rfl ?_
  refine cmp_gt ?_
  refine ⟨_, rfl, fun hb => absurd (of_decide_eq_true hb) (by lia), fun _ => ?_⟩
  refine all_or_nil ?_
  refine ⟨nofun, fun _ => ?_⟩
  refine st_nil ?_
  refine st_cons ?_
  refine st_ret ?_
  refine e_tuple ?_
  refine a_cons rfl ?_
  refine r_loc a 4 (by kernel_rfl) rfl ?_
  refine a_cons rfl ?_
  refine r_loc a 3 (by kernel_rfl) rfl ?_
  refine a_nil ?_
  refine ⟨by simp, fun t => ?_⟩
  exact ⟨_, .cons (.skip (.refl _)), t, rfl, rfl⟩
theorem k_reached (a : At c sc d) {B : Buf} {i j : Int} {X : Led} (hd : 1 ≤ d) (ok : B.Ok) (h1 : 1 ≤ min i j) (h2 : max i j ≤ B.zv) (p : Less M (bufL B ++ X)) (h : ∀ t, k (.ref t) ((t, .tup [.int (min i j), .int (max i j)]) :: bufL B ++ X)) : TC c (.ref 62) [.ref B.b, .int i, .int j] lm M k :=
  use a (fun p w => d_reached ok h1 h2 p w) hd p fun _ _ zz => by obtain ⟨t, e, e'⟩ := zz; subst e e'; exact h t
theorem d_tell_ahead {B : Buf} {i j : Int} (ok : B.Ok) (prog : Program) (w : World) : Does prog w (KK w.params) (.ref 69) 1 [.ref B.b, .int i, .int j] (bufL B) (fun r M' => r = .none ∧ M' = bufL B) := by
  refine does_fn 69 (fS 8) rfl (by kernel_rfl) (fun vs s' _ => bind3 rfl (fun v1 v2 v3 => by kernel_rfl) vs s') (by kernel_rfl) rfl fun c a => ?_
  refine st_cons ?_
  refine st_for (fun _ => rfl) ?_
  refine ti_list a.ok ?_
  refine c_typ a "list" (by kernel_rfl) rfl ?_
  refine a_cons rfl ?_
  refine r_attr rfl ?_
  refine r_loc a 0 (by kernel_rfl) rfl ?_
  refine t_get a 661 13 (by kernel_rfl) (by trivial) (by trivial) rfl rfl ?_
  refine a_nil ?_
  refine tc_list (xs := []) (.tail _ (.tail _ (.head _))) fun q1 => ?_
  refine ⟨_, _, (bufL B), rfl, .refl _, ?_⟩
  refine ⟨fun _ _ M => M = (bufL B), ⟨_, _, .refl _, .refl _, rfl⟩, fun i iv lm M hi hJ => by simp at hi, fun lm M hJ => ?_⟩
  subst hJ
  refine st_nil ?_
  exact ⟨_, .skip (.refl _), rfl, rfl⟩
theorem k_tell_ahead (a : At c sc d) {B : Buf} {i j : Int} {X : Led} (hd : 1 ≤ d) (ok : B.Ok) (p : Less M (bufL B ++ X)) (h : k .none (bufL B ++ X)) : TC c (.ref 69) [.ref B.b, .int i, .int j] lm M k :=
  use a (fun p w => d_tell_ahead ok p w) hd p fun _ _ zz => by obtain ⟨e, e'⟩ := zz; subst e e'; exact h 
theorem d_tell_behind {B : Buf} {i j n : Int} (ok : B.Ok) (prog : Program) (w : World) : Does prog w (KK w.params) (.ref 76) 2 [.ref B.b, .int i, .int j, .int n] (bufL B) (fun r M' => r = .none ∧ M' = bufL { B with tk := B.tk + 1, ct := B.tk + 1 }) := by
  refine does_fn 76 (fS 9) rfl (by kernel_rfl) (fun vs s' _ => bind4 rfl (fun v1 v2 v3 v4 => by kernel_rfl) vs s') (by kernel_rfl) rfl fun c a => ?_
  refine st_cons ?_
  refine st_expr a.ok rfl ?_
  refine c_meth a 661 658 rfl rfl (by kernel_rfl) ?_
  refine r_loc a 0 (by kernel_rfl) rfl ?_
  refine ⟨_, _, _, rfl, by trivial, by trivial, by kernel_rfl, ?_⟩
  refine a_cons rfl ?_
  refine ev_bool ?_
  refine a_nil ?_
  refine k_touch a (Nat.le_of_ble_eq_true rfl) (X := []) ok (by rw [List.append_nil]; exact .refl _) ?_
  rw [List.append_nil]
  refine st_cons ?_
  refine st_for (fun _ => rfl) ?_
  refine ti_list a.ok ?_
  refine c_typ a "list" (by kernel_rfl) rfl ?_
  refine a_cons rfl ?_
  refine r_attr rfl ?_
  refine r_loc a 0 (by kernel_rfl) rfl ?_
  refine t_get a 661 13 (by kernel_rfl) (by trivial) (by trivial) rfl rfl ?_
  refine a_nil ?_
  refine tc_list (xs := []) (.tail _ (.tail _ (.head _))) fun q1 => ?_
  refine ⟨_, _, (bufL { B with tk := B.tk + 1, ct := B.tk + 1 }), rfl, .refl _, ?_⟩
  refine ⟨fun _ _ M => M = (bufL { B with tk := B.tk + 1, ct := B.tk + 1 }), ⟨_, _, .refl _, .refl _, rfl⟩, fun i iv lm M hi hJ => by simp at hi, fun lm M hJ => ?_⟩
  subst hJ
  refine st_nil ?_
  exact ⟨_, .skip (.refl _), rfl, rfl⟩
theorem k_tell_behind (a : At c sc d) {B : Buf} {i j n : Int} {X : Led} (hd : 2 ≤ d) (ok : B.Ok) (p : Less M (bufL B ++ X)) (h : k .none (bufL { B with tk := B.tk + 1, ct := B.tk + 1 } ++ X)) : TC c (.ref 76) [.ref B.b, .int i, .int j, .int n] lm M k :=
  use a (fun p w => d_tell_behind ok p w) hd p fun _ _ zz => by obtain ⟨e, e'⟩ := zz; subst e e'; exact h 
end
end Mine
end

section
open PySem PySem.W PySem.Calls PyProof.Rows
set_option Elab.async false
set_option maxRecDepth 100000
set_option linter.unusedVariables false
namespace Mine
section
variable {c : Cx} {sc : Scope} {d : Nat} {lm : Loc} {M : Led} {k : MV → Led → Prop}
/-- the buffer with another text, its end and its point moved -/
noncomputable def Buf.out (B : Buf) (g : Gap) (i j : Nat) : Buf := { B with g := g, zv := B.zv - ((j : Int) - i), pt := if (i : Int) + 1 < B.pt then max ((i : Int) + 1) (B.pt - ((j : Int) - i)) else B.pt }
theorem d_text_out {B : Buf} {i j : Nat} (ok : B.Ok) (hij : i ≤ j) (hj : j ≤ B.g.text.length) (prog : Program) (w : World) : Does prog w (KK w.params) (.ref 83) 3 [.ref B.b, .int ((i : Int) + 1), .int ((j : Int) + 1)] (bufL B) (fun r M' => ∃ q g', r = .ref q ∧ M' = (q, .lst (ilst (seg B.g.text i j))) :: bufL (B.out g' i j) ∧ B.g.To g' (B.g.text.take i ++ B.g.text.drop j) B.g.cells.length) := by
  refine does_fn 83 (fS 10) rfl (by kernel_rfl) (fun vs s' _ => bind3 rfl (fun v1 v2 v3 => by kernel_rfl) vs s') (by kernel_rfl) rfl fun c a => ?_
  refine st_cons ?_
  refine st_if ?_
  refine tb_compare1 rfl ?_
  refine r_attr rfl ?_
  refine r_loc a 0 (by kernel_rfl) rfl ?_
  refine t_get a 661 14 (by kernel_rfl) (by trivial) (by trivial) rfl rfl ?_
  refine ev_none ?_
  refine cmp_isnot_none ?_
  refine ⟨_, rfl, nofun, fun _ => ?_⟩
  refine st_nil ?_
  refine st_cons ?_
  refine st_assign rfl rfl rfl ?_
  refine c_meth a 410 386 rfl rfl (by kernel_rfl) ?_
  refine r_attr rfl ?_
  refine r_loc a 0 (by kernel_rfl) rfl ?_
  refine t_get a 661 2 (by kernel_rfl) (by trivial) (by trivial) rfl rfl ?_
  refine ⟨_, _, _, rfl, bufL_gap.mem (.head _), bufL_gap.mem (.tail _ (.head _)), by kernel_rfl, ?_⟩
  refine a_cons rfl ?_
  refine ev_binop ?_
  refine r_loc a 1 (by kernel_rfl) rfl ?_
  refine ev_int ?_
  refine bin_sub ?_
  refine a_cons rfl ?_
  refine ev_binop ?_
  refine r_loc a 2 (by kernel_rfl) rfl ?_
  refine ev_int ?_
  refine bin_sub ?_
  refine a_nil ?_
  rw [Int.add_sub_cancel, Int.add_sub_cancel]
  refine k_gap_delete a (Nat.le_of_ble_eq_true rfl) ok.g hij hj bufL_gap fun q g' hg => ?_
  refine s_loc a 3 (by kernel_rfl) ?_
  refine Tf.less (M₀ := (q, .lst (ilst (seg B.g.text i j))) :: (headL B ++ (gapL g' ++ markL B.K))) (.cons gap_bufL) ?_
  refine st_cons ?_
  refine st_assign rfl rfl rfl ?_
  refine ev_binop ?_
  refine r_attr rfl ?_
  refine r_loc a 0 (by kernel_rfl) rfl ?_
  refine t_get a 661 6 (by kernel_rfl) (by trivial) (by trivial) rfl rfl ?_
  refine ev_binop ?_
  refine r_loc a 2 (by kernel_rfl) rfl ?_
  refine r_loc a 1 (by kernel_rfl) rfl ?_
  refine bin_sub ?_
  refine bin_sub ?_
  refine ta_attr ?_
  refine r_loc a 0 (by kernel_rfl) rfl ?_
  refine s_field a 661 6 (by kernel_rfl) (by trivial) (by decreasing_tactic) (by kernel_rfl) ?_
  refine st_cons ?_
  refine st_if ?_
  refine tb_compare1 rfl ?_
  refine r_attr rfl ?_
  refine r_loc a 0 (by kernel_rfl) rfl ?_
  refine t_get a 661 4 (by kernel_rfl) (by trivial) (by trivial) rfl rfl ?_
  refine r_loc a 1 (by kernel_rfl) rfl ?_
  refine cmp_gt ?_
  have e1 : ((j : Int) + 1 - ((i : Int) + 1)) = (j : Int) - i := by lia
  refine ⟨_, rfl, fun hb => ?_, fun hb => ?_⟩
  · replace hb := of_decide_eq_true hb
    refine st_cons ?_
    refine st_assign rfl rfl rfl ?_
    refine c_blt a "max" (by kernel_rfl) rfl ?_
    refine a_cons rfl ?_
    refine r_loc a 1 (by kernel_rfl) rfl ?_
    refine a_cons rfl ?_
    refine ev_binop ?_
    refine r_attr rfl ?_
    refine r_loc a 0 (by kernel_rfl) rfl ?_
    refine t_get a 661 4 (by kernel_rfl) (by trivial) (by trivial) rfl rfl ?_
    refine ev_binop ?_
    refine r_loc a 2 (by kernel_rfl) rfl ?_
    refine r_loc a 1 (by kernel_rfl) rfl ?_
    refine bin_sub ?_
    refine bin_sub ?_
    refine a_nil ?_
    refine tc_max2 a.ok ?_
    refine ta_attr ?_
    refine r_loc a 0 (by kernel_rfl) rfl ?_
    refine s_field a 661 4 (by kernel_rfl) (by trivial) (by decreasing_tactic) (by kernel_rfl) ?_
    refine st_nil ?_
    refine st_cons ?_
    refine st_ret ?_
    refine r_loc a 3 (by kernel_rfl) rfl ?_
    rw [e1]
    refine ⟨_, .refl _, q, g', rfl, ?_, hg⟩
    unfold Buf.out
    rw [if_pos hb]
    unfold bufL headL bufF
    dsimp only
    rw [hg.t]
    rfl
  · replace hb := of_decide_eq_false hb
    refine st_nil ?_
    refine st_cons ?_
    refine st_ret ?_
    refine r_loc a 3 (by kernel_rfl) rfl ?_
    rw [e1]
    refine ⟨_, .refl _, q, g', rfl, ?_, hg⟩
    unfold Buf.out
    rw [if_neg hb]
    unfold bufL headL bufF
    dsimp only
    rw [hg.t]
    rfl
theorem d_hung_out {B : Buf} {i j : Int} (ok : B.Ok) (prog : Program) (w : World) : Does prog w (KK w.params) (.ref 97) 1 [.ref B.b, .int i, .int j] (bufL B) (fun r M' => r = .none ∧ M' = bufL B) := by
  refine does_fn 97 (fS 12) rfl (by kernel_rfl) (fun vs s' _ => bind3 rfl (fun v1 v2 v3 => by kernel_rfl) vs s') (by kernel_rfl) rfl fun c a => ?_
  refine st_cons ?_
  refine st_if ?_
  refine tb_compare1 rfl ?_
  refine r_attr rfl ?_
  refine r_loc a 0 (by kernel_rfl) rfl ?_
  refine t_get a 661 15 (by kernel_rfl) (by trivial) (by trivial) rfl rfl ?_
  refine ev_none ?_
  refine cmp_isnot_none ?_
  refine ⟨_, rfl, nofun, fun _ => ?_⟩
  refine st_nil ?_
  refine st_cons ?_
  refine st_if ?_
  refine tb_compare1 rfl ?_
  refine r_attr rfl ?_
  refine r_loc a 0 (by kernel_rfl) rfl ?_
  refine t_get a 661 16 (by kernel_rfl) (by trivial) (by trivial) rfl rfl ?_
  refine ev_none ?_
  refine cmp_isnot_none ?_
  refine ⟨_, rfl, nofun, fun _ => ?_⟩
  refine st_nil ?_
  refine st_nil ?_
  exact ⟨_, .refl _, rfl, rfl⟩
theorem d_hung_in {B : Buf} {i j : Int} {x : Bool} (ok : B.Ok) (prog : Program) (w : World) : Does prog w (KK w.params) (.ref 104) 1 [.ref B.b, .int i, .int j, .bool x] (bufL B) (fun r M' => r = .none ∧ M' = bufL B) := by
  refine does_fn 104 (fS 13) rfl (by kernel_rfl) (fun vs s' _ => bind4 rfl (fun v1 v2 v3 v4 => by kernel_rfl) vs s') (by kernel_rfl) rfl fun c a => ?_
  refine st_cons ?_
  refine st_if ?_
  refine tb_compare1 rfl ?_
  refine r_attr rfl ?_
  refine r_loc a 0 (by kernel_rfl) rfl ?_
  refine t_get a 661 15 (by kernel_rfl) (by trivial) (by trivial) rfl rfl ?_
  refine ev_none ?_
  refine cmp_isnot_none ?_
  refine ⟨_, rfl, nofun, fun _ => ?_⟩
  refine st_nil ?_
  refine st_cons ?_
  refine st_if ?_
  refine tb_compare1 rfl ?_
  refine r_attr rfl ?_
  refine r_loc a 0 (by kernel_rfl) rfl ?_
  refine t_get a 661 16 (by kernel_rfl) (by trivial) (by trivial) rfl rfl ?_
  refine ev_none ?_
  refine cmp_isnot_none ?_
  refine ⟨_, rfl, nofun, fun _ => ?_⟩
  refine st_nil ?_
  refine st_nil ?_
  exact ⟨_, .refl _, rfl, rfl⟩
end
end Mine
end

section
open PySem PySem.W PySem.Calls PyProof.Rows
set_option Elab.async false
set_option maxRecDepth 100000
set_option linter.unusedVariables false
namespace Mine
section
variable {c : Cx} {sc : Scope} {d : Nat} {lm : Loc} {M : Led} {k : MV → Led → Prop}
theorem k_text_out (a : At c sc d) {B : Buf} {i j : Nat} {X : Led} (hd : 3 ≤ d) (ok : B.Ok) (hij : i ≤ j) (hj : j ≤ B.g.text.length) (p : Less M (bufL B ++ X)) (h : ∀ q g', B.g.To g' (B.g.text.take i ++ B.g.text.drop j) B.g.cells.length → k (.ref q) ((q, .lst (ilst (seg B.g.text i j))) :: bufL (B.out g' i j) ++ X)) : TC c (.ref 83) [.ref B.b, .int ((i : Int) + 1), .int ((j : Int) + 1)] lm M k :=
  use a (fun p w => d_text_out ok hij hj p w) hd p fun _ _ zz => by obtain ⟨q, g', e, e', hx⟩ := zz; subst e e'; exact h q g' hx
theorem k_hung_out (a : At c sc d) {B : Buf} {i j : Int} {X : Led} (hd : 1 ≤ d) (ok : B.Ok) (p : Less M (bufL B ++ X)) (h : k .none (bufL B ++ X)) : TC c (.ref 97) [.ref B.b, .int i, .int j] lm M k :=
  use a (fun p w => d_hung_out ok p w) hd p fun _ _ zz => by obtain ⟨e, e'⟩ := zz; subst e e'; exact h
theorem k_hung_in (a : At c sc d) {B : Buf} {i j : Int} {x : Bool} {X : Led} (hd : 1 ≤ d) (ok : B.Ok) (p : Less M (bufL B ++ X)) (h : k .none (bufL B ++ X)) : TC c (.ref 104) [.ref B.b, .int i, .int j, .bool x] lm M k :=
  use a (fun p w => d_hung_in ok p w) hd p fun _ _ zz => by obtain ⟨e, e'⟩ := zz; subst e e'; exact h
noncomputable def Buf.inn (B : Buf) (g : Gap) (i n : Nat) : Buf := { B with g := g, zv := B.zv + n, pt := if (i : Int) + 1 < B.pt then B.pt + n else B.pt }
theorem in_less {B : Buf} {x : Addr × MO} : Less (x :: bufL B) (gapL B.g ++ [x] ++ (headL B ++ markL B.K)) := by
  refine .trans (.cons bufL_gap) (.perm ?_)
  rw [List.append_assoc]
  exact List.perm_middle.symm
theorem less_in {B : Buf} {g : Gap} {x : Addr × MO} : Less (gapL g ++ [x] ++ (headL B ++ markL B.K)) (x :: (headL B ++ (gapL g ++ markL B.K))) := by
  refine .trans (.perm ?_) (.cons gap_bufL)
  rw [List.append_assoc]
  exact List.perm_middle
theorem d_text_in {B : Buf} {i : Nat} {q : Addr} {cs : List Int} (ok : B.Ok) (hi : i ≤ B.g.text.length) (hn : cs.length ≤ 200) (hz : B.g.cells.length + cs.length + 8 ≤ 5000) (prog : Program) (w : World) : Does prog w (KK w.params) (.ref 90) 3 [.ref B.b, .int ((i : Int) + 1), .ref q] ((q, .lst (ilst cs)) :: bufL B) (fun r M' => ∃ g', r = .none ∧ M' = (q, .lst (ilst cs)) :: bufL (B.inn g' i cs.length) ∧ B.g.To g' (B.g.text.take i ++ cs ++ B.g.text.drop i) (B.g.cells.length + cs.length + 8)) := by
  refine does_fn 90 (fS 11) rfl (by kernel_rfl) (fun vs s' _ => bind3 rfl (fun v1 v2 v3 => by kernel_rfl) vs s') (by kernel_rfl) rfl fun c a => ?_
  refine st_cons ?_
  refine st_if ?_
  refine tb_compare1 rfl ?_
  refine r_attr rfl ?_
  refine r_loc a 0 (by kernel_rfl) rfl ?_
  refine t_get a 661 14 (by kernel_rfl) (by trivial) (by trivial) rfl rfl ?_
  refine ev_none ?_
  refine cmp_isnot_none ?_
  refine ⟨_, rfl, nofun, fun _ => ?_⟩
  refine st_nil ?_
  refine st_cons ?_
  refine st_expr a.ok rfl ?_
  refine c_meth a 410 379 rfl rfl (by kernel_rfl) ?_
  refine r_attr rfl ?_
  refine r_loc a 0 (by kernel_rfl) rfl ?_
  refine t_get a 661 2 (by kernel_rfl) (by trivial) (by trivial) rfl rfl ?_
  refine ⟨_, _, _, rfl, .tail _ (bufL_gap.mem (.head _)), .tail _ (bufL_gap.mem (.tail _ (.head _))), by kernel_rfl, ?_⟩
  refine a_cons rfl ?_
  refine ev_binop ?_
  refine r_loc a 1 (by kernel_rfl) rfl ?_
  refine ev_int ?_
  refine bin_sub ?_
  refine a_cons rfl ?_
  refine r_loc a 2 (by kernel_rfl) rfl ?_
  refine a_nil ?_
  rw [Int.add_sub_cancel]
  refine k_gap_insert a (Nat.le_of_ble_eq_true rfl) ok.g hi hn hz in_less fun g' hg => ?_
  refine Tf.less (M₀ := (q, .lst (ilst cs)) :: (headL B ++ (gapL g' ++ markL B.K))) less_in ?_
  refine st_cons ?_
  refine st_assign rfl rfl rfl ?_
  refine ev_binop ?_
  refine r_attr rfl ?_
  refine r_loc a 0 (by kernel_rfl) rfl ?_
  refine t_get a 661 6 (by kernel_rfl) (by trivial) (by trivial) rfl rfl ?_
  refine c_blt a "len" (by kernel_rfl) rfl ?_
  refine a_cons rfl ?_
  refine r_loc a 2 (by kernel_rfl) rfl ?_
  refine a_nil ?_
  refine tc_len (xs := ilst cs) (.head _) ?_
  refine bin_add ?_
  refine ta_attr ?_
  refine r_loc a 0 (by kernel_rfl) rfl ?_
  refine s_field a 661 6 (by kernel_rfl) (by trivial) (by decreasing_tactic) (by kernel_rfl) ?_
  refine st_cons ?_
  refine st_if ?_
  refine tb_compare1 rfl ?_
  refine r_attr rfl ?_
  refine r_loc a 0 (by kernel_rfl) rfl ?_
  refine t_get a 661 4 (by kernel_rfl) (by trivial) (by trivial) rfl rfl ?_
  refine r_loc a 1 (by kernel_rfl) rfl ?_
  refine cmp_gt ?_
  refine ⟨_, rfl, fun hb => ?_, fun hb => ?_⟩
  · replace hb := of_decide_eq_true hb
    refine st_cons ?_
    refine st_assign rfl rfl rfl ?_
    refine ev_binop ?_
    refine r_attr rfl ?_
    refine r_loc a 0 (by kernel_rfl) rfl ?_
    refine t_get a 661 4 (by kernel_rfl) (by trivial) (by trivial) rfl rfl ?_
    refine c_blt a "len" (by kernel_rfl) rfl ?_
    refine a_cons rfl ?_
    refine r_loc a 2 (by kernel_rfl) rfl ?_
    refine a_nil ?_
    refine tc_len (xs := ilst cs) (.head _) ?_
    refine bin_add ?_
    refine ta_attr ?_
    refine r_loc a 0 (by kernel_rfl) rfl ?_
    refine s_field a 661 4 (by kernel_rfl) (by trivial) (by decreasing_tactic) (by kernel_rfl) ?_
    refine st_nil ?_
    refine st_nil ?_
    refine ⟨_, .refl _, g', rfl, ?_, hg⟩
    unfold Buf.inn
    rw [if_pos hb]
    unfold bufL headL bufF
    dsimp only
    rw [hg.t, ilst_len]
    rfl
  · replace hb := of_decide_eq_false hb
    refine st_nil ?_
    refine st_nil ?_
    refine ⟨_, .refl _, g', rfl, ?_, hg⟩
    unfold Buf.inn
    rw [if_neg hb]
    unfold bufL headL bufF
    dsimp only
    rw [hg.t, ilst_len]
    rfl
theorem k_text_in (a : At c sc d) {B : Buf} {i : Nat} {q : Addr} {cs : List Int} {X : Led} (hd : 3 ≤ d) (ok : B.Ok) (hi : i ≤ B.g.text.length) (hn : cs.length ≤ 200) (hz : B.g.cells.length + cs.length + 8 ≤ 5000) (p : Less M ((q, .lst (ilst cs)) :: bufL B ++ X)) (h : ∀ g', B.g.To g' (B.g.text.take i ++ cs ++ B.g.text.drop i) (B.g.cells.length + cs.length + 8) → k .none ((q, .lst (ilst cs)) :: bufL (B.inn g' i cs.length) ++ X)) : TC c (.ref 90) [.ref B.b, .int ((i : Int) + 1), .ref q] lm M k :=
  use a (fun p w => d_text_in ok hi hn hz p w) hd p fun _ _ zz => by obtain ⟨g', e, e', hx⟩ := zz; subst e e'; exact h g' hx
end
end Mine
end

section
open PySem PySem.W PySem.Calls PyProof.Rows
set_option Elab.async false
set_option maxRecDepth 100000
set_option linter.unusedVariables false
namespace Mine
section
variable {c : Cx} {sc : Scope} {d : Nat} {lm : Loc} {M : Led} {k : MV → Led → Prop}
theorem mark_out {E H G K : Led} : Less (E ++ (H ++ (G ++ K))) (K ++ (E ++ (H ++ G))) := .perm (by
  rw [← List.append_assoc H, ← List.append_assoc E]; exact List.perm_append_comm)
theorem mark_in {E H G K : Led} : Less (K ++ (E ++ (H ++ G))) (E ++ (H ++ (G ++ K))) := .perm (by
  rw [← List.append_assoc H G K, ← List.append_assoc E (H ++ G) K]; exact List.perm_append_comm)
theorem mhL_mv {K : Mks} {f : Int → Int} : mhL { K with l := K.l.map (mv f) } = mhL K := by
  unfold mhL; simp only [List.map_map]; rfl
structure Buf.To (B B' : Buf) (txt : List Int) (n : Nat) (pt : Int) (f : Int → Int) : Prop where
  b : B'.b = B.b
  bd : B'.bd = B.bd
  ls : B'.ls = B.ls
  g : B.g.To B'.g txt n
  K : B'.K = { B.K with l := B.K.l.map (mv f) }
  pt : B'.pt = pt
  zv : B'.zv = txt.length + 1
theorem mks_ok {K : Mks} {f : Int → Int} (h : K.Ok) : Mks.Ok { K with l := K.l.map (mv f) } :=
  ⟨h.lo, by show (K.l.map (mv f)).length < 60; rw [List.length_map]; exact h.few, by
    show ((K.l.map (mv f)).map (·.n)).Pairwise (· < ·)
    rw [List.map_map]; exact h.asc⟩
theorem Buf.To.ok {B B' : Buf} {txt : List Int} {n : Nat} {pt : Int} {f : Int → Int} (h : B.To B' txt n pt f) (ok : B.Ok) : B'.Ok :=
  ⟨h.g.ok, by rw [h.K]; exact mks_ok ok.k, by rw [h.K, h.b]; exact ok.b, by rw [h.zv, h.g.text]⟩
theorem mk_id {l : List Mk} {f : Int → Int} (h : ∀ p, f p = p) : l.map (mv f) = l := by
  exact (List.map_congr_left fun m _ => mv_keep (h m.p)).trans (List.map_id l)
theorem ins_ok {B : Buf} {g : Gap} {i n m : Nat} {txt : List Int} (ok : B.Ok) (hg : B.g.To g txt m) (hl : txt.length = B.g.text.length + n) : (B.inn g i n).Ok :=
  ⟨hg.ok, ok.k, ok.b, by show B.zv + n = (g.text.length : Int) + 1; rw [ok.zv, hg.text, hl]; lia⟩
theorem d_put_in {B : Buf} {i : Nat} {q : Addr} {cs : List Int} {z : Bool} (ok : B.Ok) (hp : z = true → B.pt = (i : Int) + 1) (hi : i ≤ B.g.text.length) (hn : cs.length ≤ 200) (hz : B.g.cells.length + cs.length + 8 ≤ 5000) (prog : Program) (w : World) : Does prog w (KK w.params) (.ref 111) 4 [.ref B.b, .int ((i : Int) + 1), .ref q, .bool false, .bool z] ((q, .lst (ilst cs)) :: bufL B) (fun r M' => ∃ B', r = .none ∧ M' = (q, .lst (ilst cs)) :: bufL B' ∧ B.To B' (B.g.text.take i ++ cs ++ B.g.text.drop i) (B.g.cells.length + cs.length + 8) (if z then (i : Int) + 1 + cs.length else if (i : Int) + 1 < B.pt then B.pt + cs.length else B.pt) (fIns ((i : Int) + 1) ((i : Int) + 1 + cs.length))) := by
  refine does_fn 111 (fS 14) rfl (by kernel_rfl) (fun vs s' _ => bind5 rfl (fun v1 v2 v3 v4 v5 => by kernel_rfl) vs s') (by kernel_rfl) rfl fun c a => ?_
  have hqm : (q, MO.lst (ilst cs)) ∈ (q, MO.lst (ilst cs)) :: bufL B := .head _
  refine st_cons ?_
  refine st_expr a.ok rfl ?_
  refine c_ref a 48 (by kernel_rfl) rfl ?_
  refine a_cons rfl ?_
  refine r_loc a 0 (by kernel_rfl) rfl ?_
  refine a_nil ?_
  refine k_need_writable a (Nat.le_of_ble_eq_true rfl) ok .last ?_
  refine Tf.less .first ?_
  refine st_cons ?_
  refine st_expr a.ok rfl ?_
  refine c_ref a 62 (by kernel_rfl) rfl ?_
  refine a_cons rfl ?_
  refine r_loc a 0 (by kernel_rfl) rfl ?_
  refine a_cons rfl ?_
  refine r_loc a 1 (by kernel_rfl) rfl ?_
  refine a_cons rfl ?_
  refine r_loc a 1 (by kernel_rfl) rfl ?_
  refine a_nil ?_
  refine k_reached a (Nat.le_of_ble_eq_true rfl) ok (by lia) (by have := ok.zv; lia) .last fun t => ?_
  refine Tf.less (.skip .first) ?_
  refine st_cons ?_
  refine st_if ?_
  refine tb_compare1 rfl ?_
  refine c_blt a "len" (by kernel_rfl) rfl ?_
  refine a_cons rfl ?_
  refine r_loc a 2 (by kernel_rfl) rfl ?_
  refine a_nil ?_
  refine tc_len hqm ?_
  refine ev_int ?_
  refine cmp_eq ?_
  refine ⟨_, rfl, fun hb => ?_, fun hb => ?_⟩
  · replace hb := of_decide_eq_true hb
    rw [ilst_len] at hb
    have h0 : cs = [] := List.eq_nil_of_length_eq_zero (by lia)
    subst h0
    refine st_cons ?_
    refine st_ret0 ?_
    refine ⟨_, .refl _, B, rfl, rfl, ⟨rfl, rfl, rfl, ⟨rfl, rfl, rfl, ok.g, by simp, by lia⟩, ?_, ?_, by rw [ok.zv]; simp⟩⟩
    · rw [mk_id fun p => by unfold fIns; split <;> simp]
    · cases z with
      | true => rw [hp rfl]; simp
      | false => simp
  · refine st_nil ?_
    refine st_cons ?_
    refine st_expr a.ok rfl ?_
    refine c_ref a 55 (by kernel_rfl) rfl ?_
    refine a_cons rfl ?_
    refine r_loc a 0 (by kernel_rfl) rfl ?_
    refine a_cons rfl ?_
    refine c_blt a "len" (by kernel_rfl) rfl ?_
    refine a_cons rfl ?_
    refine r_loc a 2 (by kernel_rfl) rfl ?_
    refine a_nil ?_
    refine tc_len hqm ?_
    refine a_nil ?_
    refine k_need_room a (Nat.le_of_ble_eq_true rfl) ok (by rw [ilst_len]; have := ok.g.size; have := Gap.text_len ok.g; have := ok.g.le; have := ok.g.len; lia) .last ?_
    refine Tf.less .first ?_
    refine st_cons ?_
    refine st_expr a.ok rfl ?_
    refine c_ref a 69 (by kernel_rfl) rfl ?_
    refine a_cons rfl ?_
    refine r_loc a 0 (by kernel_rfl) rfl ?_
    refine a_cons rfl ?_
    refine r_loc a 1 (by kernel_rfl) rfl ?_
    refine a_cons rfl ?_
    refine r_loc a 1 (by kernel_rfl) rfl ?_
    refine a_nil ?_
    refine k_tell_ahead a (Nat.le_of_ble_eq_true rfl) ok .last ?_
    refine Tf.less .first ?_
    refine st_cons ?_
    refine st_expr a.ok rfl ?_
    refine c_ref a 90 (by kernel_rfl) rfl ?_
    refine a_cons rfl ?_
    refine r_loc a 0 (by kernel_rfl) rfl ?_
    refine a_cons rfl ?_
    refine r_loc a 1 (by kernel_rfl) rfl ?_
    refine a_cons rfl ?_
    refine r_loc a 2 (by kernel_rfl) rfl ?_
    refine a_nil ?_
    refine k_text_in a (Nat.le_of_ble_eq_true rfl) (X := []) ok hi hn hz (by rw [List.append_nil]; exact .refl _) fun g' hg => ?_
    rw [List.append_nil]
    have hl : (B.g.text.take i ++ cs ++ B.g.text.drop i).length = B.g.text.length + cs.length := by
      rw [List.length_append, List.length_append, List.length_take, List.length_drop]; lia
    have ok1 := ins_ok (i := i) ok hg hl
    refine st_join (fun lm₁ M₁ => lm₁ = [(Str.ofString "buffer", .ref B.b), (Str.ofString "place", .int ((i : Int) + 1)), (Str.ofString "codes", .ref q), (Str.ofString "before_markers", .bool false), (Str.ofString "is_point_behind", .bool z)] ∧ M₁ = (q, .lst (ilst cs)) :: bufL { B.inn g' i cs.length with pt := if z then (i : Int) + 1 + cs.length else if (i : Int) + 1 < B.pt then B.pt + cs.length else B.pt }) ?_ (fun lm M hq => ?_)
    · refine st_if ?_
      refine tb_value (fun _ => rfl) ?_
      refine r_loc a 4 (by kernel_rfl) rfl ?_
      refine ⟨_, rfl, fun hb => ?_, fun hb => ?_⟩
      · refine st_cons ?_
        refine st_assign rfl rfl rfl ?_
        refine ev_binop ?_
        refine r_loc a 1 (by kernel_rfl) rfl ?_
        refine c_blt a "len" (by kernel_rfl) rfl ?_
        refine a_cons rfl ?_
        refine r_loc a 2 (by kernel_rfl) rfl ?_
        refine a_nil ?_
        refine tc_len (xs := ilst cs) (.head _) ?_
        refine bin_add ?_
        refine ta_attr ?_
        refine r_loc a 0 (by kernel_rfl) rfl ?_
        refine s_field a 661 4 (by kernel_rfl) (by trivial) (by decreasing_tactic) (by kernel_rfl) ?_
        refine st_nil ?_
        refine ⟨_, _, sub_cons 0 (by kernel_rfl) rfl (sub_cons 1 (by kernel_rfl) rfl (sub_cons 2 (by kernel_rfl) rfl (sub_cons 3 (by kernel_rfl) rfl (sub_cons 4 (by kernel_rfl) rfl sub_nil)))), .refl _, rfl, ?_⟩
        rw [if_pos hb, ilst_len]; rfl
      · refine st_nil ?_
        refine ⟨_, _, sub_cons 0 (by kernel_rfl) rfl (sub_cons 1 (by kernel_rfl) rfl (sub_cons 2 (by kernel_rfl) rfl (sub_cons 3 (by kernel_rfl) rfl (sub_cons 4 (by kernel_rfl) rfl sub_nil)))), .refl _, rfl, ?_⟩
        rw [if_neg (by rw [hb]; exact Bool.false_ne_true)]; rfl
    obtain ⟨e, e'⟩ := hq
    subst e e'
    generalize hPT : (if z then (i : Int) + 1 + cs.length else if (i : Int) + 1 < B.pt then B.pt + cs.length else B.pt) = PT
    have ok2 : Buf.Ok { B.inn g' i cs.length with pt := PT } := ⟨ok1.g, ok1.k, ok1.b, ok1.zv⟩
    refine st_cons ?_
    refine st_expr a.ok rfl ?_
    refine c_meth a 555 538 rfl rfl (by kernel_rfl) ?_
    refine r_attr rfl ?_
    refine r_loc a 0 (by kernel_rfl) rfl ?_
    refine t_get a 661 3 (by kernel_rfl) (by trivial) (by trivial) rfl rfl ?_
    refine ⟨_, _, _, rfl, .tail _ (List.mem_append_right _ (List.mem_append_right _ (.head _))), .tail _ (List.mem_append_right _ (List.mem_append_right _ (.tail _ (.head _)))), by kernel_rfl, ?_⟩
    refine a_cons rfl ?_
    refine r_loc a 1 (by kernel_rfl) rfl ?_
    refine a_cons rfl ?_
    refine ev_binop ?_
    refine r_loc a 1 (by kernel_rfl) rfl ?_
    refine c_blt a "len" (by kernel_rfl) rfl ?_
    refine a_cons rfl ?_
    refine r_loc a 2 (by kernel_rfl) rfl ?_
    refine a_nil ?_
    refine tc_len (xs := ilst cs) (.head _) ?_
    refine bin_add ?_
    refine a_cons rfl ?_
    refine r_loc a 3 (by kernel_rfl) rfl ?_
    refine a_nil ?_
    rw [ilst_len]
    refine k_m_inserted a (Nat.le_of_ble_eq_true rfl) ok.k (mark_out (E := [(q, .lst (ilst cs))])) ?_
    rw [← mhL_mv (f := fIns ((i : Int) + 1) ((i : Int) + 1 + cs.length))]
    refine Tf.less (M₀ := (q, .lst (ilst cs)) :: bufL { B.inn g' i cs.length with pt := PT, K := { B.K with l := B.K.l.map (mv (fIns ((i : Int) + 1) ((i : Int) + 1 + cs.length))) } }) (mark_in (E := [(q, .lst (ilst cs))])) ?_
    have ok3 : Buf.Ok { B.inn g' i cs.length with pt := PT, K := { B.K with l := B.K.l.map (mv (fIns ((i : Int) + 1) ((i : Int) + 1 + cs.length))) } } := ⟨ok1.g, mks_ok ok.k, ok1.b, ok1.zv⟩
    refine st_cons ?_
    refine st_expr a.ok rfl ?_
    refine c_ref a 104 (by kernel_rfl) rfl ?_
    refine a_cons rfl ?_
    refine r_loc a 0 (by kernel_rfl) rfl ?_
    refine a_cons rfl ?_
    refine r_loc a 1 (by kernel_rfl) rfl ?_
    refine a_cons rfl ?_
    refine c_blt a "len" (by kernel_rfl) rfl ?_
    refine a_cons rfl ?_
    refine r_loc a 2 (by kernel_rfl) rfl ?_
    refine a_nil ?_
    refine tc_len (xs := ilst cs) (.head _) ?_
    refine a_cons rfl ?_
    refine r_loc a 3 (by kernel_rfl) rfl ?_
    refine a_nil ?_
    refine k_hung_in a (B := { B.inn g' i cs.length with pt := PT, K := { B.K with l := B.K.l.map (mv (fIns ((i : Int) + 1) ((i : Int) + 1 + cs.length))) } }) (by lia) ok3 .last ?_
    refine Tf.less .first ?_
    refine st_cons ?_
    refine st_expr a.ok rfl ?_
    refine c_ref a 76 (by kernel_rfl) rfl ?_
    refine a_cons rfl ?_
    refine r_loc a 0 (by kernel_rfl) rfl ?_
    refine a_cons rfl ?_
    refine r_loc a 1 (by kernel_rfl) rfl ?_
    refine a_cons rfl ?_
    refine ev_binop ?_
    refine r_loc a 1 (by kernel_rfl) rfl ?_
    refine c_blt a "len" (by kernel_rfl) rfl ?_
    refine a_cons rfl ?_
    refine r_loc a 2 (by kernel_rfl) rfl ?_
    refine a_nil ?_
    refine tc_len (xs := ilst cs) (.head _) ?_
    refine bin_add ?_
    refine a_cons rfl ?_
    refine ev_int ?_
    refine a_nil ?_
    refine k_tell_behind a (B := { B.inn g' i cs.length with pt := PT, K := { B.K with l := B.K.l.map (mv (fIns ((i : Int) + 1) ((i : Int) + 1 + cs.length))) } }) (by lia) ok3 .last ?_
    refine Tf.less .first ?_
    refine st_nil ?_
    exact ⟨_, .refl _, _, rfl, rfl, ⟨rfl, rfl, rfl, hg, rfl, hPT.symm ▸ rfl, by show B.zv + cs.length = _; rw [ok.zv, hl]; lia⟩⟩
end
end Mine
end

section
open PySem PySem.W PySem.Calls PyProof.Rows
set_option Elab.async false
set_option maxRecDepth 100000
set_option linter.unusedVariables false
namespace Mine
section
variable {c : Cx} {sc : Scope} {d : Nat} {lm : Loc} {M : Led} {k : MV → Led → Prop}
theorem out_ok {B : Buf} {g : Gap} {i j m : Nat} {txt : List Int} (ok : B.Ok) (hg : B.g.To g txt m) (hl : txt.length + (j - i) = B.g.text.length) (hij : i ≤ j) : (B.out g i j).Ok :=
  ⟨hg.ok, ok.k, ok.b, by show B.zv - ((j : Int) - i) = (g.text.length : Int) + 1; rw [ok.zv, hg.text]; lia⟩
theorem d_delete {B : Buf} {i j : Nat} (ok : B.Ok) (hij : i < j) (hj : j ≤ B.g.text.length) (prog : Program) (w : World) : Does prog w (KK w.params) (.ref 134) 4 [.ref B.b, .int ((i : Int) + 1), .int ((j : Int) + 1)] (bufL B) (fun r M' => ∃ q B', r = .ref q ∧ M' = (q, .lst (ilst (seg B.g.text i j))) :: bufL B' ∧ B.To B' (B.g.text.take i ++ B.g.text.drop j) B.g.cells.length (if (i : Int) + 1 < B.pt then max ((i : Int) + 1) (B.pt - ((j : Int) - i)) else B.pt) (fDel ((i : Int) + 1) ((j : Int) + 1))) := by
  refine does_fn 134 (fS 17) rfl (by kernel_rfl) (fun vs s' _ => bind3 rfl (fun v1 v2 v3 => by kernel_rfl) vs s') (by kernel_rfl) rfl fun c a => ?_
  have hz := ok.zv
  have hl : (B.g.text.take i ++ B.g.text.drop j).length + (j - i) = B.g.text.length := by
    rw [List.length_append, List.length_take, List.length_drop]; lia
  refine st_cons ?_
  refine st_expr a.ok rfl ?_
  refine c_ref a 48 (by kernel_rfl) rfl ?_
  refine a_cons rfl ?_
  refine r_loc a 0 (by kernel_rfl) rfl ?_
  refine a_nil ?_
  refine k_need_writable a (X := []) (by lia) ok (by rw [List.append_nil]; exact .refl _) ?_
  rw [List.append_nil]
  refine st_cons ?_
  refine st_assign rfl rfl rfl ?_
  refine c_ref a 62 (by kernel_rfl) rfl ?_
  refine a_cons rfl ?_
  refine r_loc a 0 (by kernel_rfl) rfl ?_
  refine a_cons rfl ?_
  refine r_loc a 1 (by kernel_rfl) rfl ?_
  refine a_cons rfl ?_
  refine r_loc a 2 (by kernel_rfl) rfl ?_
  refine a_nil ?_
  refine k_reached a (X := []) (by lia) ok (by lia) (by lia) (by rw [List.append_nil]; exact .refl _) fun t => ?_
  rw [List.append_nil, show min ((i : Int) + 1) ((j : Int) + 1) = (i : Int) + 1 by lia, show max ((i : Int) + 1) ((j : Int) + 1) = (j : Int) + 1 by lia]
  refine ta_tuple a.ok rfl (.head _) rfl ?_
  refine tas_cons ?_
  refine s_loc a 3 (by kernel_rfl) ?_
  refine tas_cons ?_
  refine s_loc a 4 (by kernel_rfl) ?_
  refine tas_nil ?_
  refine Tf.less (M₀ := bufL B) (.skip (.refl _)) ?_
  refine st_cons ?_
  refine st_if ?_
  refine tb_compare1 rfl ?_
  refine r_loc a 3 (by kernel_rfl) rfl ?_
  refine r_loc a 4 (by kernel_rfl) rfl ?_
  refine cmp_eq ?_
  refine ⟨_, rfl, fun hb => absurd (of_decide_eq_true hb) (by lia), fun _ => ?_⟩
  refine st_nil ?_
  refine st_cons ?_
  refine st_expr a.ok rfl ?_
  refine c_ref a 69 (by kernel_rfl) rfl ?_
  refine a_cons rfl ?_
  refine r_loc a 0 (by kernel_rfl) rfl ?_
  refine a_cons rfl ?_
  refine r_loc a 3 (by kernel_rfl) rfl ?_
  refine a_cons rfl ?_
  refine r_loc a 4 (by kernel_rfl) rfl ?_
  refine a_nil ?_
  refine k_tell_ahead a (X := []) (by lia) ok (by rw [List.append_nil]; exact .refl _) ?_
  rw [List.append_nil]
  refine st_cons ?_
  refine st_assign rfl rfl rfl ?_
  refine c_ref a 83 (by kernel_rfl) rfl ?_
  refine a_cons rfl ?_
  refine r_loc a 0 (by kernel_rfl) rfl ?_
  refine a_cons rfl ?_
  refine r_loc a 3 (by kernel_rfl) rfl ?_
  refine a_cons rfl ?_
  refine r_loc a 4 (by kernel_rfl) rfl ?_
  refine a_nil ?_
  refine k_text_out a (X := []) (by lia) ok (by lia) hj (by rw [List.append_nil]; exact .refl _) fun q g' hg => ?_
  rw [List.append_nil]
  refine s_loc a 5 (by kernel_rfl) ?_
  have ok1 := out_ok ok hg hl (by lia)
  refine st_cons ?_
  refine st_expr a.ok rfl ?_
  refine c_meth a 555 545 rfl rfl (by kernel_rfl) ?_
  refine r_attr rfl ?_
  refine r_loc a 0 (by kernel_rfl) rfl ?_
  refine t_get a 661 3 (by kernel_rfl) (by trivial) (by trivial) rfl rfl ?_
  refine ⟨_, _, _, rfl, .tail _ (List.mem_append_right _ (List.mem_append_right _ (.head _))), .tail _ (List.mem_append_right _ (List.mem_append_right _ (.tail _ (.head _)))), by kernel_rfl, ?_⟩
  refine a_cons rfl ?_
  refine r_loc a 3 (by kernel_rfl) rfl ?_
  refine a_cons rfl ?_
  refine r_loc a 4 (by kernel_rfl) rfl ?_
  refine a_nil ?_
  refine k_m_deleted a (Nat.le_of_ble_eq_true rfl) ok.k (mark_out (E := [(q, .lst (ilst (seg B.g.text i j)))])) ?_
  rw [← mhL_mv (f := fDel ((i : Int) + 1) ((j : Int) + 1))]
  refine Tf.less (M₀ := (q, .lst (ilst (seg B.g.text i j))) :: bufL { B.out g' i j with K := { B.K with l := B.K.l.map (mv (fDel ((i : Int) + 1) ((j : Int) + 1))) } }) (mark_in (E := [(q, .lst (ilst (seg B.g.text i j)))])) ?_
  have ok3 : Buf.Ok { B.out g' i j with K := { B.K with l := B.K.l.map (mv (fDel ((i : Int) + 1) ((j : Int) + 1))) } } := ⟨ok1.g, mks_ok ok.k, ok1.b, ok1.zv⟩
  refine st_cons ?_
  refine st_expr a.ok rfl ?_
  refine c_ref a 97 (by kernel_rfl) rfl ?_
  refine a_cons rfl ?_
  refine r_loc a 0 (by kernel_rfl) rfl ?_
  refine a_cons rfl ?_
  refine r_loc a 3 (by kernel_rfl) rfl ?_
  refine a_cons rfl ?_
  refine r_loc a 4 (by kernel_rfl) rfl ?_
  refine a_nil ?_
  refine k_hung_out a (B := { B.out g' i j with K := { B.K with l := B.K.l.map (mv (fDel ((i : Int) + 1) ((j : Int) + 1))) } }) (by lia) ok3 .last ?_
  refine Tf.less .first ?_
  refine st_cons ?_
  refine st_expr a.ok rfl ?_
  refine c_ref a 76 (by kernel_rfl) rfl ?_
  refine a_cons rfl ?_
  refine r_loc a 0 (by kernel_rfl) rfl ?_
  refine a_cons rfl ?_
  refine r_loc a 3 (by kernel_rfl) rfl ?_
  refine a_cons rfl ?_
  refine r_loc a 3 (by kernel_rfl) rfl ?_
  refine a_cons rfl ?_
  refine ev_binop ?_
  refine r_loc a 4 (by kernel_rfl) rfl ?_
  refine r_loc a 3 (by kernel_rfl) rfl ?_
  refine bin_sub ?_
  refine a_nil ?_
  refine k_tell_behind a (B := { B.out g' i j with K := { B.K with l := B.K.l.map (mv (fDel ((i : Int) + 1) ((j : Int) + 1))) } }) (by lia) ok3 .last ?_
  refine Tf.less .first ?_
  refine st_cons ?_
  refine st_ret ?_
  refine r_loc a 5 (by kernel_rfl) rfl ?_
  exact ⟨_, .refl _, q, _, rfl, rfl, ⟨rfl, rfl, rfl, hg, rfl, rfl, by show B.zv - ((j : Int) - i) = _; rw [ok.zv]; lia⟩⟩
end
end Mine
end

section
open PySem PySem.W PySem.Calls PyProof.Rows
set_option Elab.async false
set_option maxRecDepth 100000
set_option linter.unusedVariables false
namespace Mine
theorem does_fnD {prog : Program} {w : World} (f : Addr) (s : Stmt) {d : Nat} {as : List MV} (as' : List MV) {M : Led} {P : MV → Led → Prop} {oc : Value} {od : Option Addr} {osl : Array (Option Value)} {name qual : Str} {dV kV doc pm cdv ct : Value} {an : Option Addr} {lm : Loc}
    (ho : (KK w.params).lookup f = some ⟨oc, od, .func (fnOf name qual (sArgs s) (sBody s) (sScope s) dV kV doc pm an cdv ct), osl⟩) (hcd : codeIn (KK w.params) cdv qual = true)
    (hb : ∀ (vs : List Value) (s' : Shared), (KK w.params).In s'.heap → RVs as vs → ∃ vs', RVs as' vs' ∧ BindsTo s' (fnOf name qual (sArgs s) (sBody s) (sScope s) dV kV doc pm an cdv ct) ⟨vs, []⟩ ((fnNames s).zip vs'))
    (hok : fnOk s as'.length = true) (hlm : (fnNames s).zip as' = lm)
    (body : ∀ c : Cx, At c (sScope s) d → Tf c (execs (sBody s) c.env) lm M (PN P) (PR P)) : Does prog w (KK w.params) (.ref f) (d + 1) as M P := by
  simp only [fnOk, Bool.and_eq_true, beq_iff_eq, Bool.not_eq_true', bne_iff_ne] at hok
  obtain ⟨⟨⟨⟨⟨⟨h1, h2⟩, h3⟩, h4⟩, h5⟩, h6⟩, h7⟩ := hok
  refine does_of_def ho hcd (fun s' vs X hr => ?_) (fun c ok _ hw hK hd hs => body c ⟨ok, by rw [hK, hw], hs, by rw [hd]; exact Nat.le_refl _⟩) (fun x hx => ?_) h5 h6 h7
  · obtain ⟨vs', hr', hB⟩ := hb vs s' X hr
    refine ⟨_, hB, by subst hlm; exact zip_rev hr' (nodup_of h1) h3, fun y hy => ?_⟩
    have := List.all_eq_true.mp h2 y.1 (List.of_mem_zip hy).1
    simpa using this
  · have := List.all_eq_true.mp h4 x hx
    simpa using this
theorem RVs.snoc {as : List MV} {vs : List Value} {a : MV} {v : Value} (h : RVs as vs) (h' : RV a v) : RVs (as ++ [a]) (vs ++ [v]) := h.append ⟨h', trivial⟩
section
variable {c : Cx} {sc : Scope} {d : Nat} {lm : Loc} {M : Led} {k : MV → Led → Prop}
theorem k_put_in (a : At c sc d) {B : Buf} {i : Nat} {q : Addr} {cs : List Int} {z : Bool} {X : Led} (hd : 4 ≤ d) (ok : B.Ok) (hp : z = true → B.pt = (i : Int) + 1) (hi : i ≤ B.g.text.length) (hn : cs.length ≤ 200) (hz : B.g.cells.length + cs.length + 8 ≤ 5000) (p : Less M ((q, .lst (ilst cs)) :: bufL B ++ X))
    (h : ∀ B', B.To B' (B.g.text.take i ++ cs ++ B.g.text.drop i) (B.g.cells.length + cs.length + 8) (if z then (i : Int) + 1 + cs.length else if (i : Int) + 1 < B.pt then B.pt + cs.length else B.pt) (fIns ((i : Int) + 1) ((i : Int) + 1 + cs.length)) → k .none ((q, .lst (ilst cs)) :: bufL B' ++ X)) :
    TC c (.ref 111) [.ref B.b, .int ((i : Int) + 1), .ref q, .bool false, .bool z] lm M k :=
  use a (fun p w => d_put_in ok hp hi hn hz p w) hd p fun _ _ zz => by obtain ⟨B', e, e', hx⟩ := zz; subst e e'; exact h B' hx
theorem d_insert_at {B : Buf} {i : Nat} {q : Addr} {cs : List Int} (ok : B.Ok) (hi : i ≤ B.g.text.length) (hn : cs.length ≤ 200) (hz : B.g.cells.length + cs.length + 8 ≤ 5000) (prog : Program) (w : World) :
    Does prog w (KK w.params) (.ref 119) 5 [.ref B.b, .int ((i : Int) + 1), .ref q] ((q, .lst (ilst cs)) :: bufL B) (fun r M' => ∃ B', r = .none ∧ M' = (q, .lst (ilst cs)) :: bufL B' ∧ B.To B' (B.g.text.take i ++ cs ++ B.g.text.drop i) (B.g.cells.length + cs.length + 8) (if (i : Int) + 1 < B.pt then B.pt + cs.length else B.pt) (fIns ((i : Int) + 1) ((i : Int) + 1 + cs.length))) := by
  refine does_fnD 119 (fS 15) [.ref B.b, .int ((i : Int) + 1), .ref q, .bool false] rfl (by kernel_rfl) (fun vs s' X hr => ?_) (by kernel_rfl) rfl fun c a => ?_
  · obtain ⟨v1, v2, v3, rfl⟩ := len3 hr.length
    exact ⟨[v1, v2, v3, .bool false], hr.snoc (.bool false), binds_K X rfl rfl rfl rfl rfl⟩
  · refine st_cons ?_
    refine st_expr a.ok rfl ?_
    refine c_ref a 111 (by kernel_rfl) rfl ?_
    refine a_cons rfl ?_
    refine r_loc a 0 (by kernel_rfl) rfl ?_
    refine a_cons rfl ?_
    refine r_loc a 1 (by kernel_rfl) rfl ?_
    refine a_cons rfl ?_
    refine r_loc a 2 (by kernel_rfl) rfl ?_
    refine a_cons rfl ?_
    refine r_loc a 3 (by kernel_rfl) rfl ?_
    refine a_cons rfl ?_
    refine ev_bool ?_
    refine a_nil ?_
    refine k_put_in a (X := []) (by lia) ok nofun hi hn hz (by rw [List.append_nil]; exact .refl _) fun B' hB => ?_
    rw [List.append_nil]
    refine st_nil ?_
    exact ⟨_, .refl _, B', rfl, rfl, hB⟩
theorem d_insert {B : Buf} {i : Nat} {q : Addr} {cs : List Int} (ok : B.Ok) (hp : B.pt = (i : Int) + 1) (hi : i ≤ B.g.text.length) (hn : cs.length ≤ 200) (hz : B.g.cells.length + cs.length + 8 ≤ 5000) (prog : Program) (w : World) :
    Does prog w (KK w.params) (.ref 127) 5 [.ref B.b, .ref q] ((q, .lst (ilst cs)) :: bufL B) (fun r M' => ∃ B', r = .none ∧ M' = (q, .lst (ilst cs)) :: bufL B' ∧ B.To B' (B.g.text.take i ++ cs ++ B.g.text.drop i) (B.g.cells.length + cs.length + 8) ((i : Int) + 1 + cs.length) (fIns ((i : Int) + 1) ((i : Int) + 1 + cs.length))) := by
  refine does_fnD 127 (fS 16) [.ref B.b, .ref q, .bool false] rfl (by kernel_rfl) (fun vs s' X hr => ?_) (by kernel_rfl) rfl fun c a => ?_
  · obtain ⟨v1, v2, rfl⟩ := len2 hr.length
    exact ⟨[v1, v2, .bool false], hr.snoc (.bool false), binds_K X rfl rfl rfl rfl rfl⟩
  · refine st_cons ?_
    refine st_expr a.ok rfl ?_
    refine c_ref a 111 (by kernel_rfl) rfl ?_
    refine a_cons rfl ?_
    refine r_loc a 0 (by kernel_rfl) rfl ?_
    refine a_cons rfl ?_
    refine r_attr rfl ?_
    refine r_loc a 0 (by kernel_rfl) rfl ?_
    refine t_get a 661 4 (by kernel_rfl) (by trivial) (by trivial) rfl rfl ?_
    refine a_cons rfl ?_
    refine r_loc a 1 (by kernel_rfl) rfl ?_
    refine a_cons rfl ?_
    refine r_loc a 2 (by kernel_rfl) rfl ?_
    refine a_cons rfl ?_
    refine ev_bool ?_
    refine a_nil ?_
    rw [hp]
    refine k_put_in a (X := []) (by lia) ok (fun _ => hp) hi hn hz (by rw [List.append_nil]; exact .refl _) fun B' hB => ?_
    rw [List.append_nil]
    refine st_nil ?_
    exact ⟨_, .refl _, B', rfl, rfl, hB⟩
end
end Mine
end

section
open PySem PySem.W PySem.Calls PyProof.Rows
set_option Elab.async false
set_option maxRecDepth 100000
set_option linter.unusedVariables false
namespace Mine
section
variable {c : Cx} {sc : Scope} {d : Nat} {lm : Loc} {M : Led} {k : MV → Led → Prop}
/-- where an edit takes a position: the range s..e has become n signs -/
noncomputable def fEd (s e n : Int) (p : Int) : Int := if p ≤ s then p else if e ≤ p then p + n - (e - s) else s
theorem fEd_ins {s n : Int} : fIns s (s + n) = fEd s s n := by
  funext p; unfold fIns fEd; split <;> split <;> first | lia | (split <;> lia)
theorem fEd_del {s e : Int} (h : s < e) : fDel s e = fEd s e 0 := by
  funext p; unfold fDel fEd; repeat' split
  all_goals lia
theorem fEd_rep {s e n : Int} (h : s < e) : fRep s e n = fEd s e n := by
  funext p; unfold fRep fEd; repeat' split
  all_goals lia
theorem k_insert_at (a : At c sc d) {B : Buf} {i : Nat} {q : Addr} {cs : List Int} {X : Led} (hd : 5 ≤ d) (ok : B.Ok) (hi : i ≤ B.g.text.length) (hn : cs.length ≤ 200) (hz : B.g.cells.length + cs.length + 8 ≤ 5000) (p : Less M ((q, .lst (ilst cs)) :: bufL B ++ X))
    (h : ∀ B', B.To B' (B.g.text.take i ++ cs ++ B.g.text.drop i) (B.g.cells.length + cs.length + 8) (if (i : Int) + 1 < B.pt then B.pt + cs.length else B.pt) (fIns ((i : Int) + 1) ((i : Int) + 1 + cs.length)) → k .none ((q, .lst (ilst cs)) :: bufL B' ++ X)) :
    TC c (.ref 119) [.ref B.b, .int ((i : Int) + 1), .ref q] lm M k :=
  use a (fun p w => d_insert_at ok hi hn hz p w) hd p fun _ _ zz => by obtain ⟨B', e, e', hx⟩ := zz; subst e e'; exact h B' hx
theorem k_insert (a : At c sc d) {B : Buf} {i : Nat} {q : Addr} {cs : List Int} {X : Led} (hd : 5 ≤ d) (ok : B.Ok) (hp : B.pt = (i : Int) + 1) (hi : i ≤ B.g.text.length) (hn : cs.length ≤ 200) (hz : B.g.cells.length + cs.length + 8 ≤ 5000) (p : Less M ((q, .lst (ilst cs)) :: bufL B ++ X))
    (h : ∀ B', B.To B' (B.g.text.take i ++ cs ++ B.g.text.drop i) (B.g.cells.length + cs.length + 8) ((i : Int) + 1 + cs.length) (fIns ((i : Int) + 1) ((i : Int) + 1 + cs.length)) → k .none ((q, .lst (ilst cs)) :: bufL B' ++ X)) :
    TC c (.ref 127) [.ref B.b, .ref q] lm M k :=
  use a (fun p w => d_insert ok hp hi hn hz p w) hd p fun _ _ zz => by obtain ⟨B', e, e', hx⟩ := zz; subst e e'; exact h B' hx
theorem k_delete (a : At c sc d) {B : Buf} {i j : Nat} {X : Led} (hd : 4 ≤ d) (ok : B.Ok) (hij : i < j) (hj : j ≤ B.g.text.length) (p : Less M (bufL B ++ X))
    (h : ∀ q B', B.To B' (B.g.text.take i ++ B.g.text.drop j) B.g.cells.length (if (i : Int) + 1 < B.pt then max ((i : Int) + 1) (B.pt - ((j : Int) - i)) else B.pt) (fDel ((i : Int) + 1) ((j : Int) + 1)) → k (.ref q) ((q, .lst (ilst (seg B.g.text i j))) :: bufL B' ++ X)) :
    TC c (.ref 134) [.ref B.b, .int ((i : Int) + 1), .int ((j : Int) + 1)] lm M k :=
  use a (fun p w => d_delete ok hij hj p w) hd p fun _ _ zz => by obtain ⟨q, B', e, e', hx⟩ := zz; subst e e'; exact h q B' hx
theorem Buf.To.turn {B B' : Buf} {txt txt' : List Int} {n n' : Nat} {pt pt' : Int} {f f' : Int → Int} (h : B.To B' txt n pt f) (e1 : txt = txt') (e2 : n ≤ n') (e3 : pt = pt') (e4 : f = f') : B.To B' txt' n' pt' f' := by
  subst e1 e3 e4
  exact ⟨h.b, h.bd, h.ls, ⟨h.g.t, h.g.td, h.g.cl, h.g.ok, h.g.text, Nat.le_trans h.g.len e2⟩, h.K, h.pt, h.zv⟩
theorem d_replace {B : Buf} {i j : Nat} {q : Addr} {cs : List Int} (ok : B.Ok) (hij : i ≤ j) (hj : j ≤ B.g.text.length) (hn : cs.length ≤ 200) (hz : B.g.cells.length + cs.length + 8 ≤ 5000) (prog : Program) (w : World) :
    Does prog w (KK w.params) (.ref 142) 6 [.ref B.b, .int ((i : Int) + 1), .int ((j : Int) + 1), .ref q] ((q, .lst (ilst cs)) :: bufL B) (fun _ M' => ∃ B', M' = (q, .lst (ilst cs)) :: bufL B' ∧ B.To B' (B.g.text.take i ++ cs ++ B.g.text.drop j) (B.g.cells.length + cs.length + 8) (fEd ((i : Int) + 1) ((j : Int) + 1) cs.length B.pt) (fEd ((i : Int) + 1) ((j : Int) + 1) cs.length)) := by
  have hz0 := ok.zv
  have hl : (B.g.text.take i ++ B.g.text.drop j).length + (j - i) = B.g.text.length := by
    rw [List.length_append, List.length_take, List.length_drop]; lia
  refine does_fnD 142 (fS 18) [.ref B.b, .int ((i : Int) + 1), .int ((j : Int) + 1), .ref q, .none] rfl (by kernel_rfl) (fun vs s' X hr => ?_) (by kernel_rfl) rfl fun c a => ?_
  · obtain ⟨v1, v2, v3, v4, rfl⟩ := len4 hr.length
    exact ⟨[v1, v2, v3, v4, .none], hr.snoc .none, binds_K X rfl rfl rfl rfl rfl⟩
  refine st_cons ?_
  refine st_expr a.ok rfl ?_
  refine c_ref a 48 (by kernel_rfl) rfl ?_
  refine a_cons rfl ?_
  refine r_loc a 0 (by kernel_rfl) rfl ?_
  refine a_nil ?_
  refine k_need_writable a (Nat.le_of_ble_eq_true rfl) ok .last ?_
  refine Tf.less .first ?_
  refine st_cons ?_
  refine st_assign rfl rfl rfl ?_
  refine c_ref a 62 (by kernel_rfl) rfl ?_
  refine a_cons rfl ?_
  refine r_loc a 0 (by kernel_rfl) rfl ?_
  refine a_cons rfl ?_
  refine r_loc a 1 (by kernel_rfl) rfl ?_
  refine a_cons rfl ?_
  refine r_loc a 2 (by kernel_rfl) rfl ?_
  refine a_nil ?_
  refine k_reached a (Nat.le_of_ble_eq_true rfl) ok (by lia) (by lia) .last fun t => ?_
  rw [show min ((i : Int) + 1) ((j : Int) + 1) = (i : Int) + 1 by lia, show max ((i : Int) + 1) ((j : Int) + 1) = (j : Int) + 1 by lia]
  refine ta_tuple a.ok rfl (.head _) rfl ?_
  refine tas_cons ?_
  refine s_loc a 5 (by kernel_rfl) ?_
  refine tas_cons ?_
  refine s_loc a 6 (by kernel_rfl) ?_
  refine tas_nil ?_
  refine Tf.less (M₀ := (q, .lst (ilst cs)) :: bufL B) (.skip .first) ?_
  refine st_cons ?_
  refine st_if ?_
  refine tb_compare1 rfl ?_
  refine r_loc a 5 (by kernel_rfl) rfl ?_
  refine r_loc a 6 (by kernel_rfl) rfl ?_
  refine cmp_eq ?_
  refine ⟨_, rfl, fun hb => ?_, fun hb => ?_⟩
  · replace hb := of_decide_eq_true hb
    obtain rfl : i = j := by lia
    refine st_cons ?_
    refine st_expr a.ok rfl ?_
    refine c_ref a 119 (by kernel_rfl) rfl ?_
    refine a_cons rfl ?_
    refine r_loc a 0 (by kernel_rfl) rfl ?_
    refine a_cons rfl ?_
    refine r_loc a 5 (by kernel_rfl) rfl ?_
    refine a_cons rfl ?_
    refine r_loc a 3 (by kernel_rfl) rfl ?_
    refine a_nil ?_
    refine k_insert_at a (X := []) (by lia) ok hj hn hz (by rw [List.append_nil]; exact .refl _) fun B' hB => ?_
    rw [List.append_nil]
    refine st_cons ?_
    refine st_ret ?_
    refine e_list ?_
    refine a_nil ?_
    refine ⟨by decide, fun q1 => ?_⟩
    refine ⟨_, .skip (.refl _), B', rfl, hB.turn rfl (Nat.le_refl _) ?_ fEd_ins⟩
    unfold fEd; split <;> split <;> first | lia | (split <;> lia)
  · replace hb := of_decide_eq_false hb
    have hlt : i < j := by lia
    refine st_nil ?_
    refine st_cons ?_
    refine st_if ?_
    refine tb_compare1 rfl ?_
    refine c_blt a "len" (by kernel_rfl) rfl ?_
    refine a_cons rfl ?_
    refine r_loc a 3 (by kernel_rfl) rfl ?_
    refine a_nil ?_
    refine tc_len (xs := ilst cs) (.head _) ?_
    rw [ilst_len]
    refine ev_int ?_
    refine cmp_eq ?_
    refine ⟨_, rfl, fun hb => ?_, fun hb => ?_⟩
    · replace hb := of_decide_eq_true hb
      obtain rfl : cs = [] := List.eq_nil_of_length_eq_zero (by lia)
      refine st_cons ?_
      refine st_ret ?_
      refine c_ref a 134 (by kernel_rfl) rfl ?_
      refine a_cons rfl ?_
      refine r_loc a 0 (by kernel_rfl) rfl ?_
      refine a_cons rfl ?_
      refine r_loc a 5 (by kernel_rfl) rfl ?_
      refine a_cons rfl ?_
      refine r_loc a 6 (by kernel_rfl) rfl ?_
      refine a_nil ?_
      refine k_delete a (Nat.le_of_ble_eq_true rfl) ok hlt hj .last fun z B' hB => ?_
      refine ⟨_, .skip .first, B', rfl, hB.turn (by simp) (by lia) ?_ (fEd_del (by lia))⟩
      unfold fEd; repeat' split
      all_goals (simp only [List.length_nil] at *; try lia)
    · replace hb := of_decide_eq_false hb
      refine st_nil ?_
      refine st_cons ?_
      refine st_expr a.ok rfl ?_
      refine c_ref a 55 (by kernel_rfl) rfl ?_
      refine a_cons rfl ?_
      refine r_loc a 0 (by kernel_rfl) rfl ?_
      refine a_cons rfl ?_
      refine ev_binop ?_
      refine c_blt a "len" (by kernel_rfl) rfl ?_
      refine a_cons rfl ?_
      refine r_loc a 3 (by kernel_rfl) rfl ?_
      refine a_nil ?_
      refine tc_len (xs := ilst cs) (.head _) ?_
      rw [ilst_len]
      refine ev_binop ?_
      refine r_loc a 6 (by kernel_rfl) rfl ?_
      refine r_loc a 5 (by kernel_rfl) rfl ?_
      refine bin_sub ?_
      refine bin_sub ?_
      refine a_nil ?_
      refine k_need_room a (Nat.le_of_ble_eq_true rfl) ok (by have := ok.g.size; have := Gap.text_len ok.g; have := ok.g.le; have := ok.g.len; lia) .last ?_
      refine Tf.less .first ?_
      refine st_cons ?_
      refine st_assign rfl rfl rfl ?_
      refine r_attr rfl ?_
      refine r_loc a 0 (by kernel_rfl) rfl ?_
      refine t_get a 661 4 (by kernel_rfl) (by trivial) (by trivial) rfl rfl ?_
      refine s_loc a 7 (by kernel_rfl) ?_
      refine st_cons ?_
      refine st_expr a.ok rfl ?_
      refine c_ref a 69 (by kernel_rfl) rfl ?_
      refine a_cons rfl ?_
      refine r_loc a 0 (by kernel_rfl) rfl ?_
      refine a_cons rfl ?_
      refine r_loc a 5 (by kernel_rfl) rfl ?_
      refine a_cons rfl ?_
      refine r_loc a 6 (by kernel_rfl) rfl ?_
      refine a_nil ?_
      refine k_tell_ahead a (Nat.le_of_ble_eq_true rfl) ok .last ?_
      refine Tf.less .first ?_
      refine st_cons ?_
      refine st_assign rfl rfl rfl ?_
      refine c_ref a 83 (by kernel_rfl) rfl ?_
      refine a_cons rfl ?_
      refine r_loc a 0 (by kernel_rfl) rfl ?_
      refine a_cons rfl ?_
      refine r_loc a 5 (by kernel_rfl) rfl ?_
      refine a_cons rfl ?_
      refine r_loc a 6 (by kernel_rfl) rfl ?_
      refine a_nil ?_
      refine k_text_out a (Nat.le_of_ble_eq_true rfl) ok hij hj .last fun z g' hg => ?_
      skip
      refine s_loc a 8 (by kernel_rfl) ?_
      have ok1 := out_ok ok hg hl hij
      refine Tf.less (M₀ := (q, .lst (ilst cs)) :: bufL (B.out g' i j)) (.skip .first) ?_
      refine st_cons ?_
      refine st_expr a.ok rfl ?_
      refine c_ref a 90 (by kernel_rfl) rfl ?_
      refine a_cons rfl ?_
      refine r_loc a 0 (by kernel_rfl) rfl ?_
      refine a_cons rfl ?_
      refine r_loc a 5 (by kernel_rfl) rfl ?_
      refine a_cons rfl ?_
      refine r_loc a 3 (by kernel_rfl) rfl ?_
      refine a_nil ?_
      refine k_text_in a (B := B.out g' i j) (X := []) (by lia) ok1 (by show i ≤ g'.text.length; rw [hg.text]; lia) hn (by have := hg.len; show g'.cells.length + cs.length + 8 ≤ 5000; lia) (by rw [List.append_nil]; exact .refl _) fun g2 hg2 => ?_
      rw [List.append_nil]
      have ht2 : g2.text = B.g.text.take i ++ cs ++ B.g.text.drop j := by
        rw [hg2.text]; show g'.text.take i ++ cs ++ g'.text.drop i = _
        have e1 : (B.g.text.take i).length = i := by rw [List.length_take]; lia
        rw [hg.text, List.take_append_of_le_length (by lia), List.drop_append_of_le_length (by lia), List.take_of_length_le (by lia), List.drop_of_length_le (by lia), List.nil_append]
      refine st_join (fun lm₁ M₁ => lm₁ = [(Str.ofString "buffer", .ref B.b), (Str.ofString "start", .int ((i : Int) + 1)), (Str.ofString "end", .int ((j : Int) + 1)), (Str.ofString "codes", .ref q), (Str.ofString "rows", .none), (Str.ofString "low", .int ((i : Int) + 1)), (Str.ofString "high", .int ((j : Int) + 1)), (Str.ofString "point", .int B.pt), (Str.ofString "gone", .ref z)] ∧ M₁ = (q, .lst (ilst cs)) :: bufL { (B.out g' i j).inn g2 i cs.length with pt := fEd ((i : Int) + 1) ((j : Int) + 1) cs.length B.pt }) ?_ (fun lm M hq => ?_)
      · refine st_if ?_
        refine tb_compare1 rfl ?_
        refine r_loc a 7 (by kernel_rfl) rfl ?_
        refine r_loc a 6 (by kernel_rfl) rfl ?_
        refine cmp_ge ?_
        refine ⟨_, rfl, fun hb => ?_, fun hb => ?_⟩
        · replace hb := of_decide_eq_true hb
          refine st_cons ?_
          refine st_assign rfl rfl rfl ?_
          refine ev_binop ?_
          refine ev_binop ?_
          refine r_loc a 7 (by kernel_rfl) rfl ?_
          refine c_blt a "len" (by kernel_rfl) rfl ?_
          refine a_cons rfl ?_
          refine r_loc a 3 (by kernel_rfl) rfl ?_
          refine a_nil ?_
          refine tc_len (by trivial) ?_
          refine bin_add ?_
          refine ev_binop ?_
          refine r_loc a 6 (by kernel_rfl) rfl ?_
          refine r_loc a 5 (by kernel_rfl) rfl ?_
          refine bin_sub ?_
          refine bin_sub ?_
          refine ta_attr ?_
          refine r_loc a 0 (by kernel_rfl) rfl ?_
          refine s_field a 661 4 (by kernel_rfl) (by trivial) (by decreasing_tactic) (by kernel_rfl) ?_
          refine st_nil ?_
          have hb2 := hb
          refine ⟨_, _, sub_cons 0 (by kernel_rfl) rfl (sub_cons 1 (by kernel_rfl) rfl (sub_cons 2 (by kernel_rfl) rfl (sub_cons 3 (by kernel_rfl) rfl (sub_cons 4 (by kernel_rfl) rfl (sub_cons 5 (by kernel_rfl) rfl (sub_cons 6 (by kernel_rfl) rfl (sub_cons 7 (by kernel_rfl) rfl (sub_cons 8 (by kernel_rfl) rfl sub_nil)))))))), .refl _, rfl, ?_⟩
          have e : B.pt + (cs.length : Int) - ((j : Int) + 1 - ((i : Int) + 1)) = fEd ((i : Int) + 1) ((j : Int) + 1) cs.length B.pt := by unfold fEd; (repeat' split) <;> lia
          rw [ilst_len, e]
          rfl
        · replace hb := of_decide_eq_false hb
          refine st_nil ?_
          refine ⟨_, _, sub_cons 0 (by kernel_rfl) rfl (sub_cons 1 (by kernel_rfl) rfl (sub_cons 2 (by kernel_rfl) rfl (sub_cons 3 (by kernel_rfl) rfl (sub_cons 4 (by kernel_rfl) rfl (sub_cons 5 (by kernel_rfl) rfl (sub_cons 6 (by kernel_rfl) rfl (sub_cons 7 (by kernel_rfl) rfl (sub_cons 8 (by kernel_rfl) rfl sub_nil)))))))), .refl _, rfl, ?_⟩
          rw [show fEd ((i : Int) + 1) ((j : Int) + 1) cs.length B.pt = ((B.out g' i j).inn g2 i cs.length).pt by
            unfold fEd Buf.inn Buf.out; dsimp only; repeat' split
            all_goals lia]
      obtain ⟨e, e'⟩ := hq
      subst e e'
      have ok2 : Buf.Ok { (B.out g' i j).inn g2 i cs.length with pt := fEd ((i : Int) + 1) ((j : Int) + 1) cs.length B.pt } := ⟨hg2.ok, ok.k, ok.b, by show B.zv - ((j : Int) - i) + cs.length = (g2.text.length : Int) + 1; rw [ht2, List.length_append, List.length_append, List.length_take, List.length_drop]; lia⟩
      have ok3 : Buf.Ok { (B.out g' i j).inn g2 i cs.length with pt := fEd ((i : Int) + 1) ((j : Int) + 1) cs.length B.pt, K := { B.K with l := B.K.l.map (mv (fRep ((i : Int) + 1) ((j : Int) + 1) cs.length)) } } := ⟨ok2.g, mks_ok ok.k, ok2.b, ok2.zv⟩
      refine st_cons ?_
      refine st_expr a.ok rfl ?_
      refine c_meth a 555 552 rfl rfl (by kernel_rfl) ?_
      refine r_attr rfl ?_
      refine r_loc a 0 (by kernel_rfl) rfl ?_
      refine t_get a 661 3 (by kernel_rfl) (by trivial) (by trivial) rfl rfl ?_
      refine ⟨_, _, _, rfl, .tail _ (List.mem_append_right _ (List.mem_append_right _ (.head _))), .tail _ (List.mem_append_right _ (List.mem_append_right _ (.tail _ (.head _)))), by kernel_rfl, ?_⟩
      refine a_cons rfl ?_
      refine r_loc a 5 (by kernel_rfl) rfl ?_
      refine a_cons rfl ?_
      refine r_loc a 6 (by kernel_rfl) rfl ?_
      refine a_cons rfl ?_
      refine c_blt a "len" (by kernel_rfl) rfl ?_
      refine a_cons rfl ?_
      refine r_loc a 3 (by kernel_rfl) rfl ?_
      refine a_nil ?_
      refine tc_len (xs := ilst cs) (.head _) ?_
      rw [ilst_len]
      refine a_nil ?_
      refine k_m_replaced a (Nat.le_of_ble_eq_true rfl) ok.k (mark_out (E := [(q, .lst (ilst cs))])) ?_
      rw [← mhL_mv (f := fRep ((i : Int) + 1) ((j : Int) + 1) cs.length)]
      refine Tf.less (M₀ := (q, .lst (ilst cs)) :: bufL { (B.out g' i j).inn g2 i cs.length with pt := fEd ((i : Int) + 1) ((j : Int) + 1) cs.length B.pt, K := { B.K with l := B.K.l.map (mv (fRep ((i : Int) + 1) ((j : Int) + 1) cs.length)) } }) (mark_in (E := [(q, .lst (ilst cs))])) ?_
      refine st_cons ?_
      refine st_expr a.ok rfl ?_
      refine c_ref a 104 (by kernel_rfl) rfl ?_
      refine a_cons rfl ?_
      refine r_loc a 0 (by kernel_rfl) rfl ?_
      refine a_cons rfl ?_
      refine r_loc a 6 (by kernel_rfl) rfl ?_
      refine a_cons rfl ?_
      refine c_blt a "len" (by kernel_rfl) rfl ?_
      refine a_cons rfl ?_
      refine r_loc a 3 (by kernel_rfl) rfl ?_
      refine a_nil ?_
      refine tc_len (xs := ilst cs) (.head _) ?_
      rw [ilst_len]
      refine a_cons rfl ?_
      refine ev_bool ?_
      refine a_nil ?_
      refine k_hung_in a (B := { (B.out g' i j).inn g2 i cs.length with pt := fEd ((i : Int) + 1) ((j : Int) + 1) cs.length B.pt, K := { B.K with l := B.K.l.map (mv (fRep ((i : Int) + 1) ((j : Int) + 1) cs.length)) } }) (by lia) ok3 .last ?_
      refine Tf.less .first ?_
      refine st_cons ?_
      refine st_expr a.ok rfl ?_
      refine c_ref a 97 (by kernel_rfl) rfl ?_
      refine a_cons rfl ?_
      refine r_loc a 0 (by kernel_rfl) rfl ?_
      refine a_cons rfl ?_
      refine r_loc a 5 (by kernel_rfl) rfl ?_
      refine a_cons rfl ?_
      refine r_loc a 6 (by kernel_rfl) rfl ?_
      refine a_nil ?_
      refine k_hung_out a (B := { (B.out g' i j).inn g2 i cs.length with pt := fEd ((i : Int) + 1) ((j : Int) + 1) cs.length B.pt, K := { B.K with l := B.K.l.map (mv (fRep ((i : Int) + 1) ((j : Int) + 1) cs.length)) } }) (by lia) ok3 .last ?_
      refine Tf.less .first ?_
      refine st_cons ?_
      refine st_if ?_
      refine tb_compare1 rfl ?_
      refine r_loc a 4 (by kernel_rfl) rfl ?_
      refine ev_none ?_
      refine cmp_isnot_none ?_
      refine ⟨_, rfl, nofun, fun hb => ?_⟩
      refine st_nil ?_
      refine st_cons ?_
      refine st_expr a.ok rfl ?_
      refine c_ref a 76 (by kernel_rfl) rfl ?_
      refine a_cons rfl ?_
      refine r_loc a 0 (by kernel_rfl) rfl ?_
      refine a_cons rfl ?_
      refine r_loc a 5 (by kernel_rfl) rfl ?_
      refine a_cons rfl ?_
      refine ev_binop ?_
      refine r_loc a 5 (by kernel_rfl) rfl ?_
      refine c_blt a "len" (by kernel_rfl) rfl ?_
      refine a_cons rfl ?_
      refine r_loc a 3 (by kernel_rfl) rfl ?_
      refine a_nil ?_
      refine tc_len (xs := ilst cs) (.head _) ?_
      rw [ilst_len]
      refine bin_add ?_
      refine a_cons rfl ?_
      refine ev_binop ?_
      refine r_loc a 6 (by kernel_rfl) rfl ?_
      refine r_loc a 5 (by kernel_rfl) rfl ?_
      refine bin_sub ?_
      refine a_nil ?_
      refine k_tell_behind a (B := { (B.out g' i j).inn g2 i cs.length with pt := fEd ((i : Int) + 1) ((j : Int) + 1) cs.length B.pt, K := { B.K with l := B.K.l.map (mv (fRep ((i : Int) + 1) ((j : Int) + 1) cs.length)) } }) (by lia) ok3 .last ?_
      refine Tf.less .first ?_
      refine st_cons ?_
      refine st_ret ?_
      refine r_loc a 8 (by kernel_rfl) rfl ?_
      exact ⟨_, .refl _, _, rfl, ⟨rfl, rfl, rfl, ⟨hg2.t.trans hg.t, hg2.td.trans hg.td, hg2.cl.trans hg.cl, hg2.ok, ht2, Nat.le_trans hg2.len (by have := hg.len; show g'.cells.length + cs.length + 8 ≤ _; lia)⟩, by show (_ : Mks) = _; rw [← fEd_rep (by lia : (i : Int) + 1 < (j : Int) + 1)], rfl, ok2.zv.trans (congrArg (fun t : List Int => (t.length : Int) + 1) ht2)⟩⟩
end
end Mine
end

section
open PySem PySem.W PySem.Calls PyProof.Rows
set_option Elab.async false
set_option maxRecDepth 100000
set_option linter.unusedVariables false
namespace Mine
section
variable {c : Cx} {sc : Scope} {d : Nat} {lm : Loc} {M : Led} {k : MV → Led → Prop}
/-- where the line of a place begins -/
noncomputable def lsAt (t : List Int) : Nat → Nat
  | 0 => 0
  | i + 1 => if t[i]? = some 10 then i + 1 else lsAt t i
theorem codeAt_of {t : List Int} {i : Nat} (h : i < t.length) : codeAt t ((i : Int) + 1) = t[i] := by
  unfold codeAt
  rw [if_neg (by lia), show ((i : Int) + 1 - 1).toNat = i by lia, List.getElem?_eq_getElem h]; rfl
theorem d_line_start {B : Buf} {i : Nat} (ok : B.Ok) (hi : i ≤ B.g.text.length) (prog : Program) (w : World) : Does prog w (KK w.params) (.ref 149) 3 [.ref B.b, .int ((i : Int) + 1)] (bufL B) (fun r M' => r = .int ((lsAt B.g.text i : Nat) + 1) ∧ M' = bufL B) := by
  refine does_fn 149 (fS 21) rfl (by kernel_rfl) (fun vs s' _ => bind2 rfl (fun v1 v2 => by kernel_rfl) vs s') (by kernel_rfl) rfl fun c a => ?_
  refine st_cons ?_
  refine st_assign rfl rfl rfl ?_
  refine r_loc a 1 (by kernel_rfl) rfl ?_
  refine s_loc a 2 (by kernel_rfl) ?_
  refine st_cons ?_
  -- WHILE
  refine st_while (fun n lm M => n ≤ i ∧ lsAt B.g.text n = lsAt B.g.text i ∧ lm = [(Str.ofString "view", .ref B.b), (Str.ofString "place", .int ((i : Int) + 1)), (Str.ofString "at", .int ((n : Int) + 1))] ∧ M = bufL B) i (.refl _) (.refl _) ⟨Nat.le_refl _, rfl, rfl, rfl⟩ fun n lm M hJ => ?_
  obtain ⟨hn, he, e1, e2⟩ := hJ
  subst e1 e2
  refine tb_bool ?_
  refine all_and_cons ?_
  refine tb_compare1 rfl ?_
  refine r_loc a 2 (by kernel_rfl) rfl ?_
  refine c_meth a 661 595 rfl rfl (by kernel_rfl) ?_
  refine r_loc a 0 (by kernel_rfl) rfl ?_
  refine ⟨_, _, _, rfl, by trivial, by trivial, by kernel_rfl, ?_⟩
  refine a_nil ?_
  refine k_begin a (X := []) (by lia) ok (by rw [List.append_nil]; exact .refl _) ?_
  rw [List.append_nil]
  refine cmp_gt ?_
  refine ⟨_, rfl, fun hb => ?_, fun hb => ?_⟩
  · replace hb := of_decide_eq_true hb
    obtain ⟨m, rfl⟩ : ∃ m, n = m + 1 := ⟨n - 1, by lia⟩
    refine all_and_cons ?_
    refine tb_compare1 rfl ?_
    refine c_meth a 661 616 rfl rfl (by kernel_rfl) ?_
    refine r_loc a 0 (by kernel_rfl) rfl ?_
    refine ⟨_, _, _, rfl, by trivial, by trivial, by kernel_rfl, ?_⟩
    refine a_cons rfl ?_
    refine ev_binop ?_
    refine r_loc a 2 (by kernel_rfl) rfl ?_
    refine ev_int ?_
    refine bin_sub ?_
    refine a_nil ?_
    refine k_code_at a (X := []) (by lia) ok (by rw [List.append_nil]; exact .refl _) ?_
    rw [List.append_nil, show (((m + 1 : Nat) : Int) + 1 - 1) = (m : Int) + 1 by lia, codeAt_of (show m < B.g.text.length by lia)]
    refine r_gint a 10 377 (by kernel_rfl) ?_
    refine cmp_ne ?_
    refine ⟨_, rfl, fun hb => ?_, fun hb => ?_⟩
    · replace hb := cne_true hb
      refine all_and_nil ?_
      refine ⟨fun _ => ?_, nofun⟩
      refine st_cons ?_
      refine st_assign rfl rfl rfl ?_
      refine ev_binop ?_
      refine r_loc a 2 (by kernel_rfl) rfl ?_
      refine ev_int ?_
      refine bin_sub ?_
      refine s_loc a 2 (by kernel_rfl) ?_
      refine st_nil ?_
      refine ⟨m, _, _, by lia, sub_cons 0 (by kernel_rfl) rfl (sub_cons 1 (by kernel_rfl) rfl (sub_cons 2 (by kernel_rfl) rfl sub_nil)), .refl _, by lia, ?_, ?_, rfl⟩
      · rw [← he]; unfold lsAt; rw [if_neg (by rw [List.getElem?_eq_getElem (by lia)]; intro q; exact hb (Option.some.inj q))]
        cases m <;> rfl
      · rw [show (((m + 1 : Nat) : Int) + 1 - 1) = (m : Int) + 1 by lia]
    · replace hb := cne_false hb
      refine ⟨nofun, fun _ => ?_⟩
      refine st_cons ?_
      refine st_ret ?_
      refine r_loc a 2 (by kernel_rfl) rfl ?_
      refine ⟨_, .refl _, ?_, rfl⟩
      rw [← he]; unfold lsAt; rw [if_pos (by rw [List.getElem?_eq_getElem (by lia), hb])]
  · replace hb := of_decide_eq_false hb
    refine ⟨nofun, fun _ => ?_⟩
    refine st_cons ?_
    refine st_ret ?_
    refine r_loc a 2 (by kernel_rfl) rfl ?_
    refine ⟨_, .refl _, ?_, rfl⟩
    have : n = 0 := by lia
    subst this
    rw [← he]; rfl
end
end Mine
end

section
open PySem PySem.W PySem.Calls PyProof.Rows
set_option Elab.async false
set_option maxRecDepth 100000
set_option linter.unusedVariables false
namespace Mine
section
variable {c : Cx} {sc : Scope} {d : Nat} {lm : Loc} {M : Led} {k : MV → Led → Prop}
/-- where the line of a place ends: n signs are left -/
noncomputable def leAt (t : List Int) : Nat → Nat → Nat
  | i, 0 => i
  | i, n + 1 => if t[i]? = some 10 then i else leAt t (i + 1) n
theorem d_line_end {B : Buf} {i : Nat} (ok : B.Ok) (hi : i ≤ B.g.text.length) (prog : Program) (w : World) : Does prog w (KK w.params) (.ref 156) 3 [.ref B.b, .int ((i : Int) + 1)] (bufL B) (fun r M' => r = .int ((leAt B.g.text i (B.g.text.length - i) : Nat) + 1) ∧ M' = bufL B) := by
  have hz := ok.zv
  refine does_fn 156 (fS 22) rfl (by kernel_rfl) (fun vs s' _ => bind2 rfl (fun v1 v2 => by kernel_rfl) vs s') (by kernel_rfl) rfl fun c a => ?_
  refine st_cons ?_
  refine st_assign rfl rfl rfl ?_
  refine r_loc a 1 (by kernel_rfl) rfl ?_
  refine s_loc a 2 (by kernel_rfl) ?_
  refine st_cons ?_
  -- WHILE
  refine st_while (fun n lm M => ∃ m, m + n = B.g.text.length ∧ leAt B.g.text m n = leAt B.g.text i (B.g.text.length - i) ∧ lm = [(Str.ofString "view", .ref B.b), (Str.ofString "place", .int ((i : Int) + 1)), (Str.ofString "at", .int ((m : Int) + 1))] ∧ M = bufL B) (B.g.text.length - i) (.refl _) (.refl _) ⟨i, by lia, rfl, rfl, rfl⟩ fun n lm M hJ => ?_
  obtain ⟨m, hn, he, e1, e2⟩ := hJ
  subst e1 e2
  refine tb_bool ?_
  refine all_and_cons ?_
  refine tb_compare1 rfl ?_
  refine r_loc a 2 (by kernel_rfl) rfl ?_
  refine c_meth a 661 602 rfl rfl (by kernel_rfl) ?_
  refine r_loc a 0 (by kernel_rfl) rfl ?_
  refine ⟨_, _, _, rfl, by trivial, by trivial, by kernel_rfl, ?_⟩
  refine a_nil ?_
  refine k_end a (X := []) (by lia) ok (by rw [List.append_nil]; exact .refl _) ?_
  rw [List.append_nil]
  refine cmp_lt ?_
  refine ⟨_, rfl, fun hb => ?_, fun hb => ?_⟩
  · replace hb := of_decide_eq_true hb
    obtain ⟨n, rfl⟩ : ∃ n', n = n' + 1 := ⟨n - 1, by lia⟩
    refine all_and_cons ?_
    refine tb_compare1 rfl ?_
    refine c_meth a 661 616 rfl rfl (by kernel_rfl) ?_
    refine r_loc a 0 (by kernel_rfl) rfl ?_
    refine ⟨_, _, _, rfl, by trivial, by trivial, by kernel_rfl, ?_⟩
    refine a_cons rfl ?_
    refine r_loc a 2 (by kernel_rfl) rfl ?_
    refine a_nil ?_
    refine k_code_at a (X := []) (by lia) ok (by rw [List.append_nil]; exact .refl _) ?_
    rw [List.append_nil, codeAt_of (show m < B.g.text.length by lia)]
    refine r_gint a 10 377 (by kernel_rfl) ?_
    refine cmp_ne ?_
    refine ⟨_, rfl, fun hb => ?_, fun hb => ?_⟩
    · replace hb := cne_true hb
      refine all_and_nil ?_
      refine ⟨fun _ => ?_, nofun⟩
      refine st_cons ?_
      refine st_assign rfl rfl rfl ?_
      refine ev_binop ?_
      refine r_loc a 2 (by kernel_rfl) rfl ?_
      refine ev_int ?_
      refine bin_add ?_
      refine s_loc a 2 (by kernel_rfl) ?_
      refine st_nil ?_
      refine ⟨n, _, _, by lia, sub_cons 0 (by kernel_rfl) rfl (sub_cons 1 (by kernel_rfl) rfl (sub_cons 2 (by kernel_rfl) rfl sub_nil)), .refl _, m + 1, by lia, ?_, ?_, rfl⟩
      · rw [← he]; conv => rhs; unfold leAt
        rw [if_neg (by rw [List.getElem?_eq_getElem (by lia)]; intro q; exact hb (Option.some.inj q))]
      · rw [show (((m + 1 : Nat) : Int) + 1) = (m : Int) + 1 + 1 by lia]
    · replace hb := cne_false hb
      refine ⟨nofun, fun _ => ?_⟩
      refine st_cons ?_
      refine st_ret ?_
      refine r_loc a 2 (by kernel_rfl) rfl ?_
      refine ⟨_, .refl _, ?_, rfl⟩
      rw [← he]; unfold leAt; rw [if_pos (by rw [List.getElem?_eq_getElem (by lia), hb])]
  · replace hb := of_decide_eq_false hb
    refine ⟨nofun, fun _ => ?_⟩
    refine st_cons ?_
    refine st_ret ?_
    refine r_loc a 2 (by kernel_rfl) rfl ?_
    refine ⟨_, .refl _, ?_, rfl⟩
    have : n = 0 := by lia
    subst this
    rw [← he]; rfl
end
end Mine
end

section
open PySem PySem.W PySem.Calls PyProof.Rows
set_option Elab.async false
set_option maxRecDepth 100000
set_option linter.unusedVariables false
namespace Mine
section
variable {c : Cx} {sc : Scope} {d : Nat} {lm : Loc} {M : Led} {k : MV → Led → Prop}
/-- how many signs two rows have in common at their beginnings -/
noncomputable def cm : List Int → List Int → Nat → Nat
  | x :: xs, y :: ys, n + 1 => if x = y then cm xs ys n + 1 else 0
  | _, _, _ => 0
theorem cm_step {xs ys : List Int} {m n : Nat} (h1 : m < xs.length) (h2 : m < ys.length) : cm (xs.drop m) (ys.drop m) (n + 1) = if xs[m] = ys[m] then cm (xs.drop (m + 1)) (ys.drop (m + 1)) n + 1 else 0 := by
  rw [List.drop_eq_getElem_cons h1, List.drop_eq_getElem_cons h2]; rfl
theorem cm_end {xs ys : List Int} {m n : Nat} (h : n = 0 ∨ xs.length ≤ m ∨ ys.length ≤ m) : cm (xs.drop m) (ys.drop m) n = 0 := by
  rcases h with h | h | h
  · subst h; cases xs.drop m <;> cases ys.drop m <;> rfl
  · rw [List.drop_of_length_le h]; cases ys.drop m <;> cases n <;> rfl
  · rw [List.drop_of_length_le h]; cases xs.drop m <;> cases n <;> rfl
theorem d_common_many {M : Led} {p q : Addr} {xs ys : List Int} {most : Nat} (hp : (p, MO.lst (ilst xs)) ∈ M) (hq : (q, MO.lst (ilst ys)) ∈ M) (prog : Program) (w : World) : Does prog w (KK w.params) (.ref 289) 1 [.ref p, .ref q, .int most] M (fun r M' => r = .int (cm xs ys most : Nat) ∧ M' = M) := by
  refine does_fn 289 (fS 44) rfl (by kernel_rfl) (fun vs s' _ => bind3 rfl (fun v1 v2 v3 => by kernel_rfl) vs s') (by kernel_rfl) rfl fun c a => ?_
  refine st_cons ?_
  refine st_assign rfl rfl rfl ?_
  refine ev_int ?_
  refine s_loc a 3 (by kernel_rfl) ?_
  refine st_cons ?_
  -- WHILE
  refine st_while (fun n lm M' => ∃ m, m + n = most ∧ m + cm (xs.drop m) (ys.drop m) n = cm xs ys most ∧ lm = [(Str.ofString "one", .ref p), (Str.ofString "other", .ref q), (Str.ofString "most", .int most), (Str.ofString "many", .int (m : Nat))] ∧ M' = M) most (.refl _) (.refl _) ⟨0, by lia, by simp, rfl, rfl⟩ fun n lm M' hJ => ?_
  obtain ⟨m, hn, he, e1, e2⟩ := hJ
  subst e1 e2
  refine tb_bool ?_
  refine all_and_cons ?_
  refine tb_compare1 rfl ?_
  refine r_loc a 3 (by kernel_rfl) rfl ?_
  refine c_blt a "min" (by kernel_rfl) rfl ?_
  refine a_cons rfl ?_
  refine r_loc a 2 (by kernel_rfl) rfl ?_
  refine a_cons rfl ?_
  refine c_blt a "len" (by kernel_rfl) rfl ?_
  refine a_cons rfl ?_
  refine r_loc a 0 (by kernel_rfl) rfl ?_
  refine a_nil ?_
  refine tc_len (by trivial) ?_
  refine a_cons rfl ?_
  refine c_blt a "len" (by kernel_rfl) rfl ?_
  refine a_cons rfl ?_
  refine r_loc a 1 (by kernel_rfl) rfl ?_
  refine a_nil ?_
  refine tc_len (by trivial) ?_
  refine a_nil ?_
  refine tc_min3 a.ok ?_
  refine cmp_lt ?_
  refine ⟨_, rfl, fun hb => ?_, fun hb => ?_⟩
  · replace hb := of_decide_eq_true hb
    rw [ilst_len, ilst_len] at hb
    obtain ⟨n, rfl⟩ : ∃ n', n = n' + 1 := ⟨n - 1, by lia⟩
    have h1 : m < xs.length := by lia
    have h2 : m < ys.length := by lia
    rw [cm_step h1 h2] at he
    refine all_and_cons ?_
    refine tb_compare1 rfl ?_
    refine ev_index ?_
    refine r_loc a 0 (by kernel_rfl) rfl ?_
    refine r_loc a 3 (by kernel_rfl) rfl ?_
    refine sub_lst hp (item_at xs (x := xs[m]) (by lia) (by simp)) ?_ (fun _ => rfl)
    refine ev_index ?_
    refine r_loc a 1 (by kernel_rfl) rfl ?_
    refine r_loc a 3 (by kernel_rfl) rfl ?_
    refine sub_lst hq (item_at ys (x := ys[m]) (by lia) (by simp)) ?_ (fun _ => rfl)
    refine cmp_eq ?_
    refine ⟨_, rfl, fun hb => ?_, fun hb => ?_⟩
    · replace hb := of_decide_eq_true hb
      refine all_and_nil ?_
      refine ⟨fun _ => ?_, nofun⟩
      refine st_cons ?_
      refine st_assign rfl rfl rfl ?_
      refine ev_binop ?_
      refine r_loc a 3 (by kernel_rfl) rfl ?_
      refine ev_int ?_
      refine bin_add ?_
      refine s_loc a 3 (by kernel_rfl) ?_
      refine st_nil ?_
      rw [if_pos hb] at he
      exact ⟨n, _, _, by lia, sub_cons 0 (by kernel_rfl) rfl (sub_cons 1 (by kernel_rfl) rfl (sub_cons 2 (by kernel_rfl) rfl (sub_cons 3 (by kernel_rfl) rfl sub_nil))), .refl _, m + 1, by lia, by lia, rfl, rfl⟩
    · replace hb := of_decide_eq_false hb
      refine ⟨nofun, fun _ => ?_⟩
      refine st_cons ?_
      refine st_ret ?_
      refine r_loc a 3 (by kernel_rfl) rfl ?_
      rw [if_neg hb] at he
      exact ⟨_, .refl _, by rw [← he]; rfl, rfl⟩
  · replace hb := of_decide_eq_false hb
    rw [ilst_len, ilst_len] at hb
    rw [cm_end (by lia)] at he
    refine ⟨nofun, fun _ => ?_⟩
    refine st_cons ?_
    refine st_ret ?_
    refine r_loc a 3 (by kernel_rfl) rfl ?_
    exact ⟨_, .refl _, by rw [← he]; rfl, rfl⟩
end
end Mine
end

section
open PySem PySem.W PySem.Calls PyProof.Rows
set_option Elab.async false
set_option maxRecDepth 100000
set_option linter.unusedVariables false
namespace Mine

theorem bindL_at {k : Str → Option NameKind} {n : Str} (hn : k n = some .local) : ∀ {names : List Str} {vs : List Value} {m : Str → Option Value}, names.Nodup →
    bindL k (names.zip vs) m n = match (names.zip vs).lookup n with | some v => some v | none => m n
  | [], _, m, _ => rfl
  | _ :: _, [], m, _ => rfl
  | x :: names, v :: vs, m, nd => by
    have nd' := List.nodup_cons.mp nd
    rw [List.zip_cons_cons, List.lookup_cons]
    unfold bindL
    rw [bindL_at hn nd'.2]
    by_cases e : n = x
    · subst e
      have : (names.zip vs).lookup n = none := List.lookup_eq_none_iff.mpr fun p hp => bne_iff_ne.mpr fun (e : n = p.1) => nd'.1 (e ▸ (List.of_mem_zip hp).1)
      rw [this]; simp [hn]
    · have e' : (n == x) = false := beq_eq_false_iff_ne.mpr e
      rw [e']
      have : (if k x = some NameKind.local then fun y => if y = x then some v else m y else m) n = m n := by split <;> simp [e]
      rw [this]
theorem bindC_at {k : Str → Option NameKind} {n : Str} (hn : k n ≠ some .local) : ∀ {names : List Str} {vs : List Value} {m : Str → Option Value}, names.Nodup →
    bindC k (names.zip vs) m n = match (names.zip vs).lookup n with | some v => some v | none => m n
  | [], _, m, _ => rfl
  | _ :: _, [], m, _ => rfl
  | x :: names, v :: vs, m, nd => by
    have nd' := List.nodup_cons.mp nd
    rw [List.zip_cons_cons, List.lookup_cons]
    unfold bindC
    rw [bindC_at hn nd'.2]
    by_cases e : n = x
    · subst e
      have : (names.zip vs).lookup n = none := List.lookup_eq_none_iff.mpr fun p hp => bne_iff_ne.mpr fun (e : n = p.1) => nd'.1 (e ▸ (List.of_mem_zip hp).1)
      rw [this]; simp [hn]
    · have e' : (n == x) = false := beq_eq_false_iff_ne.mpr e
      rw [e']
      have : (if k x = some NameKind.local then m else fun y => if y = x then some v else m y) n = m n := by split <;> simp [e]
      rw [this]
theorem zip_look {as : List MV} {vs : List Value} {x : Str} (h : RVs as vs) : ∀ (names : List Str), ROp ((names.zip as).lookup x) ((names.zip vs).lookup x) := by
  intro names
  induction names generalizing as vs with
  | nil => trivial
  | cons n names ih =>
    cases as with
    | nil => cases vs with
      | nil => trivial
      | cons => exact h.elim
    | cons a as => cases vs with
      | nil => exact h.elim
      | cons v vs =>
        rw [List.zip_cons_cons, List.zip_cons_cons, List.lookup_cons, List.lookup_cons]
        cases x == n with
        | true => exact h.1
        | false => exact ih h.2
theorem look_mem {α : Type} : ∀ {l : List (Str × α)} {n : Str} {v : α}, (l.map (·.1)).Nodup → (n, v) ∈ l → l.lookup n = some v
  | p :: l, n, v, hnd, hm => by
    rw [List.map_cons, List.nodup_cons] at hnd
    obtain ⟨p1, p2⟩ := p
    rcases List.mem_cons.mp hm with e | hm
    · cases e; simp
    · have hne : n ≠ p1 := fun e => hnd.1 (e ▸ List.mem_map.mpr ⟨(n, v), hm, rfl⟩)
      rw [List.lookup_cons, beq_eq_false_iff_ne.mpr hne]
      exact look_mem hnd.2 hm
noncomputable def cellLed : List (Str × Option MV) → List Addr → Led
  | (_, v) :: r, c :: cs => (c, .cell v) :: cellLed r cs
  | _, _ => []
theorem cells_led {p : Program} {w : World} {cm : Str → Option Value} {f : Str → Option MV} : ∀ {cs : List (Str × Addr)} {cells : CLed}, CellsAre cm cs cells → (∀ n ∈ cs.map (·.1), ROp (f n) (cm n)) →
    LedR p w (cellLed ((cs.map (·.1)).map fun n => (n, f n)) (cs.map (·.2))) cells ∧ cells.map (·.1) = cs.map (·.2)
  | _, _, .nil, _ => ⟨trivial, rfl⟩
  | _, _, .cons (n := n) (c := c) hd r, h => by
    have ih := cells_led (p := p) (w := w) r fun m hm => h m (.tail _ hm)
    exact ⟨⟨⟨rfl, _, hd, h n (.head _)⟩, ih.1⟩, by simp [ih.2]⟩

theorem zip_self : ∀ cs : List (Str × Addr), cs = (cs.map (·.1)).zip (cs.map (·.2))
  | [] => rfl
  | x :: cs => by rw [List.map_cons, List.map_cons, List.zip_cons_cons, ← zip_self cs]
noncomputable def cellNames (s : Stmt) : List Str := (cellsFrom 0 (sScope s).names []).map (·.1)
noncomputable def fnOkC (s : Stmt) (n : Nat) : Bool := noDup (fnNames s) && noDup (cellNames s) && (fnNames s).all (fun x => (sScope s).names.lookup x == some .local || (sScope s).names.lookup x == some .cell) && (cellNames s).all (fun x => (sScope s).names.lookup x == some .cell) && (fnNames s).length == n &&
  !(sScope s).isCoroutine && !(sScope s).isGenerator && (sScope s).kind == .function

/-- the call of a def with cells, from a state -/
theorem runs_fnC {prog : Program} {w : World} (f : Addr) (s : Stmt) {d : Nat} {as : List MV} {M : Led} {P : MV → Led → Prop} {oc : Value} {od : Option Addr} {osl : Array (Option Value)} {name qual : Str} {dV kV doc pm cdv ct : Value} {an : Option Addr} {lm : Loc} {cv : List (Str × Option MV)}
    (ho : (KK w.params).lookup f = some ⟨oc, od, .func (fnOf name qual (sArgs s) (sBody s) (sScope s) dV kV doc pm an cdv ct), osl⟩) (hcd : codeIn (KK w.params) cdv qual = true)
    (hb : ∀ vs : List Value, vs.length = as.length → bindArgs (fnOf name qual (sArgs s) (sBody s) (sScope s) dV kV doc pm an cdv ct) ⟨vs, []⟩ = pure ((fnNames s).zip vs))
    (hok : fnOkC s as.length = true) (hlm : ((fnNames s).zip as).filter (fun p => (sScope s).names.lookup p.1 == some .local) = lm) (hcv : (cellNames s).map (fun n => (n, ((fnNames s).zip as).lookup n)) = cv)
    {A : Around} {h₀ : Heap} {s' : Shared} {args : List Value} {led : CLed} (hroom : Room A (d + 1)) (hg : Ground (KK w.params) h₀) (hsub : ∀ b o, h₀.get? b = some o → s'.heap.get? b = some o) (hsz : h₀.objs.size ≤ s'.heap.objs.size) (hargs : RVs as args) (hled : LedR prog w M led) (hat : ∀ p ∈ led, s'.heap.get? p.1 = some p.2 ∧ h₀.get? p.1 = none) (hnd : (led.map (·.1)).Nodup)
    (body : ∀ c : Cx, At c (sScope s) d → c.prog = prog → c.w = w → c.h₀ = hideAll s'.heap (led.map (·.1)) → ∀ cs : List Addr, cs.length = cv.length → c.env.cells = (cv.map (·.1)).zip cs → Tf c (execs (sBody s) c.env) lm (cellLed cv cs ++ M) (PN P) (PR P)) :
    codeAny (model prog w) A (.call (.ref f) ⟨args, []⟩) (fun r s'' => ∃ v a M' led', r = .ok (.ret v) ∧ RV a v ∧ LedR prog w M' led' ∧ (∀ p ∈ led', s''.heap.get? p.1 = some p.2 ∧ (s'.heap.get? p.1 = none ∨ p.1 ∈ led.map (·.1))) ∧ (led'.map (·.1)).Nodup ∧
      (∀ b o, s'.heap.get? b = some o → b ∉ led.map (·.1) → s''.heap.get? b = some o) ∧ Same s' s'' ∧ P a M') s' := by
  simp only [fnOkC, Bool.and_eq_true, beq_iff_eq, Bool.not_eq_true', List.all_eq_true, Bool.or_eq_true] at hok
  obtain ⟨⟨⟨⟨⟨⟨⟨h1, h2⟩, h3⟩, h3c⟩, h4⟩, h5⟩, h6⟩, h7⟩ := hok
  replace h1 := nodup_of h1
  replace h2 := nodup_of h2
  have X : (KK w.params).In s'.heap := fun a o e => hsub _ _ (hg.1 a o e)
  obtain ⟨X₀, p, loose, mg, mb, T⟩ := hg
  obtain ⟨hh, hdep, hun⟩ := hroom
  generalize hfd : fnOf name qual (sArgs s) (sBody s) (sScope s) dV kV doc pm an cdv ct = fd at *
  have esc : fd.scope = sScope s := by subst hfd; rfl
  have hcn : ∀ n, (cellsFrom n (sScope s).names []).map (·.1) = cellNames s := fun n => cellsFrom_names _ _ _ _ _ rfl
  refine codeAny_call_cells (fd := fd) (body := sBody s) (binds := (fnNames s).zip args) (by lia) (X _ _ ho) rfl (T.nolimit.keeps hsub) (by subst hfd; exact codeRec_of X hcd) (by subst hfd; rfl) (hb args hargs.length) (by subst hfd; rfl) (fun x hx => ?_) (fun s₁ I₁ => ?_) (by rw [esc]; exact h5) (by rw [esc]; exact h6) (by rw [esc]; exact h7)
  · rw [esc]
    rcases h3 x.1 (List.of_mem_zip hx).1 with e | e
    · exact .inl e
    · exact .inr ⟨e, cellsFrom_some _ _ _ (.inl e)⟩
  have ekind : (callEnvC fd s'.heap.objs.size f).kindOf = fun n => (sScope s).names.lookup n := by subst hfd; rfl
  have ecells : (callEnvC fd s'.heap.objs.size f).cells = cellsFrom (s'.heap.objs.size + 1) (sScope s).names [] := by subst hfd; rfl
  have eloc : (callEnvC fd s'.heap.objs.size f).locals = s'.heap.objs.size := by subst hfd; rfl
  rw [ekind, ecells, eloc] at I₁
  obtain ⟨h₁, tk, rfl, _⟩ := I₁.done
  generalize hcs : cellsFrom (s'.heap.objs.size + 1) (sScope s).names [] = cs at I₁ ecells
  have csn : cs.map (·.1) = cellNames s := by rw [← hcs]; exact hcn _
  have sub₀ : ∀ b o, h₀.get? b = some o → (hideAll s'.heap (led.map (·.1))).get? b = some o := fun b o e => hideAll_get _ (hsub b o e) fun q => by
    obtain ⟨x, hx, rfl⟩ := List.mem_map.mp q
    rw [(hat x hx).2] at e; cases e
  obtain ⟨cells, NC, CA⟩ := Cl.news (h₀ := hideAll s'.heap (led.map (·.1))) (h := h₁) (L := s'.heap.objs.size) (cm := bindC (fun n => (sScope s).names.lookup n) ((fnNames s).zip args) fun _ => none) (Nat.le_of_eq (hideAll_size _ _)) (cs := cs)
    fun n c hm => ⟨I₁.cell n c (lookup_of_mem_nodup (by rw [csn]; exact h2) hm), I₁.above n c hm⟩
  have hcell : ∀ n ∈ cs.map (·.1), ROp (((fnNames s).zip as).lookup n) (bindC (fun n => (sScope s).names.lookup n) ((fnNames s).zip args) (fun _ => none) n) := fun n hn => by
    rw [csn] at hn
    have e := h3c n hn
    rw [bindC_at (by simp [e]) h1]
    have := zip_look (x := n) hargs (fnNames s)
    revert this
    cases ((fnNames s).zip args).lookup n <;> exact id
  obtain ⟨RC, KC⟩ := cells_led (p := prog) (w := w) (f := fun n => ((fnNames s).zip as).lookup n) CA hcell
  rw [csn, hcv] at RC
  let c : Cx := ⟨prog, w, KK w.params, A.deeper (callEnvC fd s'.heap.objs.size f), callEnvC fd s'.heap.objs.size f, hideAll s'.heap (led.map (·.1)), d⟩
  have ok : c.Ok := ⟨⟨fun a o e => sub₀ a o (X₀ a o e), p, loose, mg, mb, T.keeps sub₀⟩, ⟨hh, by show A.depth + 1 + d < _; lia, by show A.units + 3 + 8 * d + 100 < _; lia⟩, by show fd.scope.kind = _; rw [esc]; exact h7, by show fd.globals = _; subst hfd; rfl, by show fd.builtins = _; subst hfd; rfl⟩
  have hlt : ∀ p ∈ led, p.1 < s'.heap.objs.size := fun p hp => Heap.lt_size (hat p hp).1
  have hgt : ∀ p ∈ cells, s'.heap.objs.size < p.1 := fun p hp => by
    have : p.1 ∈ cs.map (·.2) := by rw [← KC]; exact List.mem_map_of_mem hp
    obtain ⟨q, hq, e⟩ := List.mem_map.mp this
    rw [← e]; exact I₁.above q.1 q.2 hq
  have I : Inv c [] h₁ lm (cellLed cv (cs.map (·.2)) ++ M) := by
    refine ⟨_, cells ++ led, ⟨I₁.toInCall.ns, fun b o e => I₁.toInCall.keep b o (of_hideAll _ e), Nat.le_of_eq (hideAll_size _ _)⟩, fun p hp => ?_, ?_, fun x a e => ?_, RC.append hled⟩
    · have hp : p ∈ cells ++ led := hp
      rcases List.mem_append.mp hp with hp | hp
      · exact NC p hp
      · exact ⟨I₁.toInCall.keep _ _ (hat p hp).1, Nat.ne_of_lt (hlt p hp), hideAll_none _ (List.mem_map_of_mem hp)⟩
    · show ((cells ++ led).map (·.1)).Nodup
      rw [List.map_append]
      refine List.nodup_append.mpr ⟨by rw [KC]; exact List.pairwise_map.mpr I₁.apart, hnd, fun x hx y hy e => ?_⟩
      obtain ⟨q, hq, rfl⟩ := List.mem_map.mp hx
      obtain ⟨r, hr, rfl⟩ := List.mem_map.mp hy
      have := hgt q hq; have := hlt r hr; exact absurd e (Nat.ne_of_gt (Nat.lt_trans (hlt r hr) (hgt q hq)))
    · rw [← hlm] at e
      have hx : (x, a) ∈ ((fnNames s).zip as).filter (fun p => (sScope s).names.lookup p.1 == some .local) := mem_of_lookup e
      obtain ⟨hm, hk⟩ := List.mem_filter.mp hx
      have e1 : ((fnNames s).zip as).lookup x = some a := look_mem (by rw [List.map_fst_zip (Nat.le_of_eq h4)]; exact h1) hm
      rw [bindL_at (by simpa using hk) h1]
      have := zip_look (x := x) hargs (fnNames s)
      rw [e1] at this
      revert this
      cases ((fnNames s).zip args).lookup x with
      | none => exact fun h => h.elim
      | some v => exact fun h => ⟨v, rfl, h⟩
  have fin : ∀ (a : MV) (v : Value) (lm' : Loc) (M' : Led) (s'' : Shared), RV a v → Inv c [] s''.heap lm' M' → Same { s' with heap := h₁, toks := tk } s'' → (∃ M₀, Less M' M₀ ∧ P a M₀) →
      ∃ v' a M' led', (Except.ok (Flow.ret v) : Result) = .ok (.ret v') ∧ RV a v' ∧ LedR prog w M' led' ∧ (∀ p ∈ led', s''.heap.get? p.1 = some p.2 ∧ (s'.heap.get? p.1 = none ∨ p.1 ∈ led.map (·.1))) ∧ (led'.map (·.1)).Nodup ∧
        (∀ b o, s'.heap.get? b = some o → b ∉ led.map (·.1) → s''.heap.get? b = some o) ∧ Same s' s'' ∧ P a M' := by
    rintro a v lm' M' s'' ha I' same ⟨M₀, less, hP⟩
    obtain ⟨m', led', F', N', nd', _, l2'⟩ := I'.less less
    refine ⟨v, a, M₀, led', rfl, ha, l2', fun p hp => ⟨(N' p hp).1, ?_⟩, nd', fun b o e hb => F'.keep b o (hideAll_get _ e hb), ⟨same.1, same.2.1, same.2.2⟩, hP⟩
    by_cases q : p.1 ∈ led.map (·.1)
    · exact .inr q
    · refine .inl ?_
      cases e : s'.heap.get? p.1 with
      | none => rfl
      | some o => have := (N' p hp).2.2; rw [show c.h₀.get? p.1 = some o from hideAll_get _ e q] at this; cases this
  have hlen : (cs.map (·.2)).length = cv.length := by rw [← hcv, List.length_map, List.length_map, ← csn, List.length_map]
  refine wpAny_mono (body c ⟨ok, rfl, esc, Nat.le_refl _⟩ rfl rfl rfl (cs.map (·.2)) hlen ?_ [] { s' with heap := h₁, toks := tk } I) (fun fl s'' hp => ?_) fun _ _ e => e.elim
  · show (callEnvC fd s'.heap.objs.size f).cells = _
    rw [ecells, ← hcv, List.map_map]
    show cs = (List.map (fun n => n) (cellNames s)).zip _
    rw [List.map_id', ← csn]
    exact zip_self cs
  cases fl with
  | next => obtain ⟨lm', M', I', same, hP⟩ := hp; exact fin _ _ lm' M' s'' .none I' same hP
  | ret v => obtain ⟨a, lm', M', ha, I', same, hP⟩ := hp; exact fin a v lm' M' s'' ha I' same hP
  | brk => exact hp.elim
  | cont => exact hp.elim

theorem does_fnC {prog : Program} {w : World} (f : Addr) (s : Stmt) {d : Nat} {as : List MV} {M : Led} {P : MV → Led → Prop} {oc : Value} {od : Option Addr} {osl : Array (Option Value)} {name qual : Str} {dV kV doc pm cdv ct : Value} {an : Option Addr} {lm : Loc} {cv : List (Str × Option MV)}
    (ho : (KK w.params).lookup f = some ⟨oc, od, .func (fnOf name qual (sArgs s) (sBody s) (sScope s) dV kV doc pm an cdv ct), osl⟩) (hcd : codeIn (KK w.params) cdv qual = true)
    (hb : ∀ vs : List Value, vs.length = as.length → bindArgs (fnOf name qual (sArgs s) (sBody s) (sScope s) dV kV doc pm an cdv ct) ⟨vs, []⟩ = pure ((fnNames s).zip vs))
    (hok : fnOkC s as.length = true) (hlm : ((fnNames s).zip as).filter (fun p => (sScope s).names.lookup p.1 == some .local) = lm) (hcv : (cellNames s).map (fun n => (n, ((fnNames s).zip as).lookup n)) = cv)
    (body : ∀ c : Cx, At c (sScope s) d → ∀ cs : List Addr, cs.length = cv.length → c.env.cells = (cv.map (·.1)).zip cs → Tf c (execs (sBody s) c.env) lm (cellLed cv cs ++ M) (PN P) (PR P)) : Does prog w (KK w.params) (.ref f) (d + 1) as M P := by
  intro A h₀ s' fv args led hroom hg hsub hsz hf hargs hled hat hnd
  cases hf
  exact runs_fnC f s ho hcd hb hok hlm hcv hroom hg hsub hsz hargs hled hat hnd fun c a _ _ _ => body c a
end Mine
end

section
open PySem PySem.W PySem.Calls PyProof.Rows
set_option Elab.async false
set_option maxRecDepth 100000
set_option linter.unusedVariables false
namespace Mine
noncomputable def relab (s0 sc : Scope) : Scope := { s0 with names := s0.names.map fun (n, k) => if (k == .free && sc.kind == .function && sc.names.lookup n == some .cell) then (n, .cell) else (n, k) }
theorem at_comp {c : Cx} {sc : Scope} {d : Nat} (a : At c sc d) {s0 : Scope} {cl : List (Str × Addr)} {C : Addr} {h₀ : Heap} (ok : (c.comp s0 cl C h₀).Ok) : At (c.comp s0 cl C h₀) (relab s0 sc) d :=
  ⟨ok, a.k, by show relabel s0 c.env = _; rw [← a.s]; rfl, a.d⟩
noncomputable def clo : List (Str × NameKind) → List (Str × Addr) → List (Str × Addr) → Option (List (Str × Addr))
  | [], _, acc => some acc
  | (n, k) :: r, cells, acc => if k == .free then (match cells.lookup n with | some a => clo r cells ((n, a) :: acc) | none => none) else clo r cells acc
theorem clo_ok {s0 : Scope} {env : Env} {cl cells : List (Str × Addr)} (hc : env.cells = cells) (h : clo s0.names cells [] = some cl) : closureFor s0 env = pure cl := by
  subst hc
  simp only [closureFor]
  suffices H : ∀ (names : List (Str × NameKind)) (acc : List (Str × Addr)), clo names env.cells acc = some cl → (forIn names acc fun x (r : List (Str × Addr)) =>
      if (x.2 == NameKind.free) = true then (do let y ← cellOf env x.1; pure (.yield ((x.1, y) :: r))) else pure (.yield r)) = (pure cl : Sem _) by
    have := H s0.names [] h
    simpa using this
  intro names
  induction names with
  | nil => intro acc h; unfold clo at h; cases h; rfl
  | cons x r ih =>
    intro acc h
    obtain ⟨n, k⟩ := x
    unfold clo at h
    rw [List.forIn_cons]
    by_cases hk : (k == NameKind.free) = true
    · simp only [hk, if_true] at h ⊢
      cases e : List.lookup n env.cells with
      | none => rw [e] at h; cases h
      | some a =>
        rw [e] at h
        have := ih _ h
        simp only [cellOf, e, pure_bind]
        exact this
    · rw [if_neg hk] at h
      simp only [hk, Bool.false_eq_true, if_false, pure_bind]
      exact ih _ h
section
variable {c : Cx} {sc : Scope} {d : Nat} {lm : Loc} {M : Led} {k : MV → Led → Prop} {ku : Loc → Led → Prop}
noncomputable def okC (sc : Scope) (x : Str) : Bool := sc.names.lookup x == some .cell && x != "__debug__"
/-- a name that a cell holds, read and stored -/
theorem r_cell (a : At c sc d) {cs : List (Str × Addr)} (hcs : c.env.cells = cs) {x : Str} {pos : Pos} {v : MV} {ca : Addr} (hx : okC sc x = true) (hc : cs.lookup x = some ca) (hm : (ca, MO.cell (some v)) ∈ M) (h : k v M) : Tv c (eval (.Name x pos) c.env) lm M k := by
  simp only [okC, Bool.and_eq_true, beq_iff_eq] at hx
  exact ev_cell a.ok (by rw [a.s]; exact hx.1) (debug_ne hx.2) (by rw [hcs]; exact hc) hm h
theorem s_cell (a : At c sc d) {cs : List (Str × Addr)} (hcs : c.env.cells = cs) {x : Str} {p : Pos} {v : MV} {ca : Addr} {old : Option MV} {M' : Led} (hx : okC sc x = true) (hc : cs.lookup x = some ca) (U : Up ca (.cell old) (.cell (some v)) M M') (h : ku lm M') : TA c (.Name x p) v lm M ku := by
  simp only [okC, Bool.and_eq_true, beq_iff_eq] at hx
  exact ta_cell a.ok (by rw [a.s]; exact hx.1) (by rw [hcs]; exact hc) U h
end
end Mine
end

section
open PySem PySem.W PySem.Calls PyProof.Rows
set_option Elab.async false
set_option maxRecDepth 100000
set_option linter.unusedVariables false
namespace Mine
section
variable {c : Cx} {sc : Scope} {d : Nat} {lm : Loc} {M : Led} {k : MV → Led → Prop}
/-! ### rows: lists that a list holds -/
abbrev Rows := List (Addr × List Int)
noncomputable def rowL (rs : Rows) : Led := rs.map fun r => (r.1, .lst (ilst r.2))
noncomputable def refs (rs : Rows) : List MV := rs.map fun r => .ref r.1
/-- a sign put behind the rows -/
noncomputable def pushR (p : List (List Int) × List Int) (c : Int) : List (List Int) × List Int := if c = 10 then (p.1 ++ [p.2], []) else (p.1, p.2 ++ [c])
noncomputable def rowsOf (cs : List Int) : List (List Int) × List Int := cs.foldl pushR ([], [])
theorem rowsOf_take {cs : List Int} {i : Nat} {x : Int} (h : cs[i]? = some x) : rowsOf (cs.take (i + 1)) = pushR (rowsOf (cs.take i)) x := by
  have hlt := (List.getElem?_eq_some_iff.mp h).1
  unfold rowsOf
  rw [List.take_add_one, h, List.foldl_append]; rfl
theorem refs_app (a b : Rows) : refs (a ++ b) = refs a ++ refs b := List.map_append
theorem rowL_app (a b : Rows) : rowL (a ++ b) = rowL a ++ rowL b := List.map_append
theorem refs_len (a : Rows) : (refs a).length = a.length := List.length_map _
theorem rows_end {p x : Addr × MO} {l : Addr × List Int} {rs : Rows} {M M2 : Led} (h : M.Perm (p :: M2)) : (p :: x :: (l.1, .lst (ilst l.2)) :: (rowL rs ++ M2)).Perm (x :: (rowL (rs ++ [l]) ++ M)) := by
  refine (List.Perm.swap _ _ _).trans (.cons _ ((List.Perm.swap _ _ _).trans ?_))
  rw [rowL_app, List.append_assoc]
  refine ((List.Perm.cons _ (List.perm_middle.symm.trans (h.symm.append_left _))).trans ?_)
  exact List.perm_middle.symm
theorem rows_next {q x : Addr × MO} {l : Addr × List Int} {rs : Rows} {M2 : Led} : (q :: x :: (l.1, .lst (ilst l.2)) :: (rowL rs ++ M2)).Perm (x :: q :: (rowL (rs ++ [l]) ++ M2)) := by
  refine (List.Perm.swap _ _ _).trans (.cons _ (.cons _ ?_))
  rw [rowL_app, List.append_assoc]
  exact List.perm_middle.symm
theorem d_rows_in {M : Led} {p : Addr} {cs : List Int} (hp : (p, MO.lst (ilst cs)) ∈ M) (hz : cs.length ≤ 1000) (prog : Program) (w : World) : Does prog w (KK w.params) (.ref 268) 1 [.ref p] M
    (fun r M' => ∃ q rs, r = .ref q ∧ M' = (q, .lst (refs rs)) :: (rowL rs ++ M) ∧ rs.map (·.2) = (rowsOf cs).1 ++ [(rowsOf cs).2]) := by
  refine does_fn 268 (fS 41) rfl (by kernel_rfl) (fun vs s' _ => bind1 rfl (fun v1 => by kernel_rfl) vs s') (by kernel_rfl) rfl fun c a => ?_
  refine st_cons ?_
  refine st_assign rfl rfl rfl ?_
  refine e_list ?_
  refine a_cons rfl ?_
  refine e_list ?_
  refine a_nil ?_
  refine ⟨Nat.le_of_ble_eq_true rfl, fun q1 => ?_⟩
  refine a_nil ?_
  refine ⟨Nat.le_of_ble_eq_true rfl, fun q2 => ?_⟩
  refine s_loc a 1 (by kernel_rfl) ?_
  refine st_cons ?_
  -- FOR
  obtain ⟨M2, hM⟩ := pick_of hp
  refine st_for (fun _ => rfl) ?_
  refine ti_list a.ok ?_
  refine r_loc a 0 (by kernel_rfl) rfl ?_
  refine ⟨p, ilst cs, (q2, .lst (refs ([] ++ [(q1, [])]))) :: (q1, .lst (ilst [])) :: (rowL [] ++ M2), rfl, .perm ?_, ?_⟩
  · exact (List.Perm.cons _ ((List.Perm.cons _ hM).trans (.swap _ _ _))).trans (.swap _ _ _)
  refine ⟨fun i lm' M' => ∃ rs l, lm' = [(Str.ofString "codes", .ref p), (Str.ofString "rows", .ref q2)] ∧ M' = (q2, .lst (refs (rs ++ [l]))) :: (l.1, .lst (ilst l.2)) :: (rowL rs ++ M2) ∧ (rs.map (·.2), l.2) = rowsOf (cs.take i) ∧ rs.length ≤ i ∧ l.2.length ≤ i, ⟨_, _, sub_cons 0 (by kernel_rfl) rfl (sub_cons 1 (by kernel_rfl) rfl sub_nil), .refl _, [], (q1, []), rfl, rfl, rfl, Nat.le_refl _, Nat.le_refl _⟩, fun i iv lm M' hi hJ => ?_, fun lm M' hJ => ?_⟩
  · obtain ⟨rs, l, e1, e2, e3, e4, e5⟩ := hJ
    subst e1 e2
    obtain ⟨n, hn, e⟩ := one_of hi
    subst e
    have hi2 : i < cs.length := (List.getElem?_eq_some_iff.mp hn).1
    refine ti_one ?_
    refine s_loc a 2 (by kernel_rfl) ?_
    refine st_cons ?_
    refine st_if ?_
    refine tb_compare1 rfl ?_
    refine r_loc a 2 (by kernel_rfl) rfl ?_
    refine r_gint a 10 542 (by kernel_rfl) ?_
    refine cmp_eq ?_
    refine ⟨_, rfl, fun hb => ?_, fun hb => ?_⟩
    · replace hb := of_decide_eq_true hb
      refine st_cons ?_
      refine st_expr a.ok rfl ?_
      refine c_append a rfl rfl ?_
      refine r_loc a 1 (by kernel_rfl) rfl ?_
      refine ⟨_, _, rfl, by trivial, ?_⟩
      refine a_cons rfl ?_
      refine e_list ?_
      refine a_nil ?_
      refine ⟨Nat.le_of_ble_eq_true rfl, fun q3 => ?_⟩
      refine a_nil ?_
      refine tc_append (.tail .head) (by rw [refs_len, List.length_append]; exact szOk (show rs.length + 1 + 1 ≤ 10000 by lia)) ?_
      refine st_nil ?_
      refine st_nil ?_
      refine ⟨_, _, sub_cons 0 (by kernel_rfl) rfl (sub_cons 1 (by kernel_rfl) rfl sub_nil), .perm rows_next, rs ++ [l], (q3, []), rfl, ?_, ?_, by rw [List.length_append]; exact Nat.succ_le_succ e4, Nat.zero_le _⟩
      · rw [refs_app (rs ++ [l])]; rfl
      · rw [rowsOf_take hn, ← e3, hb, List.map_append]; rfl
    · replace hb := of_decide_eq_false hb
      refine st_cons ?_
      refine st_expr a.ok rfl ?_
      refine c_append a rfl rfl ?_
      refine ev_index ?_
      refine r_loc a 1 (by kernel_rfl) rfl ?_
      refine ev_binop ?_
      refine c_blt a "len" (by kernel_rfl) rfl ?_
      refine a_cons rfl ?_
      refine r_loc a 1 (by kernel_rfl) rfl ?_
      refine a_nil ?_
      refine tc_len (by trivial) ?_
      refine ev_int ?_
      refine bin_sub ?_
      refine sub_lst (.head _) (x := .ref l.1) (item_ref (by rw [refs_len, List.length_append]; show (0 : Int) ≤ ((rs.length + 1 : Nat) : Int) - 1; lia) ?_) ?_ (fun _ => rfl)
      · have e : (((refs (rs ++ [l])).length : Int) - 1).toNat = (refs rs).length := by rw [refs_len, refs_len, List.length_append]; show (((rs.length + 1 : Nat) : Int) - 1).toNat = _; lia
        rw [e, refs_app, List.getElem?_append_right (Nat.le_refl _), Nat.sub_self]; rfl
      refine ⟨_, _, rfl, .tail _ (.head _), ?_⟩
      refine a_cons rfl ?_
      refine r_loc a 2 (by kernel_rfl) rfl ?_
      refine a_nil ?_
      refine tc_append (.tail .head) (by rw [ilst_len]; exact szOk (show l.2.length + 1 ≤ 10000 by lia)) ?_
      rw [show ilst l.2 ++ [MV.int n] = ilst (l.2 ++ [n]) by rw [← ilst_app]; rfl]
      refine st_nil ?_
      refine st_nil ?_
      refine ⟨_, _, sub_cons 0 (by kernel_rfl) rfl (sub_cons 1 (by kernel_rfl) rfl sub_nil), .refl _, rs, (l.1, l.2 ++ [n]), rfl, ?_, ?_, Nat.le_succ_of_le e4, by rw [List.length_append]; exact Nat.succ_le_succ e5⟩
      · rw [refs_app, refs_app]; rfl
      · rw [rowsOf_take hn, ← e3]; unfold pushR; rw [if_neg hb]
  · obtain ⟨rs, l, e1, e2, e3, e4, e5⟩ := hJ
    subst e1 e2
    refine st_cons ?_
    refine st_ret ?_
    refine r_loc a 1 (by kernel_rfl) rfl ?_
    refine ⟨_, .perm (rows_end hM), q2, rs ++ [l], rfl, rfl, ?_⟩
    have e3 : (rs.map (·.2), l.2) = rowsOf cs := e3.trans (congrArg rowsOf (List.take_of_length_le (by simp [ilst])))
    rw [← e3, List.map_append]; rfl
theorem k_rows_in (a : At c sc d) {p : Addr} {cs : List Int} (hd : 1 ≤ d) (hp : (p, MO.lst (ilst cs)) ∈ M) (hz : cs.length ≤ 1000)
    (h : ∀ q rs, rs.map (·.2) = (rowsOf cs).1 ++ [(rowsOf cs).2] → k (.ref q) ((q, .lst (refs rs)) :: (rowL rs ++ M))) : TC c (.ref 268) [.ref p] lm M k :=
  use' a (fun p w => d_rows_in hp hz p w) hd fun _ _ zz => by obtain ⟨q, rs, e, e', hx⟩ := zz; subst e e'; exact h q rs hx
end
end Mine
end

section
open PySem PySem.W PySem.Calls PyProof.Rows
set_option Elab.async false
set_option maxRecDepth 100000
set_option linter.unusedVariables false
namespace Mine
section
variable {c : Cx} {sc : Scope} {d : Nat} {lm : Loc} {M : Led} {k : MV → Led → Prop}
theorem lsAt_le (t : List Int) : ∀ i, lsAt t i ≤ i
  | 0 => Nat.le_refl _
  | i + 1 => by unfold lsAt; split; exact Nat.le_refl _; exact Nat.le_succ_of_le (lsAt_le t i)
theorem leAt_ge (t : List Int) : ∀ i n, i ≤ leAt t i n ∧ leAt t i n ≤ i + n
  | i, 0 => ⟨Nat.le_refl _, Nat.le_refl _⟩
  | i, n + 1 => by
    unfold leAt; split
    · exact ⟨Nat.le_refl _, Nat.le_add_right _ _⟩
    · have := leAt_ge t (i + 1) n; lia
theorem less_first {M X : Led} : Less (M ++ X) M := ⟨X, .refl _⟩
theorem less_nil {M : Led} : Less M (M ++ []) := .perm (by rw [List.append_nil])
theorem k_line_start (a : At c sc d) {B : Buf} {i : Nat} {X : Led} (hd : 3 ≤ d) (ok : B.Ok) (hi : i ≤ B.g.text.length) (p : Less M (bufL B ++ X)) (h : k (.int ((lsAt B.g.text i : Nat) + 1)) (bufL B ++ X)) : TC c (.ref 149) [.ref B.b, .int ((i : Int) + 1)] lm M k :=
  use a (fun p w => d_line_start ok hi p w) hd p fun _ _ zz => by obtain ⟨e, e'⟩ := zz; subst e e'; exact h
theorem k_line_end (a : At c sc d) {B : Buf} {i : Nat} {X : Led} (hd : 3 ≤ d) (ok : B.Ok) (hi : i ≤ B.g.text.length) (p : Less M (bufL B ++ X)) (h : k (.int ((leAt B.g.text i (B.g.text.length - i) : Nat) + 1)) (bufL B ++ X)) : TC c (.ref 156) [.ref B.b, .int ((i : Int) + 1)] lm M k :=
  use a (fun p w => d_line_end ok hi p w) hd p fun _ _ zz => by obtain ⟨e, e'⟩ := zz; subst e e'; exact h
theorem seg_len {t : List Int} {i j : Nat} (hij : i ≤ j) (hj : j ≤ t.length) : (seg t i j).length = j - i := by
  unfold seg; rw [List.length_take, List.length_drop]; lia
theorem not_seg {x : Int} {t : List Int} {i j : Nat} (h : x ∉ t) : x ∉ seg t i j := fun q => h (List.mem_of_mem_drop (List.mem_of_mem_take q))
theorem d_column_of {B : Buf} {i : Nat} (ok : B.Ok) (hi : i ≤ B.g.text.length) (h9 : (9 : Int) ∉ B.g.text) (prog : Program) (w : World) : Does prog w (KK w.params) (.ref 275) 4 [.ref B.b, .int ((i : Int) + 1), .int 8] (bufL B) (fun r M' => r = .int ((i - lsAt B.g.text i : Nat)) ∧ M' = bufL B) := by
  refine does_fn 275 (fS 42) rfl (by kernel_rfl) (fun vs s' _ => bind3 rfl (fun v1 v2 v3 => by kernel_rfl) vs s') (by kernel_rfl) rfl fun c a => ?_
  refine st_cons ?_
  refine st_assign rfl rfl rfl ?_
  refine c_ref a 149 (by kernel_rfl) rfl ?_
  refine a_cons rfl ?_
  refine r_loc a 0 (by kernel_rfl) rfl ?_
  refine a_cons rfl ?_
  refine r_loc a 1 (by kernel_rfl) rfl ?_
  refine a_nil ?_
  refine k_line_start a (X := []) (by lia) ok hi less_nil ?_
  rw [List.append_nil]
  have hle := lsAt_le B.g.text i
  refine s_loc a 3 (by kernel_rfl) ?_
  refine st_cons ?_
  refine st_ret ?_
  refine c_ref a 170 (by kernel_rfl) rfl ?_
  refine a_cons rfl ?_
  refine c_meth a 661 623 rfl rfl (by kernel_rfl) ?_
  refine r_loc a 0 (by kernel_rfl) rfl ?_
  refine ⟨_, _, _, rfl, by trivial, by trivial, by kernel_rfl, ?_⟩
  refine a_cons rfl ?_
  refine r_loc a 3 (by kernel_rfl) rfl ?_
  refine a_cons rfl ?_
  refine r_loc a 1 (by kernel_rfl) rfl ?_
  refine a_nil ?_
  refine k_bcodes a (X := []) (by lia) ok hle less_nil fun q => ?_
  rw [List.append_nil]
  refine a_cons rfl ?_
  refine ev_binop ?_
  refine r_loc a 1 (by kernel_rfl) rfl ?_
  refine r_loc a 3 (by kernel_rfl) rfl ?_
  refine bin_sub ?_
  refine a_cons rfl ?_
  refine r_loc a 2 (by kernel_rfl) rfl ?_
  refine a_nil ?_
  refine k_column_at a (Nat.le_of_ble_eq_true rfl) (.head _) (by lia) (not_seg h9) ?_
  refine ⟨_, .skip (.refl _), ?_, rfl⟩
  rw [List.length_take, seg_len hle hi]; congr 1; lia
theorem k_column_of (a : At c sc d) {B : Buf} {i : Nat} {X : Led} (hd : 4 ≤ d) (ok : B.Ok) (hi : i ≤ B.g.text.length) (h9 : (9 : Int) ∉ B.g.text) (p : Less M (bufL B ++ X)) (h : k (.int ((i - lsAt B.g.text i : Nat))) (bufL B ++ X)) : TC c (.ref 275) [.ref B.b, .int ((i : Int) + 1), .int 8] lm M k :=
  use a (fun p w => d_column_of ok hi h9 p w) hd p fun _ _ zz => by obtain ⟨e, e'⟩ := zz; subst e e'; exact h
noncomputable def spanF (lo hi : MV) (q : Addr) (f l : MV) : List (Str × MV) := [(Str.ofString "low", lo), (Str.ofString "high", hi), (Str.ofString "rows", .ref q), (Str.ofString "first", f), (Str.ofString "last", l)]
theorem d_Span {M : Led} {lo hi f l : MV} {q : Addr} (prog : Program) (w : World) : Does prog w (KK w.params) (.ref 257) 2 [lo, hi, .ref q, f, l] M (fun r M' => ∃ x dx, r = .ref x ∧ M' = (x, .inst 257 dx) :: (dx, .flds (spanF lo hi q f l)) :: M) := by
  refine makes 257 254 (by kernel_rfl) fun x dx => ?_
  refine does_fn 254 (cS 40 0) rfl (by kernel_rfl) (fun vs s' _ => bind6 rfl (fun v1 v2 v3 v4 v5 v6 => by kernel_rfl) vs s') (by kernel_rfl) rfl fun c a => ?_
  refine st_cons ?_
  refine st_assign rfl rfl rfl ?_
  refine r_loc a 1 (by kernel_rfl) rfl ?_
  refine ta_attr ?_
  refine r_loc a 0 (by kernel_rfl) rfl ?_
  refine s_field a 257 0 (by kernel_rfl) (by trivial) (by decreasing_tactic) (by kernel_rfl) ?_
  refine st_cons ?_
  refine st_assign rfl rfl rfl ?_
  refine r_loc a 2 (by kernel_rfl) rfl ?_
  refine ta_attr ?_
  refine r_loc a 0 (by kernel_rfl) rfl ?_
  refine s_field a 257 1 (by kernel_rfl) (by trivial) (by decreasing_tactic) (by kernel_rfl) ?_
  refine st_cons ?_
  refine st_assign rfl rfl rfl ?_
  refine r_loc a 3 (by kernel_rfl) rfl ?_
  refine ta_attr ?_
  refine r_loc a 0 (by kernel_rfl) rfl ?_
  refine s_field a 257 2 (by kernel_rfl) (by trivial) (by decreasing_tactic) (by kernel_rfl) ?_
  refine st_cons ?_
  refine st_assign rfl rfl rfl ?_
  refine r_loc a 4 (by kernel_rfl) rfl ?_
  refine ta_attr ?_
  refine r_loc a 0 (by kernel_rfl) rfl ?_
  refine s_field a 257 3 (by kernel_rfl) (by trivial) (by decreasing_tactic) (by kernel_rfl) ?_
  refine st_cons ?_
  refine st_assign rfl rfl rfl ?_
  refine r_loc a 5 (by kernel_rfl) rfl ?_
  refine ta_attr ?_
  refine r_loc a 0 (by kernel_rfl) rfl ?_
  refine s_field a 257 4 (by kernel_rfl) (by trivial) (by decreasing_tactic) (by kernel_rfl) ?_
  refine st_nil ?_
  exact ⟨_, .refl _, rfl, x, dx, rfl, rfl⟩
theorem sorted2 {ns : List Int} {x y : Int} (hp : ns.Perm [x, y]) (hs : ns.Pairwise (· ≤ ·)) : ns = [min x y, max x y] := by
  refine sorted_uniq (hp.trans ?_) hs (by simp; lia)
  by_cases h : x ≤ y
  · rw [show min x y = x by lia, show max x y = y by lia]
  · rw [show min x y = y by lia, show max x y = x by lia]; exact .swap _ _ _
/-- where a span's rows begin and end, its first and last column -/
noncomputable def spL (t : List Int) (i j : Nat) : Nat := lsAt t (min i j)
noncomputable def spH (t : List Int) (i j : Nat) : Nat := leAt t (max i j) (t.length - max i j)
noncomputable def spA (t : List Int) (i j : Nat) : Nat := min (min i j - lsAt t (min i j)) (max i j - lsAt t (max i j))
noncomputable def spZ (t : List Int) (i j : Nat) : Nat := max (min i j - lsAt t (min i j)) (max i j - lsAt t (max i j))
noncomputable def allRows (cs : List Int) : List (List Int) := (rowsOf cs).1 ++ [(rowsOf cs).2]
theorem d_span_of {B : Buf} {i j : Nat} (ok : B.Ok) (hi : i ≤ B.g.text.length) (hj : j ≤ B.g.text.length) (h9 : (9 : Int) ∉ B.g.text) (hz : B.g.text.length ≤ 1000) (prog : Program) (w : World) : Does prog w (KK w.params) (.ref 282) 5 [.ref B.b, .int ((i : Int) + 1), .int ((j : Int) + 1), .int 8] (bufL B)
    (fun r M' => ∃ sp sd q rs, r = .ref sp ∧ M' = (sp, .inst 257 sd) :: (sd, .flds (spanF (.int ((spL B.g.text i j : Nat) + 1)) (.int ((spH B.g.text i j : Nat) + 1)) q (.int (spA B.g.text i j : Nat)) (.int (spZ B.g.text i j : Nat)))) :: (q, .lst (refs rs)) :: (rowL rs ++ bufL B) ∧
      rs.map (·.2) = allRows (seg B.g.text (spL B.g.text i j) (spH B.g.text i j))) := by
  refine does_fn 282 (fS 43) rfl (by kernel_rfl) (fun vs s' _ => bind4 rfl (fun v1 v2 v3 v4 => by kernel_rfl) vs s') (by kernel_rfl) rfl fun c a => ?_
  have hzv := ok.zv
  refine st_cons ?_
  refine st_assign rfl rfl rfl ?_
  refine c_ref a 62 (by kernel_rfl) rfl ?_
  refine a_cons rfl ?_
  refine r_loc a 0 (by kernel_rfl) rfl ?_
  refine a_cons rfl ?_
  refine r_loc a 1 (by kernel_rfl) rfl ?_
  refine a_cons rfl ?_
  refine r_loc a 2 (by kernel_rfl) rfl ?_
  refine a_nil ?_
  refine k_reached a (X := []) (by lia) ok (by lia) (by lia) less_nil fun t => ?_
  rw [List.append_nil, show min ((i : Int) + 1) ((j : Int) + 1) = ((min i j : Nat) : Int) + 1 by lia, show max ((i : Int) + 1) ((j : Int) + 1) = ((max i j : Nat) : Int) + 1 by lia]
  refine ta_tuple a.ok rfl (.head _) rfl ?_
  refine tas_cons ?_
  refine s_loc a 4 (by kernel_rfl) ?_
  refine tas_cons ?_
  refine s_loc a 5 (by kernel_rfl) ?_
  refine tas_nil ?_
  refine Tf.less (M₀ := bufL B) (.skip (.refl _)) ?_
  refine st_cons ?_
  refine st_assign_swap a.ok rfl (swap_of a (r := some [Str.ofString "low", Str.ofString "high"]) fun e => by kernel_rfl) ?_
  refine e_tuple ?_
  refine a_cons rfl ?_
  refine c_ref a 149 (by kernel_rfl) rfl ?_
  refine a_cons rfl ?_
  refine r_loc a 0 (by kernel_rfl) rfl ?_
  refine a_cons rfl ?_
  refine r_loc a 4 (by kernel_rfl) rfl ?_
  refine a_nil ?_
  refine k_line_start a (X := []) (by lia) ok (by lia) less_nil ?_
  rw [List.append_nil]
  refine a_cons rfl ?_
  refine c_ref a 156 (by kernel_rfl) rfl ?_
  refine a_cons rfl ?_
  refine r_loc a 0 (by kernel_rfl) rfl ?_
  refine a_cons rfl ?_
  refine r_loc a 5 (by kernel_rfl) rfl ?_
  refine a_nil ?_
  refine k_line_end a (X := []) (by lia) ok (by lia) less_nil ?_
  rw [List.append_nil]
  refine a_nil ?_
  refine ⟨Nat.le_of_ble_eq_true rfl, fun q1 => ?_⟩
  refine ⟨_, _, rfl, by trivial, rfl, ?_⟩
  refine s_swap a 6 (by kernel_rfl) ?_
  refine s_swap a 7 (by kernel_rfl) ?_
  refine tbs_nil ?_
  refine Tf.less (M₀ := bufL B) (.skip (.refl _)) ?_
  refine st_cons ?_
  refine st_assign rfl rfl rfl ?_
  refine c_blt a "sorted" (by kernel_rfl) rfl ?_
  refine a_cons rfl ?_
  refine e_list ?_
  refine a_cons rfl ?_
  refine c_ref a 275 (by kernel_rfl) rfl ?_
  refine a_cons rfl ?_
  refine r_loc a 0 (by kernel_rfl) rfl ?_
  refine a_cons rfl ?_
  refine r_loc a 4 (by kernel_rfl) rfl ?_
  refine a_cons rfl ?_
  refine r_loc a 3 (by kernel_rfl) rfl ?_
  refine a_nil ?_
  refine k_column_of a (X := []) (by lia) ok (by lia) h9 less_nil ?_
  rw [List.append_nil]
  refine a_cons rfl ?_
  refine c_ref a 275 (by kernel_rfl) rfl ?_
  refine a_cons rfl ?_
  refine r_loc a 0 (by kernel_rfl) rfl ?_
  refine a_cons rfl ?_
  refine r_loc a 5 (by kernel_rfl) rfl ?_
  refine a_cons rfl ?_
  refine r_loc a 3 (by kernel_rfl) rfl ?_
  refine a_nil ?_
  refine k_column_of a (X := []) (by lia) ok (by lia) h9 less_nil ?_
  rw [List.append_nil]
  refine a_nil ?_
  refine ⟨Nat.le_of_ble_eq_true rfl, fun q2 => ?_⟩
  refine a_nil ?_
  refine tc_sorted (ns := [((min i j - lsAt B.g.text (min i j) : Nat) : Int), ((max i j - lsAt B.g.text (max i j) : Nat) : Int)]) (.head _) (Nat.le_of_ble_eq_true rfl) fun q3 ns hp hs => ?_
  rw [sorted2 hp hs]
  refine s_loc a 8 (by kernel_rfl) ?_
  refine Tf.less (M₀ := (q3, .lst (ilst [min ((min i j - lsAt B.g.text (min i j) : Nat) : Int) ((max i j - lsAt B.g.text (max i j) : Nat) : Int), max ((min i j - lsAt B.g.text (min i j) : Nat) : Int) ((max i j - lsAt B.g.text (max i j) : Nat) : Int)])) :: bufL B) (.cons (.skip (.refl _))) ?_
  refine st_cons ?_
  refine st_ret ?_
  refine c_ref a 257 (by kernel_rfl) rfl ?_
  refine a_cons rfl ?_
  refine r_loc a 7 (by kernel_rfl) rfl ?_
  refine a_cons rfl ?_
  refine r_loc a 6 (by kernel_rfl) rfl ?_
  refine a_cons rfl ?_
  refine c_ref a 268 (by kernel_rfl) rfl ?_
  refine a_cons rfl ?_
  refine c_meth a 661 623 rfl rfl (by kernel_rfl) ?_
  refine r_loc a 0 (by kernel_rfl) rfl ?_
  refine ⟨_, _, _, rfl, by trivial, by trivial, by kernel_rfl, ?_⟩
  refine a_cons rfl ?_
  refine r_loc a 7 (by kernel_rfl) rfl ?_
  refine a_cons rfl ?_
  refine r_loc a 6 (by kernel_rfl) rfl ?_
  refine a_nil ?_
  have hLH : lsAt B.g.text (min i j) ≤ leAt B.g.text (max i j) (B.g.text.length - max i j) := by
    have := lsAt_le B.g.text (min i j); have := (leAt_ge B.g.text (max i j) (B.g.text.length - max i j)).1; lia
  have hHn : leAt B.g.text (max i j) (B.g.text.length - max i j) ≤ B.g.text.length := by
    have := (leAt_ge B.g.text (max i j) (B.g.text.length - max i j)).2; lia
  refine k_bcodes a (Nat.le_of_ble_eq_true rfl) ok hLH .last fun q => ?_
  refine a_nil ?_
  refine k_rows_in a (Nat.le_of_ble_eq_true rfl) (.head _) (by rw [seg_len hLH hHn]; lia) fun q5 rs hrs => ?_
  refine a_cons rfl ?_
  refine ev_index ?_
  refine r_loc a 8 (by kernel_rfl) rfl ?_
  refine ev_int ?_
  refine sub_lst (.tail _ (List.mem_append_right _ (List.mem_append_right _ (.head _)))) (item_at _ (by lia) rfl) ?_ (fun _ => rfl)
  refine a_cons rfl ?_
  refine ev_index ?_
  refine r_loc a 8 (by kernel_rfl) rfl ?_
  refine ev_int ?_
  refine sub_lst (.tail _ (List.mem_append_right _ (List.mem_append_right _ (.head _)))) (item_at _ (by lia) rfl) ?_ (fun _ => rfl)
  refine a_nil ?_
  refine use' a (fun p w => d_Span p w) (by lia) fun _ _ zz => ?_
  obtain ⟨sp, sd, e, e'⟩ := zz
  subst e e'
  refine ⟨_, .cons (.cons (.cons (.app (.skip less_first)))), sp, sd, q5, rs, rfl, ?_, hrs⟩
  have e1 : min ((min i j - lsAt B.g.text (min i j) : Nat) : Int) ((max i j - lsAt B.g.text (max i j) : Nat) : Int) = ((spA B.g.text i j : Nat) : Int) := by unfold spA; lia
  have e2 : max ((min i j - lsAt B.g.text (min i j) : Nat) : Int) ((max i j - lsAt B.g.text (max i j) : Nat) : Int) = ((spZ B.g.text i j : Nat) : Int) := by unfold spZ; lia
  rw [e1, e2]; rfl
end
end Mine
end

section
open PySem PySem.W PySem.Calls PyProof.Rows
set_option Elab.async false
set_option maxRecDepth 100000
set_option linter.unusedVariables false
namespace Mine
section
variable {c : Cx} {sc : Scope} {d : Nat} {lm : Loc} {M : Led} {k : MV → Led → Prop}
theorem k_replace (a : At c sc d) {B : Buf} {i j : Nat} {q : Addr} {cs : List Int} {X : Led} (hd : 6 ≤ d) (ok : B.Ok) (hij : i ≤ j) (hj : j ≤ B.g.text.length) (hn : cs.length ≤ 200) (hz : B.g.cells.length + cs.length + 8 ≤ 5000) (p : Less M ((q, .lst (ilst cs)) :: bufL B ++ X))
    (h : ∀ r B', B.To B' (B.g.text.take i ++ cs ++ B.g.text.drop j) (B.g.cells.length + cs.length + 8) (fEd ((i : Int) + 1) ((j : Int) + 1) cs.length B.pt) (fEd ((i : Int) + 1) ((j : Int) + 1) cs.length) → k r ((q, .lst (ilst cs)) :: bufL B' ++ X)) :
    TC c (.ref 142) [.ref B.b, .int ((i : Int) + 1), .int ((j : Int) + 1), .ref q] lm M k :=
  use a (fun p w => d_replace ok hij hj hn hz p w) hd p fun r _ zz => by obtain ⟨B', e, hx⟩ := zz; subst e; exact h r B' hx
theorem k_common_many (a : At c sc d) {p q : Addr} {xs ys : List Int} {most : Nat} (hd : 1 ≤ d) (hp : (p, MO.lst (ilst xs)) ∈ M) (hq : (q, MO.lst (ilst ys)) ∈ M) (h : k (.int (cm xs ys most : Nat)) M) : TC c (.ref 289) [.ref p, .ref q, .int most] lm M k :=
  use' a (fun p w => d_common_many hp hq p w) hd fun _ _ zz => by obtain ⟨e, e'⟩ := zz; subst e e'; exact h
theorem cm_le : ∀ (xs ys : List Int) (n : Nat), cm xs ys n ≤ xs.length ∧ cm xs ys n ≤ ys.length ∧ cm xs ys n ≤ n
  | x :: xs, y :: ys, n + 1 => by
    unfold cm
    split
    · have := cm_le xs ys n; simp only [List.length_cons]; lia
    · exact ⟨Nat.zero_le _, Nat.zero_le _, Nat.zero_le _⟩
  | [], ys, n => by cases ys <;> cases n <;> exact ⟨Nat.zero_le _, Nat.zero_le _, Nat.zero_le _⟩
  | _ :: _, [], n => by cases n <;> exact ⟨Nat.zero_le _, Nat.zero_le _, Nat.zero_le _⟩
  | _ :: _, _ :: _, 0 => ⟨Nat.zero_le _, Nat.zero_le _, Nat.zero_le _⟩
/-- how much of a row's end stays, and what is put between -/
noncomputable def prL (xs ys : List Int) (f be : Nat) : Nat := cm (xs.drop f).reverse (ys.drop f).reverse be
theorem prL_le {xs ys : List Int} {f be : Nat} (h1 : f ≤ xs.length) (h2 : f ≤ ys.length) : f + prL xs ys f be ≤ xs.length ∧ f + prL xs ys f be ≤ ys.length := by
  have := cm_le (xs.drop f).reverse (ys.drop f).reverse be
  rw [List.length_reverse, List.length_reverse, List.length_drop, List.length_drop] at this
  unfold prL; lia
theorem ilst_rev (xs : List Int) : (ilst xs).reverse = ilst xs.reverse := List.map_reverse.symm
theorem d_put_row {B : Buf} {X : Led} {b ah be : Nat} {p q : Addr} {xs ys : List Int} (f l : Nat) (hf : cm xs ys ah = f) (hl : prL xs ys f be = l) (ok : B.Ok) (hp : (p, MO.lst (ilst xs)) ∈ X) (hq : (q, MO.lst (ilst ys)) ∈ X) (hb : b + xs.length ≤ B.g.text.length) (hy : ys.length ≤ 200) (hz : B.g.cells.length + 208 ≤ 5000) (prog : Program) (w : World) :
    Does prog w (KK w.params) (.ref 296) 7 [.ref B.b, .int ((b : Int) + 1), .ref p, .ref q, .int ah, .int be] (bufL B ++ X) (fun _ M' => ∃ B', M' = bufL B' ++ X ∧ B.To B' (B.g.text.take (b + f) ++ seg ys f (ys.length - l) ++ B.g.text.drop (b + (xs.length - l))) (B.g.cells.length + 208)
      (fEd (((b + f : Nat) : Int) + 1) (((b + (xs.length - l) : Nat) : Int) + 1) (seg ys f (ys.length - l)).length B.pt) (fEd (((b + f : Nat) : Int) + 1) (((b + (xs.length - l) : Nat) : Int) + 1) (seg ys f (ys.length - l)).length)) := by
  refine does_fn 296 (fS 45) rfl (by kernel_rfl) (fun vs s' _ => bind6 rfl (fun v1 v2 v3 v4 v5 v6 => by kernel_rfl) vs s') (by kernel_rfl) rfl fun c a => ?_
  have hp2 : (p, MO.lst (ilst xs)) ∈ bufL B ++ X := List.mem_append_right _ hp
  have hq2 : (q, MO.lst (ilst ys)) ∈ bufL B ++ X := List.mem_append_right _ hq
  have c1 := cm_le xs ys ah
  rw [hf] at c1
  have c2 := prL_le (be := be) c1.1 c1.2.1
  rw [hl] at c2
  refine st_cons ?_
  refine st_assign rfl rfl rfl ?_
  refine c_ref a 289 (by kernel_rfl) rfl ?_
  refine a_cons rfl ?_
  refine r_loc a 2 (by kernel_rfl) rfl ?_
  refine a_cons rfl ?_
  refine r_loc a 3 (by kernel_rfl) rfl ?_
  refine a_cons rfl ?_
  refine r_loc a 4 (by kernel_rfl) rfl ?_
  refine a_nil ?_
  refine k_common_many a (Nat.le_of_ble_eq_true rfl) hp2 hq2 ?_
  rw [hf]
  refine s_loc a 6 (by kernel_rfl) ?_
  refine st_cons ?_
  refine st_assign rfl rfl rfl ?_
  refine c_ref a 289 (by kernel_rfl) rfl ?_
  refine a_cons rfl ?_
  refine ev_reversed ?_
  refine ev_slice ?_
  refine r_loc a 2 (by kernel_rfl) rfl ?_
  refine part_some ?_
  refine r_loc a 6 (by kernel_rfl) rfl ?_
  refine part_none ?_
  refine ⟨_, _, _, _, rfl, by trivial, rfl, rfl, fun q1 => ?_⟩
  rw [cut_from xs (Int.natCast_nonneg f), Int.toNat_natCast]
  refine ⟨_, _, rfl, .head _, fun q2 => ?_⟩
  rw [ilst_rev]
  refine a_cons rfl ?_
  refine ev_reversed ?_
  refine ev_slice ?_
  refine r_loc a 3 (by kernel_rfl) rfl ?_
  refine part_some ?_
  refine r_loc a 6 (by kernel_rfl) rfl ?_
  refine part_none ?_
  refine ⟨_, _, _, _, rfl, by trivial, rfl, rfl, fun q3 => ?_⟩
  rw [cut_from ys (Int.natCast_nonneg f), Int.toNat_natCast]
  refine ⟨_, _, rfl, .head _, fun q4 => ?_⟩
  rw [ilst_rev]
  refine a_cons rfl ?_
  refine r_loc a 5 (by kernel_rfl) rfl ?_
  refine a_nil ?_
  refine k_common_many a (Nat.le_of_ble_eq_true rfl) (.tail _ (.tail _ (.head _))) (.head _) ?_
  rw [show cm (xs.drop f).reverse (ys.drop f).reverse be = l from hl]
  refine s_loc a 7 (by kernel_rfl) ?_
  refine Tf.less (M₀ := bufL B ++ X) (.skip (.skip (.skip (.skip (.refl _))))) ?_
  refine st_cons ?_
  refine st_expr a.ok rfl ?_
  refine c_ref a 142 (by kernel_rfl) rfl ?_
  refine a_cons rfl ?_
  refine r_loc a 0 (by kernel_rfl) rfl ?_
  refine a_cons rfl ?_
  refine ev_binop ?_
  refine r_loc a 1 (by kernel_rfl) rfl ?_
  refine r_loc a 6 (by kernel_rfl) rfl ?_
  refine bin_add ?_
  refine a_cons rfl ?_
  refine ev_binop ?_
  refine ev_binop ?_
  refine r_loc a 1 (by kernel_rfl) rfl ?_
  refine c_blt a "len" (by kernel_rfl) rfl ?_
  refine a_cons rfl ?_
  refine r_loc a 2 (by kernel_rfl) rfl ?_
  refine a_nil ?_
  refine tc_len hp2 ?_
  refine bin_add ?_
  refine r_loc a 7 (by kernel_rfl) rfl ?_
  refine bin_sub ?_
  refine a_cons rfl ?_
  refine ev_slice ?_
  refine r_loc a 3 (by kernel_rfl) rfl ?_
  refine part_some ?_
  refine r_loc a 6 (by kernel_rfl) rfl ?_
  refine part_some ?_
  refine ev_binop ?_
  refine c_blt a "len" (by kernel_rfl) rfl ?_
  refine a_cons rfl ?_
  refine r_loc a 3 (by kernel_rfl) rfl ?_
  refine a_nil ?_
  refine tc_len hq2 ?_
  refine r_loc a 7 (by kernel_rfl) rfl ?_
  refine bin_sub ?_
  refine ⟨_, _, _, _, rfl, hq2, rfl, rfl, fun q5 => ?_⟩
  rw [cut_nat ys f (ys.length - l) rfl (by rw [ilst_len]; lia) (by lia), ilst_len]
  refine a_nil ?_
  have hs : (seg ys f (ys.length - l)).length = ys.length - l - f := seg_len (by lia) (by lia)
  rw [show (b : Int) + 1 + (f : Int) = ((b + f : Nat) : Int) + 1 by lia, show (b : Int) + 1 + (xs.length : Int) - (l : Int) = ((b + (xs.length - l) : Nat) : Int) + 1 by lia]
  refine k_replace a (cs := seg ys f (ys.length - l)) (by lia) ok (by lia) (by lia) (by lia) (by lia) (.refl _) fun r B' hB => ?_
  refine st_nil ?_
  exact ⟨_, .skip (.refl _), B', rfl, hB.turn rfl (by lia) rfl rfl⟩
theorem k_put_row (a : At c sc d) {B : Buf} {X : Led} {b ah be : Nat} {p q : Addr} {xs ys : List Int} (f l : Nat) (hd : 7 ≤ d) (hf : cm xs ys ah = f) (hl : prL xs ys f be = l) (ok : B.Ok) (hp : (p, MO.lst (ilst xs)) ∈ X) (hq : (q, MO.lst (ilst ys)) ∈ X) (hb : b + xs.length ≤ B.g.text.length) (hy : ys.length ≤ 200) (hz : B.g.cells.length + 208 ≤ 5000) (pl : Less M (bufL B ++ X))
    (h : ∀ r B', B.To B' (B.g.text.take (b + f) ++ seg ys f (ys.length - l) ++ B.g.text.drop (b + (xs.length - l))) (B.g.cells.length + 208)
      (fEd (((b + f : Nat) : Int) + 1) (((b + (xs.length - l) : Nat) : Int) + 1) (seg ys f (ys.length - l)).length B.pt) (fEd (((b + f : Nat) : Int) + 1) (((b + (xs.length - l) : Nat) : Int) + 1) (seg ys f (ys.length - l)).length) → k r (bufL B' ++ X)) :
    TC c (.ref 296) [.ref B.b, .int ((b : Int) + 1), .ref p, .ref q, .int ah, .int be] lm M k :=
  TC.less pl (use' a (fun p w => d_put_row f l hf hl ok hp hq hb hy hz p w) hd fun r _ zz => by obtain ⟨B', e, hx⟩ := zz; subst e; exact h r B' hx)
end
end Mine
end

section
open PySem PySem.W PySem.Calls PyProof.Rows
set_option Elab.async false
set_option maxRecDepth 100000
set_option linter.unusedVariables false
namespace Mine
section
variable {c : Cx} {sc : Scope} {d : Nat} {lm : Loc} {M : Led} {k : MV → Led → Prop}
noncomputable def off : List (List Int) → Nat → Nat
  | [], _ => 0
  | _, 0 => 0
  | x :: r, k + 1 => x.length + 1 + off r k
theorem off_zero : ∀ l : List (List Int), off l 0 = 0
  | [] => rfl
  | _ :: _ => rfl
theorem off_succ : ∀ {l : List (List Int)} {k : Nat} {x : List Int}, l[k]? = some x → off l (k + 1) = off l k + x.length + 1
  | y :: r, 0, x, h => by
    simp only [List.getElem?_cons_zero, Option.some.injEq] at h
    subst h; show y.length + 1 + off r 0 = _; rw [off_zero, off_zero]; lia
  | y :: r, k + 1, x, h => by
    have := off_succ (l := r) (k := k) (x := x) (by simpa using h)
    show y.length + 1 + off r (k + 1) = y.length + 1 + off r k + x.length + 1
    lia
theorem Buf.To.self (B : Buf) (ok : B.Ok) : B.To B B.g.text B.g.cells.length B.pt fun p => p :=
  ⟨rfl, rfl, rfl, ⟨rfl, rfl, rfl, ok.g, rfl, Nat.le_refl _⟩, by rw [mk_id fun _ => rfl], rfl, ok.zv⟩
theorem Buf.To.comp {B B1 B2 : Buf} {t t' : List Int} {n n' : Nat} {F f : Int → Int} (h : B.To B1 t n (F B.pt) F) (h' : B1.To B2 t' n' (f B1.pt) f) : B.To B2 t' n' (f (F B.pt)) fun p => f (F p) :=
  ⟨h'.b.trans h.b, h'.bd.trans h.bd, h'.ls.trans h.ls, ⟨h'.g.t.trans h.g.t, h'.g.td.trans h.g.td, h'.g.cl.trans h.g.cl, h'.g.ok, h'.g.text, h'.g.len⟩, by rw [h'.K, h.K, List.map_map]; rfl, by rw [h'.pt, h.pt], h'.zv⟩
theorem rngd_of {n i : Nat} {iv : IV} (h : ((rng ((n : Int) - 1) ((n : Int) - 1 + 1).toNat (-1)).map fun i => IV.one (.int i))[i]? = some iv) : i < n ∧ iv = .one (.int ((n - 1 - i : Nat))) := by
  rw [show ((n : Int) - 1 + 1).toNat = n by lia] at h
  unfold rng at h
  rw [List.map_map, List.getElem?_map] at h
  obtain ⟨j, hj, e⟩ := Option.map_eq_some_iff.mp h
  obtain ⟨h1, h2⟩ := List.getElem?_eq_some_iff.mp hj
  rw [List.getElem_range] at h2
  rw [List.length_range] at h1
  subst h2
  refine ⟨h1, e.symm.trans ?_⟩
  show IV.one (.int ((n : Int) - 1 + (i : Int) * (-1))) = _
  rw [show (n : Int) - 1 + (i : Int) * (-1) = ((n - 1 - i : Nat) : Int) by lia]
theorem refs_at {rs : Rows} {k : Nat} {x : Int} (hx : x = (k : Nat)) (h : k < rs.length) : itemAt (refs rs) x = some (.ref rs[k].1) := by
  refine item_ref (by lia) ?_
  rw [show x.toNat = k by lia]
  unfold refs
  rw [List.getElem?_map, List.getElem?_eq_getElem h]; rfl
theorem snd_at {rs : Rows} {k : Nat} (h : k < rs.length) : (rs.map (·.2))[k]? = some rs[k].2 := by rw [List.getElem?_map, List.getElem?_eq_getElem h]; rfl
theorem d_put_rows {B : Buf} {X : Led} {sp sd q q2 : Addr} {rs ns : Rows} {R : List (List Int)} {L H lo hi col : Nat} (G : Nat → List Int → (Int → Int) → Prop) (ok : B.Ok)
    (h1 : (sp, MO.inst 257 sd) ∈ X) (h2 : (sd, MO.flds (spanF (.int ((L : Int) + 1)) (.int ((H : Int) + 1)) q (.int lo) (.int hi))) ∈ X) (h3 : (q, MO.lst (refs rs)) ∈ X) (h4 : ∀ r ∈ rs, (r.1, MO.lst (ilst r.2)) ∈ X)
    (h5 : (q2, MO.lst (refs ns)) ∈ X) (h6 : ∀ r ∈ ns, (r.1, MO.lst (ilst r.2)) ∈ X) (hn : ns.length = rs.length) (few : rs.length ≤ 10) (h7 : ∀ r ∈ ns, r.2.length ≤ 200) (h9 : ∀ r ∈ rs, (9 : Int) ∉ r.2 ∧ r.2.length ≤ 1000)
    (hz : B.g.cells.length + 2080 ≤ 5000) (hR : rs.map (·.2) = R) (hH : H + 1 = L + off R rs.length) (g0 : G rs.length B.g.text fun p => p)
    (step : ∀ k t F xs ys, R[k]? = some xs → (ns.map (·.2))[k]? = some ys → G (k + 1) t F → L + off R k + xs.length ≤ t.length ∧ (ys = xs → G k t F) ∧ (ys ≠ xs → ∀ f l, cm xs ys (min lo xs.length) = f → prL xs ys f (xs.length - col) = l →
      G k (t.take (L + off R k + f) ++ seg ys f (ys.length - l) ++ t.drop (L + off R k + (xs.length - l))) fun p => fEd (((L + off R k + f : Nat) : Int) + 1) (((L + off R k + (xs.length - l) : Nat) : Int) + 1) (seg ys f (ys.length - l)).length (F p))) (prog : Program) (w : World) :
    Does prog w (KK w.params) (.ref 303) 8 [.ref B.b, .ref sp, .ref q2, .int col, .int 8] (bufL B ++ X) (fun _ M' => ∃ B' t F, M' = bufL B' ++ X ∧ B.To B' t (B.g.cells.length + rs.length * 208) (F B.pt) F ∧ G 0 t F) := by
  refine does_fn 303 (fS 46) rfl (by kernel_rfl) (fun vs s' _ => bind5 rfl (fun v1 v2 v3 v4 v5 => by kernel_rfl) vs s') (by kernel_rfl) rfl fun c a => ?_
  refine st_cons ?_
  refine st_assign rfl rfl rfl ?_
  refine r_attr rfl ?_
  refine r_loc a 1 (by kernel_rfl) rfl ?_
  refine t_get a 257 1 (by kernel_rfl) (List.mem_append_right _ h1) (List.mem_append_right _ h2) rfl rfl ?_
  refine s_loc a 5 (by kernel_rfl) ?_
  refine st_cons ?_
  -- FOR
  refine st_for (fun _ => rfl) ?_
  refine i_typ a "range" (by kernel_rfl) rfl ?_
  refine a_cons rfl ?_
  refine ev_binop ?_
  refine c_blt a "len" (by kernel_rfl) rfl ?_
  refine a_cons rfl ?_
  refine r_loc a 2 (by kernel_rfl) rfl ?_
  refine a_nil ?_
  refine tc_len (List.mem_append_right _ h5) ?_
  rw [refs_len, hn]
  refine ev_int ?_
  refine bin_sub ?_
  refine a_cons rfl ?_
  refine ev_unary ?_
  refine ev_int ?_
  refine un_neg ?_
  refine a_cons rfl ?_
  refine ev_unary ?_
  refine ev_int ?_
  refine un_neg ?_
  refine a_nil ?_
  refine tic_down a.ok (by lia) ?_
  refine ⟨(fun i lm' M' => ∃ B' t F, lm' = [(Str.ofString "buffer", .ref B.b), (Str.ofString "span", .ref sp), (Str.ofString "rows", .ref q2), (Str.ofString "column", .int col), (Str.ofString "tab", .int 8), (Str.ofString "at", .int ((L + off R (rs.length - i) : Nat)))] ∧ M' = bufL B' ++ X ∧ B.To B' t (B.g.cells.length + i * 208) (F B.pt) F ∧ G (rs.length - i) t F), ⟨_, bufL B ++ X, sub_cons 0 (by kernel_rfl) rfl (sub_cons 1 (by kernel_rfl) rfl (sub_cons 2 (by kernel_rfl) rfl (sub_cons 3 (by kernel_rfl) rfl (sub_cons 4 (by kernel_rfl) rfl (sub_cons 5 (by kernel_rfl) rfl sub_nil))))), .refl _, B, B.g.text, fun p => p, ?_, rfl, (Buf.To.self B ok).turn rfl (by lia) rfl rfl, g0⟩, fun i iv lm M hi hJ => ?_, fun lm M hJ => ?_⟩
  · rw [Nat.sub_zero, ← hH]; rfl
  · obtain ⟨B', t, F, e1, e2, hB, hG⟩ := hJ
    subst e1 e2
    obtain ⟨hi2, e⟩ := rngd_of hi
    subst e
    obtain ⟨k, hk⟩ : ∃ k, k = rs.length - 1 - i := ⟨_, rfl⟩
    have hk1 : k < rs.length := by lia
    have hk2 : k < ns.length := by lia
    have hR1 : R[k]? = some rs[k].2 := by rw [← hR]; exact snd_at hk1
    rw [show rs.length - i = k + 1 by lia] at hG
    have S := step k t F _ _ hR1 (snd_at hk2) hG
    have hx : (rs[k].1, MO.lst (ilst rs[k].2)) ∈ bufL B' ++ X := List.mem_append_right _ (h4 _ (List.getElem_mem _))
    have hy : (ns[k].1, MO.lst (ilst ns[k].2)) ∈ bufL B' ++ X := List.mem_append_right _ (h6 _ (List.getElem_mem _))
    have h9k := h9 _ (List.getElem_mem hk1)
    have ok' := hB.ok ok
    refine ti_one ?_
    refine s_loc a 6 (by kernel_rfl) ?_
    refine st_cons ?_
    refine st_assign rfl rfl rfl ?_
    refine ev_index ?_
    refine r_attr rfl ?_
    refine r_loc a 1 (by kernel_rfl) rfl ?_
    refine t_get a 257 2 (by kernel_rfl) (List.mem_append_right _ h1) (List.mem_append_right _ h2) rfl rfl ?_
    refine r_loc a 6 (by kernel_rfl) rfl ?_
    refine sub_lst (List.mem_append_right _ h3) (refs_at (k := k) (by lia) hk1) ?_ (fun _ => rfl)
    refine s_loc a 7 (by kernel_rfl) ?_
    refine st_cons ?_
    refine st_assign rfl rfl rfl ?_
    refine ev_binop ?_
    refine r_loc a 5 (by kernel_rfl) rfl ?_
    refine c_blt a "len" (by kernel_rfl) rfl ?_
    refine a_cons rfl ?_
    refine r_loc a 7 (by kernel_rfl) rfl ?_
    refine a_nil ?_
    refine tc_len hx ?_
    rw [ilst_len]
    refine bin_sub ?_
    rw [show ((L + off R (rs.length - i) : Nat) : Int) - (rs[k].2.length : Int) = ((L + off R k : Nat) : Int) + 1 by rw [show rs.length - i = k + 1 by lia, off_succ hR1]; lia]
    refine s_loc a 8 (by kernel_rfl) ?_
    refine st_join (fun lm₁ M₁ => lm₁ = [(Str.ofString "buffer", .ref B.b), (Str.ofString "span", .ref sp), (Str.ofString "rows", .ref q2), (Str.ofString "column", .int col), (Str.ofString "tab", .int 8), (Str.ofString "at", .int ((L + off R (rs.length - i) : Nat))), (Str.ofString "place", .int ((rs.length - 1 - i : Nat))), (Str.ofString "old", .ref rs[k].1), (Str.ofString "begin", .int (((L + off R k : Nat) : Int) + 1))] ∧ ∃ B2 t2 F2, M₁ = bufL B2 ++ X ∧ B.To B2 t2 (B.g.cells.length + (i + 1) * 208) (F2 B.pt) F2 ∧ G k t2 F2) ?_ (fun lm M hq => ?_)
    · refine st_if ?_
      refine tb_compare1 rfl ?_
      refine ev_index ?_
      refine r_loc a 2 (by kernel_rfl) rfl ?_
      refine r_loc a 6 (by kernel_rfl) rfl ?_
      refine sub_lst (List.mem_append_right _ h5) (refs_at (k := k) (by lia) hk2) ?_ (fun _ => rfl)
      refine r_loc a 7 (by kernel_rfl) rfl ?_
      refine cmp_ne_ints a.ok hy hx ?_
      refine ⟨_, rfl, fun hb => ?_, fun hb => ?_⟩
      · replace hb := lne_true hb
        refine st_cons ?_
        refine st_assign rfl rfl rfl ?_
        refine c_blt a "len" (by kernel_rfl) rfl ?_
        refine a_cons rfl ?_
        refine ev_index ?_
        refine c_ref a 205 (by kernel_rfl) rfl ?_
        refine a_cons rfl ?_
        refine r_loc a 7 (by kernel_rfl) rfl ?_
        refine a_cons rfl ?_
        refine r_attr rfl ?_
        refine r_loc a 1 (by kernel_rfl) rfl ?_
        refine t_get a 257 3 (by kernel_rfl) (List.mem_append_right _ h1) (List.mem_append_right _ h2) rfl rfl ?_
        refine a_cons rfl ?_
        refine r_loc a 4 (by kernel_rfl) rfl ?_
        refine a_nil ?_
        refine k_cut_at a (Nat.le_of_ble_eq_true rfl) hx (by lia) h9k.1 (by lia) fun t1 u1 u2 => ?_
        refine ev_int ?_
        refine sub_tup (.head _) (by lia) (by lia) rfl ?_ (fun _ => rfl)
        refine a_nil ?_
        refine tc_len (.tail _ (.tail _ (.head _))) ?_
        rw [ilst_len, Int.toNat_natCast, List.length_take]
        refine s_loc a 9 (by kernel_rfl) ?_
        refine Tf.less (M₀ := bufL B' ++ X) (.skip (.skip (.skip (.refl _)))) ?_
        refine st_cons ?_
        refine st_expr a.ok rfl ?_
        refine c_ref a 296 (by kernel_rfl) rfl ?_
        refine a_cons rfl ?_
        refine r_loc a 0 (by kernel_rfl) rfl ?_
        refine a_cons rfl ?_
        refine r_loc a 8 (by kernel_rfl) rfl ?_
        refine a_cons rfl ?_
        refine r_loc a 7 (by kernel_rfl) rfl ?_
        refine a_cons rfl ?_
        refine ev_index ?_
        refine r_loc a 2 (by kernel_rfl) rfl ?_
        refine r_loc a 6 (by kernel_rfl) rfl ?_
        refine sub_lst (List.mem_append_right _ h5) (refs_at (k := k) (by lia) hk2) ?_ (fun _ => rfl)
        refine a_cons rfl ?_
        refine r_loc a 9 (by kernel_rfl) rfl ?_
        refine a_cons rfl ?_
        refine c_blt a "len" (by kernel_rfl) rfl ?_
        refine a_cons rfl ?_
        refine ev_index ?_
        refine c_ref a 205 (by kernel_rfl) rfl ?_
        refine a_cons rfl ?_
        refine r_loc a 7 (by kernel_rfl) rfl ?_
        refine a_cons rfl ?_
        refine r_loc a 3 (by kernel_rfl) rfl ?_
        refine a_cons rfl ?_
        refine r_loc a 4 (by kernel_rfl) rfl ?_
        refine a_nil ?_
        refine k_cut_at a (Nat.le_of_ble_eq_true rfl) hx (by lia) h9k.1 (by lia) fun t3 u3 u4 => ?_
        refine ev_int ?_
        refine sub_tup (.head _) (by lia) (by lia) rfl ?_ (fun _ => rfl)
        refine a_nil ?_
        refine tc_len (.tail _ (.head _)) ?_
        rw [ilst_len, Int.toNat_natCast, List.length_drop]
        refine a_nil ?_
        have hc := hB.g.len
        have ht : B'.g.text = t := hB.g.text
        rw [← hB.b]
        refine k_put_row a _ _ (by lia) rfl rfl ok' (h4 _ (List.getElem_mem _)) (h6 _ (List.getElem_mem _)) (by rw [ht]; exact S.1) (h7 _ (List.getElem_mem _)) (by lia) (.skip (.skip (.skip (.refl _)))) fun r B2 hB2 => ?_
        refine st_nil ?_
        refine ⟨_, _, sub_cons 0 (by kernel_rfl) rfl (sub_cons 1 (by kernel_rfl) rfl (sub_cons 2 (by kernel_rfl) rfl (sub_cons 3 (by kernel_rfl) rfl (sub_cons 4 (by kernel_rfl) rfl (sub_cons 5 (by kernel_rfl) rfl (sub_cons 6 (by kernel_rfl) rfl (sub_cons 7 (by kernel_rfl) rfl (sub_cons 8 (by kernel_rfl) rfl sub_nil)))))))), .refl _, by rw [hB.b], B2, _, _, rfl, (hB.comp hB2).turn (by rw [ht]) (by lia) rfl rfl, S.2.2 hb _ _ rfl rfl⟩
      · replace hb := lne_false hb
        refine st_nil ?_
        refine ⟨_, _, sub_cons 0 (by kernel_rfl) rfl (sub_cons 1 (by kernel_rfl) rfl (sub_cons 2 (by kernel_rfl) rfl (sub_cons 3 (by kernel_rfl) rfl (sub_cons 4 (by kernel_rfl) rfl (sub_cons 5 (by kernel_rfl) rfl (sub_cons 6 (by kernel_rfl) rfl (sub_cons 7 (by kernel_rfl) rfl (sub_cons 8 (by kernel_rfl) rfl sub_nil)))))))), .refl _, rfl, B', t, F, rfl, hB.turn rfl (by lia) rfl rfl, S.2.1 hb⟩
    obtain ⟨e1, B2, t2, F2, e2, hB2, hG2⟩ := hq
    subst e1 e2
    refine st_cons ?_
    refine st_assign rfl rfl rfl ?_
    refine ev_binop ?_
    refine r_loc a 8 (by kernel_rfl) rfl ?_
    refine ev_int ?_
    refine bin_sub ?_
    refine s_loc a 5 (by kernel_rfl) ?_
    refine st_nil ?_
    refine ⟨_, _, sub_cons 0 (by kernel_rfl) rfl (sub_cons 1 (by kernel_rfl) rfl (sub_cons 2 (by kernel_rfl) rfl (sub_cons 3 (by kernel_rfl) rfl (sub_cons 4 (by kernel_rfl) rfl (sub_cons 5 (by kernel_rfl) rfl sub_nil))))), .refl _, B2, t2, F2, ?_, rfl, hB2, ?_⟩
    · rw [show rs.length - (i + 1) = k by lia]
      rw [show ((L + off R k : Nat) : Int) + 1 - 1 = ((L + off R k : Nat) : Int) by lia]
    · rw [show rs.length - (i + 1) = k by lia]; exact hG2
  · obtain ⟨B', t, F, e1, e2, hB, hG⟩ := hJ
    subst e1 e2
    refine st_nil ?_
    refine ⟨_, .refl _, B', t, F, rfl, ?_, ?_⟩
    · exact hB.turn rfl (by simp only [List.length_map, rng, List.length_range]; lia) rfl rfl
    · have : rs.length - ((rng ((rs.length : Int) - 1) ((rs.length : Int) - 1 + 1).toNat (-1)).map fun i => IV.one (.int i)).length = 0 := by simp only [List.length_map, rng, List.length_range]; lia
      rw [this] at hG; exact hG
end
end Mine
end

section
open PySem PySem.W PySem.Calls PyProof.Rows
set_option Elab.async false
set_option maxRecDepth 100000
set_option linter.unusedVariables false
namespace Mine
section
variable {c : Cx} {sc : Scope} {d : Nat} {lm : Loc} {M : Led} {k : MV → Led → Prop}
theorem k_span_of (a : At c sc d) {B : Buf} {i j : Nat} {X : Led} (hd : 5 ≤ d) (ok : B.Ok) (hi : i ≤ B.g.text.length) (hj : j ≤ B.g.text.length) (h9 : (9 : Int) ∉ B.g.text) (hz : B.g.text.length ≤ 1000) (p : Less M (bufL B ++ X))
    (h : ∀ sp sd q rs, rs.map (·.2) = allRows (seg B.g.text (spL B.g.text i j) (spH B.g.text i j)) → k (.ref sp) ((sp, .inst 257 sd) :: (sd, .flds (spanF (.int ((spL B.g.text i j : Nat) + 1)) (.int ((spH B.g.text i j : Nat) + 1)) q (.int (spA B.g.text i j : Nat)) (.int (spZ B.g.text i j : Nat)))) :: (q, .lst (refs rs)) :: (rowL rs ++ bufL B) ++ X)) :
    TC c (.ref 282) [.ref B.b, .int ((i : Int) + 1), .int ((j : Int) + 1), .int 8] lm M k :=
  use a (fun p w => d_span_of ok hi hj h9 hz p w) hd p fun _ _ zz => by obtain ⟨sp, sd, q, rs, e, e', hx⟩ := zz; subst e e'; exact h sp sd q rs hx
noncomputable def colW (way lo hi : Nat) : Nat := if way = 2 then lo else hi
/-- what a turn of put_rows asks of the plain law -/
noncomputable def RowStep (way : Nat) (txt : List Int) (L lo hi : Nat) (R : List (List Int)) (G : Nat → List Int → (Int → Int) → Prop) : Prop :=
  ∀ k t F xs, R[k]? = some xs → G (k + 1) t F → L + off R k + xs.length ≤ t.length ∧ (rowW way xs lo hi txt = xs → G k t F) ∧ (rowW way xs lo hi txt ≠ xs → ∀ f l, cm xs (rowW way xs lo hi txt) (min lo xs.length) = f → prL xs (rowW way xs lo hi txt) f (xs.length - colW way lo hi) = l →
      G k (t.take (L + off R k + f) ++ seg (rowW way xs lo hi txt) f ((rowW way xs lo hi txt).length - l) ++ t.drop (L + off R k + (xs.length - l))) fun p => fEd (((L + off R k + f : Nat) : Int) + 1) (((L + off R k + (xs.length - l) : Nat) : Int) + 1) (seg (rowW way xs lo hi txt) f ((rowW way xs lo hi txt).length - l)).length (F p))
/-- what a rectangle's def asks -/
structure RectOk (B : Buf) (i j way : Nat) (txt : List Int) (R : List (List Int)) (G : Nat → List Int → (Int → Int) → Prop) : Prop where
  ok : B.Ok
  hi : i ≤ B.g.text.length
  hj : j ≤ B.g.text.length
  h9 : (9 : Int) ∉ B.g.text
  hz : B.g.text.length ≤ 1000
  hR : allRows (seg B.g.text (spL B.g.text i j) (spH B.g.text i j)) = R
  few : R.length ≤ 10
  rows : ∀ xs ∈ R, (9 : Int) ∉ xs ∧ xs.length ≤ 1000 ∧ (rowW way xs (spA B.g.text i j) (spZ B.g.text i j) txt).length ≤ 200
  hc : spZ B.g.text i j ≤ 100
  cells : B.g.cells.length + 2080 ≤ 5000
  hH : spH B.g.text i j + 1 = spL B.g.text i j + off R R.length
  g0 : G R.length B.g.text fun p => p
  step : RowStep way txt (spL B.g.text i j) (spA B.g.text i j) (spZ B.g.text i j) R G
/-- the rows that a comprehension has made -/
noncomputable def Made (R : List (List Int)) (f : List Int → List Int) (M2 K2 : Led) (i : Nat) (acc : List MV) (M' : Led) : Prop :=
  ∃ ns Y, acc = refs ns ∧ M' = Y ++ M2 ∧ ns.map (·.2) = (R.take i).map f ∧ ∀ r ∈ ns, (r.1, MO.lst (ilst r.2)) ∈ Y ++ K2
theorem Made.snoc {R : List (List Int)} {f : List Int → List Int} {M2 K2 Z M' : Led} {x y : Addr × MO} {i : Nat} {acc : List MV} {q : Addr} {xs : List Int} (h : Made R f M2 K2 i acc M') (hx : R[i]? = some xs) (h1 : x ∈ K2) (h2 : y ∈ K2) (hq : (q, MO.lst (ilst (f xs))) ∈ Z ++ [x, y]) : Made R f M2 K2 (i + 1) (acc ++ [.ref q]) (Z ++ M') := by
  obtain ⟨ns, Y, rfl, rfl, h3, h4⟩ := h
  refine ⟨ns ++ [(q, f xs)], Z ++ Y, by rw [refs_app]; rfl, (List.append_assoc ..).symm, ?_, fun r hr => ?_⟩
  · rw [List.map_append, h3, List.take_add_one, hx, List.map_append]; rfl
  · rw [List.append_assoc]
    rcases List.mem_append.mp hr with hr | hr
    · exact List.mem_append_right _ (h4 r hr)
    · obtain rfl := List.mem_singleton.mp hr
      rcases List.mem_append.mp hq with hq | hq
      · exact List.mem_append_left _ hq
      · refine List.mem_append_right _ (List.mem_append_right _ ?_)
        rcases List.mem_cons.mp hq with e | hq
        · rw [e]; exact h1
        · rw [List.mem_singleton.mp hq]; exact h2
theorem k_row (a : At c sc d) {f : Addr} {as : List MV} {x y : Addr × MO} {ys : List Int} (hd : 6 ≤ d) (D : ∀ S, x ∈ S → y ∈ S → ∀ p w, Does p w (KK w.params) (.ref f) 6 as S (RowP S ys)) (hx : x ∈ M) (hy : y ∈ M)
    (h : ∀ q Z M', Less M' (Z ++ M) → (q, MO.lst (ilst ys)) ∈ Z ++ [x, y] → k (.ref q) M') : TC c (.ref f) as lm M k := by
  have key : ∀ S M2, x ∈ S → y ∈ S → M.Perm (S ++ M2) → (∀ z ∈ S, z = x ∨ z = y) → TC c (.ref f) as lm M k := fun S M2 h1 h2 hp hS => by
    refine use a (D S h1 h2) hd (.perm hp) fun r M₁ zz => ?_
    obtain ⟨q, Z, e1, e2, e3⟩ := zz
    subst e1 e2
    refine h q Z _ (.perm ?_) ?_
    · rw [List.append_assoc]; exact hp.symm.append_left _
    · rcases List.mem_append.mp e3 with e | e
      · exact List.mem_append_left _ e
      · refine List.mem_append_right _ ?_
        rcases hS _ e with e | e <;> rw [e]
        · exact .head _
        · exact .tail _ (.head _)
  obtain ⟨M1, p1⟩ := pick_of hx
  rcases List.mem_cons.mp (p1.mem_iff.mp hy) with e | e
  · exact key [x] M1 (.head _) (by rw [e]; exact .head _) p1 fun z hz => .inl (List.mem_singleton.mp hz)
  · obtain ⟨M2, p2⟩ := pick_of e
    exact key [x, y] M2 (.head _) (.tail _ (.head _)) (p1.trans (p2.cons x)) fun z hz => (List.mem_cons.mp hz).imp_right List.mem_singleton.mp
theorem row_item {rs : Rows} {i : Nat} {iv : IV} (h : ((refs rs).map IV.one)[i]? = some iv) : ∃ r : Addr × List Int, rs[i]? = some r ∧ iv = .one (.ref r.1) := by
  unfold refs at h
  rw [List.map_map, List.getElem?_map] at h
  obtain ⟨r, hr, e⟩ := Option.map_eq_some_iff.mp h
  exact ⟨r, hr, e.symm⟩
theorem rowL_mem {rs : Rows} {r : Addr × List Int} (h : r ∈ rs) : (r.1, MO.lst (ilst r.2)) ∈ rowL rs := List.mem_map_of_mem h
theorem span_less {a b q : Addr × MO} {R B T : Led} : Less (a :: b :: q :: (R ++ B) ++ T) (q :: (B ++ (a :: b :: (R ++ T)))) := .perm (by
  show (a :: b :: q :: ((R ++ B) ++ T)).Perm _
  refine ((List.Perm.swap q b _).cons a).trans ((List.Perm.swap q a _).trans (.cons q ?_))
  refine List.Perm.trans ?_ ((List.perm_middle (a := a)).symm)
  refine .cons a (List.Perm.trans ?_ ((List.perm_middle (a := b)).symm))
  refine .cons b ?_
  rw [← List.append_assoc B R]
  exact List.perm_append_comm.append_right _)
theorem d_delete_rectangle {B : Buf} {X : Led} {i j : Nat} {R : List (List Int)} {G : Nat → List Int → (Int → Int) → Prop} (K : RectOk B i j 0 [] R G) (prog : Program) (w : World) :
    Does prog w (KK w.params) (.ref 308) 9 [.ref B.b, .int ((i : Int) + 1), .int ((j : Int) + 1), .int 8] (bufL B ++ X) (fun _ M' => ∃ B' t F, M' = bufL B' ++ X ∧ B.To B' t (B.g.cells.length + 2080) (F B.pt) F ∧ G 0 t F) := by
  refine does_fnC (w := w) 308 (fS 47) (cv := [(Str.ofString "span", none), (Str.ofString "tab", some (.int 8))]) rfl (by kernel_rfl) (fun vs hv => ?_) (by kernel_rfl) rfl rfl fun c a cs hl hcs => ?_
  · obtain ⟨v1, v2, v3, v4, rfl⟩ := len4 hv
    kernel_rfl
  obtain ⟨c1, c2, rfl⟩ := len2 hl
  replace hcs : c.env.cells = [(Str.ofString "span", c1), (Str.ofString "tab", c2)] := hcs
  show Tf c _ [(Str.ofString "buffer", .ref B.b), (Str.ofString "start", .int ((i : Int) + 1)), (Str.ofString "end", .int ((j : Int) + 1))] ([(c1, .cell (none)), (c2, .cell (some (.int 8)))] ++ (bufL B ++ X)) _ _
  refine st_cons ?_
  refine st_assign rfl rfl rfl ?_
  refine c_ref a 282 (by kernel_rfl) rfl ?_
  refine a_cons rfl ?_
  refine r_loc a 0 (by kernel_rfl) rfl ?_
  refine a_cons rfl ?_
  refine r_loc a 1 (by kernel_rfl) rfl ?_
  refine a_cons rfl ?_
  refine r_loc a 2 (by kernel_rfl) rfl ?_
  refine a_cons rfl ?_
  refine r_cell a hcs (by kernel_rfl) rfl (.tail _ (.head _)) ?_
  refine a_nil ?_
  refine k_span_of a (Nat.le_of_ble_eq_true rfl) K.ok K.hi K.hj K.h9 K.hz .swap fun sp sd q rs hrs => ?_
  rw [K.hR] at hrs
  refine s_cell a hcs (by kernel_rfl) rfl (.tail (.tail (.tail (Up.right _ .head)))) ?_
  refine Tf.less span_less ?_
  have hsp : ∀ {x : Addr × MO}, x ∈ (sp, MO.inst 257 sd) :: (sd, .flds (spanF (.int ((spL B.g.text i j : Nat) + 1)) (.int ((spH B.g.text i j : Nat) + 1)) q (.int (spA B.g.text i j : Nat)) (.int (spZ B.g.text i j : Nat)))) :: (rowL rs ++ ([(c1, .cell (some (.ref sp))), (c2, .cell (some (.int 8)))] ++ X)) → x ∈ bufL B ++ ((sp, MO.inst 257 sd) :: (sd, .flds (spanF (.int ((spL B.g.text i j : Nat) + 1)) (.int ((spH B.g.text i j : Nat) + 1)) q (.int (spA B.g.text i j : Nat)) (.int (spZ B.g.text i j : Nat)))) :: (rowL rs ++ ([(c1, .cell (some (.ref sp))), (c2, .cell (some (.int 8)))] ++ X))) := fun h => List.mem_append_right _ h
  have hce : ∀ {x : Addr × MO}, x ∈ [(c1, .cell (some (.ref sp))), (c2, .cell (some (.int 8)))] → x ∈ (sp, MO.inst 257 sd) :: (sd, .flds (spanF (.int ((spL B.g.text i j : Nat) + 1)) (.int ((spH B.g.text i j : Nat) + 1)) q (.int (spA B.g.text i j : Nat)) (.int (spZ B.g.text i j : Nat)))) :: (rowL rs ++ ([(c1, .cell (some (.ref sp))), (c2, .cell (some (.int 8)))] ++ X)) := fun h => .tail _ (.tail _ (List.mem_append_right _ (List.mem_append_left _ h)))
  generalize hM2 : bufL B ++ ((sp, MO.inst 257 sd) :: (sd, .flds (spanF (.int ((spL B.g.text i j : Nat) + 1)) (.int ((spH B.g.text i j : Nat) + 1)) q (.int (spA B.g.text i j : Nat)) (.int (spZ B.g.text i j : Nat)))) :: (rowL rs ++ ([(c1, .cell (some (.ref sp))), (c2, .cell (some (.int 8)))] ++ X))) = M2 at hsp
  show Tf c _ _ ((q, MO.lst (refs rs)) :: (bufL B ++ ((sp, MO.inst 257 sd) :: (sd, .flds (spanF (.int ((spL B.g.text i j : Nat) + 1)) (.int ((spH B.g.text i j : Nat) + 1)) q (.int (spA B.g.text i j : Nat)) (.int (spZ B.g.text i j : Nat)))) :: (rowL rs ++ ([(c1, .cell (some (.ref sp))), (c2, .cell (some (.int 8)))] ++ X))))) _ _
  rw [hM2]
  obtain ⟨K2, hK2⟩ : ∃ K2, K2 = (sp, MO.inst 257 sd) :: (sd, MO.flds (spanF (.int ((spL B.g.text i j : Nat) + 1)) (.int ((spH B.g.text i j : Nat) + 1)) q (.int (spA B.g.text i j : Nat)) (.int (spZ B.g.text i j : Nat)))) :: (rowL rs ++ ([(c1, .cell (some (.ref sp))), (c2, .cell (some (.int 8)))] ++ X)) := ⟨_, rfl⟩
  rw [← hK2] at hsp hce hM2
  have hrl : ∀ {r : Addr × List Int}, r ∈ rs → (r.1, MO.lst (ilst r.2)) ∈ K2 := fun h => by rw [hK2]; exact .tail _ (.tail _ (List.mem_append_left _ (rowL_mem h)))
  have hs1 : (sp, MO.inst 257 sd) ∈ K2 := by rw [hK2]; exact .head _
  have hs2 : (sd, MO.flds (spanF (.int ((spL B.g.text i j : Nat) + 1)) (.int ((spH B.g.text i j : Nat) + 1)) q (.int (spA B.g.text i j : Nat)) (.int (spZ B.g.text i j : Nat)))) ∈ K2 := by rw [hK2]; exact .tail _ (.head _)
  refine st_cons ?_
  refine st_expr a.ok rfl ?_
  refine c_ref a 303 (by kernel_rfl) rfl ?_
  refine a_cons rfl ?_
  refine r_loc a 0 (by kernel_rfl) rfl ?_
  refine a_cons rfl ?_
  refine r_cell a hcs (by kernel_rfl) rfl (.tail _ (hsp (hce (.head _)))) ?_
  refine a_cons rfl ?_
  refine ev_comp a.ok (clo_ok hcs (cl := [(Str.ofString "tab", c2), (Str.ofString "span", c1)]) (by kernel_rfl)) (by decide +kernel) rfl (by decide +kernel) (fun _ => rfl) ?_
  refine ti_list a.ok ?_
  refine r_attr rfl ?_
  refine r_cell a hcs (by kernel_rfl) rfl (.tail _ (hsp (hce (.head _)))) ?_
  refine t_get a 257 2 (by kernel_rfl) (.tail _ (hsp hs1)) (.tail _ (hsp hs2)) rfl rfl ?_
  have hlen : rs.length = R.length := by rw [← hrs, List.length_map]
  refine ⟨q, refs rs, M2, rfl, .refl _, by rw [List.length_map, refs_len, hlen]; exact szOk (Nat.le_trans K.few (by lia)), Made R (fun xs => rowW 0 xs (spA B.g.text i j) (spZ B.g.text i j) []) M2 K2, ⟨M2, .refl _, [], [], rfl, rfl, rfl, nofun⟩, fun C h₀ n iv acc M okc hi hJ => ?_, fun acc M hJ hl2 u => ?_⟩
  · have a2 := at_comp a okc
    obtain ⟨r, hr, e⟩ := row_item hi
    subst e
    have hr2 : r ∈ rs := List.mem_of_getElem? hr
    have hRn : R[n]? = some r.2 := by rw [← hrs, List.getElem?_map, hr]; rfl
    have hrow := K.rows r.2 (List.mem_of_getElem? hRn)
    obtain ⟨ns, Y, e1, e2, e3, e4⟩ := id hJ
    have hm : ∀ {x : Addr × MO}, x ∈ M2 → x ∈ M := fun h => e2 ▸ List.mem_append_right _ h
    have hlohi : spA B.g.text i j ≤ spZ B.g.text i j := by unfold spA spZ; lia
    refine ti_one ?_
    refine s_loc a2 0 (by kernel_rfl) ?_
    refine c_ref a2 219 (by kernel_rfl) rfl ?_
    refine a_cons rfl ?_
    refine r_loc a2 0 (by kernel_rfl) rfl ?_
    refine a_cons rfl ?_
    refine r_attr rfl ?_
    refine r_cell a2 rfl (by kernel_rfl) (ca := c1) rfl (hm (hsp (hce (.head _)))) ?_
    refine t_get a2 257 3 (by kernel_rfl) (hm (hsp hs1)) (hm (hsp hs2)) rfl rfl ?_
    refine a_cons rfl ?_
    refine r_attr rfl ?_
    refine r_cell a2 rfl (by kernel_rfl) (ca := c1) rfl (hm (hsp (hce (.head _)))) ?_
    refine t_get a2 257 4 (by kernel_rfl) (hm (hsp hs1)) (hm (hsp hs2)) rfl rfl ?_
    refine a_cons rfl ?_
    refine r_cell a2 rfl (by kernel_rfl) (ca := c2) rfl (hm (hsp (hce (.tail _ (.head _))))) ?_
    refine a_nil ?_
    refine k_row a2 (x := (r.1, .lst (ilst r.2))) (y := (r.1, .lst (ilst r.2))) (by lia) (fun S hs1 hs2 p w => d_erased hs1 (Int.natCast_nonneg _) (Int.ofNat_le.mpr hlohi) (Int.ofNat_le.mpr K.hc) hrow.1 hrow.2.1 p w) (hm (hsp (hrl hr2))) (hm (hsp (hrl hr2))) fun q' Z M' hL hq => ?_
    exact ⟨_, hL, Made.snoc hJ hRn (hrl hr2) (hrl hr2) hq⟩
  obtain ⟨ns, Y, rfl, rfl, e3, e4⟩ := hJ
  refine a_cons rfl ?_
  refine r_attr rfl ?_
  refine r_cell a hcs (by kernel_rfl) rfl (.tail _ (List.mem_append_right _ (List.mem_append_right _ (hsp (hce (.head _)))))) ?_
  refine t_get a 257 4 (by kernel_rfl) (.tail _ (List.mem_append_right _ (List.mem_append_right _ (hsp hs1)))) (.tail _ (List.mem_append_right _ (List.mem_append_right _ (hsp hs2)))) rfl rfl ?_
  refine a_cons rfl ?_
  refine r_cell a hcs (by kernel_rfl) rfl (.tail _ (List.mem_append_right _ (List.mem_append_right _ (hsp (hce (.tail _ (.head _))))))) ?_
  refine a_nil ?_
  subst hM2
  have hW : ns.map (·.2) = R.map fun xs => rowW 0 xs (spA B.g.text i j) (spZ B.g.text i j) [] := by rw [e3, List.take_of_length_le (by rw [List.length_map, refs_len, hlen]; exact Nat.le_refl _)]
  have hnl : ns.length = rs.length := by rw [hlen, ← List.length_map (f := (·.2)), hW, List.length_map]
  refine TC.less (M₀ := bufL B ++ (((u, .lst (refs ns)) :: (q, .lst (refs rs)) :: Y) ++ K2)) (Less.swap (E := (u, .lst (refs ns)) :: (q, .lst (refs rs)) :: Y)) ?_
  refine use' a (fun p w => d_put_rows (rs := rs) (ns := ns) (R := R) G K.ok (List.mem_append_right _ hs1) (List.mem_append_right _ hs2) (.tail _ (.head _)) (fun r hr => List.mem_append_right _ (hrl hr)) (.head _) (fun r hr => .tail _ (.tail _ (e4 r hr))) hnl (by rw [hlen]; exact K.few) ?_ ?_ K.cells hrs (by rw [hlen]; exact K.hH) (by rw [hlen]; exact K.g0) ?_ p w) (by lia) ?_
  · intro r hr
    have : r.2 ∈ R.map fun xs => rowW 0 xs (spA B.g.text i j) (spZ B.g.text i j) [] := hW ▸ List.mem_map_of_mem hr
    obtain ⟨xs, hx, e⟩ := List.mem_map.mp this
    rw [← e]; exact (K.rows xs hx).2.2
  · intro r hr
    have := K.rows r.2 (hrs ▸ List.mem_map_of_mem hr)
    exact ⟨this.1, this.2.1⟩
  · intro k t F xs ys hx hy hG
    have e : ys = rowW 0 xs (spA B.g.text i j) (spZ B.g.text i j) [] := by
      rw [hW, List.getElem?_map, hx] at hy; exact (Option.some.inj hy).symm
    subst e
    exact K.step k t F xs hx hG
  · rintro _ _ ⟨B', t, F, rfl, hB, hG⟩
    refine st_nil ?_
    rw [hK2]
    refine ⟨bufL B' ++ X, Less.app (.drop (.skip (.skip (.drop (.drop (.refl _)))))), B', t, F, rfl, hB.turn rfl ?_ rfl rfl, hG⟩
    have := K.few; lia
theorem d_clear_rectangle {B : Buf} {X : Led} {i j : Nat} {R : List (List Int)} {G : Nat → List Int → (Int → Int) → Prop} (K : RectOk B i j 1 [] R G) (prog : Program) (w : World) :
    Does prog w (KK w.params) (.ref 313) 9 [.ref B.b, .int ((i : Int) + 1), .int ((j : Int) + 1), .int 8] (bufL B ++ X) (fun _ M' => ∃ B' t F, M' = bufL B' ++ X ∧ B.To B' t (B.g.cells.length + 2080) (F B.pt) F ∧ G 0 t F) := by
  refine does_fnC (w := w) 313 (fS 48) (cv := [(Str.ofString "span", none), (Str.ofString "tab", some (.int 8))]) rfl (by kernel_rfl) (fun vs hv => ?_) (by kernel_rfl) rfl rfl fun c a cs hl hcs => ?_
  · obtain ⟨v1, v2, v3, v4, rfl⟩ := len4 hv
    kernel_rfl
  obtain ⟨c1, c2, rfl⟩ := len2 hl
  replace hcs : c.env.cells = [(Str.ofString "span", c1), (Str.ofString "tab", c2)] := hcs
  show Tf c _ [(Str.ofString "buffer", .ref B.b), (Str.ofString "start", .int ((i : Int) + 1)), (Str.ofString "end", .int ((j : Int) + 1))] ([(c1, .cell (none)), (c2, .cell (some (.int 8)))] ++ (bufL B ++ X)) _ _
  refine st_cons ?_
  refine st_assign rfl rfl rfl ?_
  refine c_ref a 282 (by kernel_rfl) rfl ?_
  refine a_cons rfl ?_
  refine r_loc a 0 (by kernel_rfl) rfl ?_
  refine a_cons rfl ?_
  refine r_loc a 1 (by kernel_rfl) rfl ?_
  refine a_cons rfl ?_
  refine r_loc a 2 (by kernel_rfl) rfl ?_
  refine a_cons rfl ?_
  refine r_cell a hcs (by kernel_rfl) rfl (.tail _ (.head _)) ?_
  refine a_nil ?_
  refine k_span_of a (Nat.le_of_ble_eq_true rfl) K.ok K.hi K.hj K.h9 K.hz .swap fun sp sd q rs hrs => ?_
  rw [K.hR] at hrs
  refine s_cell a hcs (by kernel_rfl) rfl (.tail (.tail (.tail (Up.right _ .head)))) ?_
  refine Tf.less span_less ?_
  have hsp : ∀ {x : Addr × MO}, x ∈ (sp, MO.inst 257 sd) :: (sd, .flds (spanF (.int ((spL B.g.text i j : Nat) + 1)) (.int ((spH B.g.text i j : Nat) + 1)) q (.int (spA B.g.text i j : Nat)) (.int (spZ B.g.text i j : Nat)))) :: (rowL rs ++ ([(c1, .cell (some (.ref sp))), (c2, .cell (some (.int 8)))] ++ X)) → x ∈ bufL B ++ ((sp, MO.inst 257 sd) :: (sd, .flds (spanF (.int ((spL B.g.text i j : Nat) + 1)) (.int ((spH B.g.text i j : Nat) + 1)) q (.int (spA B.g.text i j : Nat)) (.int (spZ B.g.text i j : Nat)))) :: (rowL rs ++ ([(c1, .cell (some (.ref sp))), (c2, .cell (some (.int 8)))] ++ X))) := fun h => List.mem_append_right _ h
  have hce : ∀ {x : Addr × MO}, x ∈ [(c1, .cell (some (.ref sp))), (c2, .cell (some (.int 8)))] → x ∈ (sp, MO.inst 257 sd) :: (sd, .flds (spanF (.int ((spL B.g.text i j : Nat) + 1)) (.int ((spH B.g.text i j : Nat) + 1)) q (.int (spA B.g.text i j : Nat)) (.int (spZ B.g.text i j : Nat)))) :: (rowL rs ++ ([(c1, .cell (some (.ref sp))), (c2, .cell (some (.int 8)))] ++ X)) := fun h => .tail _ (.tail _ (List.mem_append_right _ (List.mem_append_left _ h)))
  generalize hM2 : bufL B ++ ((sp, MO.inst 257 sd) :: (sd, .flds (spanF (.int ((spL B.g.text i j : Nat) + 1)) (.int ((spH B.g.text i j : Nat) + 1)) q (.int (spA B.g.text i j : Nat)) (.int (spZ B.g.text i j : Nat)))) :: (rowL rs ++ ([(c1, .cell (some (.ref sp))), (c2, .cell (some (.int 8)))] ++ X))) = M2 at hsp
  show Tf c _ _ ((q, MO.lst (refs rs)) :: (bufL B ++ ((sp, MO.inst 257 sd) :: (sd, .flds (spanF (.int ((spL B.g.text i j : Nat) + 1)) (.int ((spH B.g.text i j : Nat) + 1)) q (.int (spA B.g.text i j : Nat)) (.int (spZ B.g.text i j : Nat)))) :: (rowL rs ++ ([(c1, .cell (some (.ref sp))), (c2, .cell (some (.int 8)))] ++ X))))) _ _
  rw [hM2]
  obtain ⟨K2, hK2⟩ : ∃ K2, K2 = (sp, MO.inst 257 sd) :: (sd, MO.flds (spanF (.int ((spL B.g.text i j : Nat) + 1)) (.int ((spH B.g.text i j : Nat) + 1)) q (.int (spA B.g.text i j : Nat)) (.int (spZ B.g.text i j : Nat)))) :: (rowL rs ++ ([(c1, .cell (some (.ref sp))), (c2, .cell (some (.int 8)))] ++ X)) := ⟨_, rfl⟩
  rw [← hK2] at hsp hce hM2
  have hrl : ∀ {r : Addr × List Int}, r ∈ rs → (r.1, MO.lst (ilst r.2)) ∈ K2 := fun h => by rw [hK2]; exact .tail _ (.tail _ (List.mem_append_left _ (rowL_mem h)))
  have hs1 : (sp, MO.inst 257 sd) ∈ K2 := by rw [hK2]; exact .head _
  have hs2 : (sd, MO.flds (spanF (.int ((spL B.g.text i j : Nat) + 1)) (.int ((spH B.g.text i j : Nat) + 1)) q (.int (spA B.g.text i j : Nat)) (.int (spZ B.g.text i j : Nat)))) ∈ K2 := by rw [hK2]; exact .tail _ (.head _)
  refine st_cons ?_
  refine st_expr a.ok rfl ?_
  refine c_ref a 303 (by kernel_rfl) rfl ?_
  refine a_cons rfl ?_
  refine r_loc a 0 (by kernel_rfl) rfl ?_
  refine a_cons rfl ?_
  refine r_cell a hcs (by kernel_rfl) rfl (.tail _ (hsp (hce (.head _)))) ?_
  refine a_cons rfl ?_
  refine ev_comp a.ok (clo_ok hcs (cl := [(Str.ofString "tab", c2), (Str.ofString "span", c1)]) (by kernel_rfl)) (by decide +kernel) rfl (by decide +kernel) (fun _ => rfl) ?_
  refine ti_list a.ok ?_
  refine r_attr rfl ?_
  refine r_cell a hcs (by kernel_rfl) rfl (.tail _ (hsp (hce (.head _)))) ?_
  refine t_get a 257 2 (by kernel_rfl) (.tail _ (hsp hs1)) (.tail _ (hsp hs2)) rfl rfl ?_
  have hlen : rs.length = R.length := by rw [← hrs, List.length_map]
  refine ⟨q, refs rs, M2, rfl, .refl _, by rw [List.length_map, refs_len, hlen]; exact szOk (Nat.le_trans K.few (by lia)), Made R (fun xs => rowW 1 xs (spA B.g.text i j) (spZ B.g.text i j) []) M2 K2, ⟨M2, .refl _, [], [], rfl, rfl, rfl, nofun⟩, fun C h₀ n iv acc M okc hi hJ => ?_, fun acc M hJ hl2 u => ?_⟩
  · have a2 := at_comp a okc
    obtain ⟨r, hr, e⟩ := row_item hi
    subst e
    have hr2 : r ∈ rs := List.mem_of_getElem? hr
    have hRn : R[n]? = some r.2 := by rw [← hrs, List.getElem?_map, hr]; rfl
    have hrow := K.rows r.2 (List.mem_of_getElem? hRn)
    obtain ⟨ns, Y, e1, e2, e3, e4⟩ := id hJ
    have hm : ∀ {x : Addr × MO}, x ∈ M2 → x ∈ M := fun h => e2 ▸ List.mem_append_right _ h
    have hlohi : spA B.g.text i j ≤ spZ B.g.text i j := by unfold spA spZ; lia
    refine ti_one ?_
    refine s_loc a2 0 (by kernel_rfl) ?_
    refine c_ref a2 226 (by kernel_rfl) rfl ?_
    refine a_cons rfl ?_
    refine r_loc a2 0 (by kernel_rfl) rfl ?_
    refine a_cons rfl ?_
    refine r_attr rfl ?_
    refine r_cell a2 rfl (by kernel_rfl) (ca := c1) rfl (hm (hsp (hce (.head _)))) ?_
    refine t_get a2 257 3 (by kernel_rfl) (hm (hsp hs1)) (hm (hsp hs2)) rfl rfl ?_
    refine a_cons rfl ?_
    refine r_attr rfl ?_
    refine r_cell a2 rfl (by kernel_rfl) (ca := c1) rfl (hm (hsp (hce (.head _)))) ?_
    refine t_get a2 257 4 (by kernel_rfl) (hm (hsp hs1)) (hm (hsp hs2)) rfl rfl ?_
    refine a_cons rfl ?_
    refine r_cell a2 rfl (by kernel_rfl) (ca := c2) rfl (hm (hsp (hce (.tail _ (.head _))))) ?_
    refine a_nil ?_
    refine k_row a2 (x := (r.1, .lst (ilst r.2))) (y := (r.1, .lst (ilst r.2))) (by lia) (fun S hs1 hs2 p w => d_cleared hs1 (Int.natCast_nonneg _) (Int.ofNat_le.mpr hlohi) (Int.ofNat_le.mpr K.hc) hrow.1 hrow.2.1 p w) (hm (hsp (hrl hr2))) (hm (hsp (hrl hr2))) fun q' Z M' hL hq => ?_
    exact ⟨_, hL, Made.snoc hJ hRn (hrl hr2) (hrl hr2) hq⟩
  obtain ⟨ns, Y, rfl, rfl, e3, e4⟩ := hJ
  refine a_cons rfl ?_
  refine r_attr rfl ?_
  refine r_cell a hcs (by kernel_rfl) rfl (.tail _ (List.mem_append_right _ (List.mem_append_right _ (hsp (hce (.head _)))))) ?_
  refine t_get a 257 4 (by kernel_rfl) (.tail _ (List.mem_append_right _ (List.mem_append_right _ (hsp hs1)))) (.tail _ (List.mem_append_right _ (List.mem_append_right _ (hsp hs2)))) rfl rfl ?_
  refine a_cons rfl ?_
  refine r_cell a hcs (by kernel_rfl) rfl (.tail _ (List.mem_append_right _ (List.mem_append_right _ (hsp (hce (.tail _ (.head _))))))) ?_
  refine a_nil ?_
  subst hM2
  have hW : ns.map (·.2) = R.map fun xs => rowW 1 xs (spA B.g.text i j) (spZ B.g.text i j) [] := by rw [e3, List.take_of_length_le (by rw [List.length_map, refs_len, hlen]; exact Nat.le_refl _)]
  have hnl : ns.length = rs.length := by rw [hlen, ← List.length_map (f := (·.2)), hW, List.length_map]
  refine TC.less (M₀ := bufL B ++ (((u, .lst (refs ns)) :: (q, .lst (refs rs)) :: Y) ++ K2)) (Less.swap (E := (u, .lst (refs ns)) :: (q, .lst (refs rs)) :: Y)) ?_
  refine use' a (fun p w => d_put_rows (rs := rs) (ns := ns) (R := R) G K.ok (List.mem_append_right _ hs1) (List.mem_append_right _ hs2) (.tail _ (.head _)) (fun r hr => List.mem_append_right _ (hrl hr)) (.head _) (fun r hr => .tail _ (.tail _ (e4 r hr))) hnl (by rw [hlen]; exact K.few) ?_ ?_ K.cells hrs (by rw [hlen]; exact K.hH) (by rw [hlen]; exact K.g0) ?_ p w) (by lia) ?_
  · intro r hr
    have : r.2 ∈ R.map fun xs => rowW 1 xs (spA B.g.text i j) (spZ B.g.text i j) [] := hW ▸ List.mem_map_of_mem hr
    obtain ⟨xs, hx, e⟩ := List.mem_map.mp this
    rw [← e]; exact (K.rows xs hx).2.2
  · intro r hr
    have := K.rows r.2 (hrs ▸ List.mem_map_of_mem hr)
    exact ⟨this.1, this.2.1⟩
  · intro k t F xs ys hx hy hG
    have e : ys = rowW 1 xs (spA B.g.text i j) (spZ B.g.text i j) [] := by
      rw [hW, List.getElem?_map, hx] at hy; exact (Option.some.inj hy).symm
    subst e
    exact K.step k t F xs hx hG
  · rintro _ _ ⟨B', t, F, rfl, hB, hG⟩
    refine st_nil ?_
    rw [hK2]
    refine ⟨bufL B' ++ X, Less.app (.drop (.skip (.skip (.drop (.drop (.refl _)))))), B', t, F, rfl, hB.turn rfl ?_ rfl rfl, hG⟩
    have := K.few; lia
theorem d_open_rectangle {B : Buf} {X : Led} {i j : Nat} {R : List (List Int)} {G : Nat → List Int → (Int → Int) → Prop} (K : RectOk B i j 2 [] R G) (prog : Program) (w : World) :
    Does prog w (KK w.params) (.ref 318) 9 [.ref B.b, .int ((i : Int) + 1), .int ((j : Int) + 1), .int 8] (bufL B ++ X) (fun _ M' => ∃ B' t F, M' = bufL B' ++ X ∧ B.To B' t (B.g.cells.length + 2080) (F B.pt) F ∧ G 0 t F) := by
  refine does_fnC (w := w) 318 (fS 49) (cv := [(Str.ofString "span", none), (Str.ofString "tab", some (.int 8))]) rfl (by kernel_rfl) (fun vs hv => ?_) (by kernel_rfl) rfl rfl fun c a cs hl hcs => ?_
  · obtain ⟨v1, v2, v3, v4, rfl⟩ := len4 hv
    kernel_rfl
  obtain ⟨c1, c2, rfl⟩ := len2 hl
  replace hcs : c.env.cells = [(Str.ofString "span", c1), (Str.ofString "tab", c2)] := hcs
  show Tf c _ [(Str.ofString "buffer", .ref B.b), (Str.ofString "start", .int ((i : Int) + 1)), (Str.ofString "end", .int ((j : Int) + 1))] ([(c1, .cell (none)), (c2, .cell (some (.int 8)))] ++ (bufL B ++ X)) _ _
  refine st_cons ?_
  refine st_assign rfl rfl rfl ?_
  refine c_ref a 282 (by kernel_rfl) rfl ?_
  refine a_cons rfl ?_
  refine r_loc a 0 (by kernel_rfl) rfl ?_
  refine a_cons rfl ?_
  refine r_loc a 1 (by kernel_rfl) rfl ?_
  refine a_cons rfl ?_
  refine r_loc a 2 (by kernel_rfl) rfl ?_
  refine a_cons rfl ?_
  refine r_cell a hcs (by kernel_rfl) rfl (.tail _ (.head _)) ?_
  refine a_nil ?_
  refine k_span_of a (Nat.le_of_ble_eq_true rfl) K.ok K.hi K.hj K.h9 K.hz .swap fun sp sd q rs hrs => ?_
  rw [K.hR] at hrs
  refine s_cell a hcs (by kernel_rfl) rfl (.tail (.tail (.tail (Up.right _ .head)))) ?_
  refine Tf.less span_less ?_
  have hsp : ∀ {x : Addr × MO}, x ∈ (sp, MO.inst 257 sd) :: (sd, .flds (spanF (.int ((spL B.g.text i j : Nat) + 1)) (.int ((spH B.g.text i j : Nat) + 1)) q (.int (spA B.g.text i j : Nat)) (.int (spZ B.g.text i j : Nat)))) :: (rowL rs ++ ([(c1, .cell (some (.ref sp))), (c2, .cell (some (.int 8)))] ++ X)) → x ∈ bufL B ++ ((sp, MO.inst 257 sd) :: (sd, .flds (spanF (.int ((spL B.g.text i j : Nat) + 1)) (.int ((spH B.g.text i j : Nat) + 1)) q (.int (spA B.g.text i j : Nat)) (.int (spZ B.g.text i j : Nat)))) :: (rowL rs ++ ([(c1, .cell (some (.ref sp))), (c2, .cell (some (.int 8)))] ++ X))) := fun h => List.mem_append_right _ h
  have hce : ∀ {x : Addr × MO}, x ∈ [(c1, .cell (some (.ref sp))), (c2, .cell (some (.int 8)))] → x ∈ (sp, MO.inst 257 sd) :: (sd, .flds (spanF (.int ((spL B.g.text i j : Nat) + 1)) (.int ((spH B.g.text i j : Nat) + 1)) q (.int (spA B.g.text i j : Nat)) (.int (spZ B.g.text i j : Nat)))) :: (rowL rs ++ ([(c1, .cell (some (.ref sp))), (c2, .cell (some (.int 8)))] ++ X)) := fun h => .tail _ (.tail _ (List.mem_append_right _ (List.mem_append_left _ h)))
  generalize hM2 : bufL B ++ ((sp, MO.inst 257 sd) :: (sd, .flds (spanF (.int ((spL B.g.text i j : Nat) + 1)) (.int ((spH B.g.text i j : Nat) + 1)) q (.int (spA B.g.text i j : Nat)) (.int (spZ B.g.text i j : Nat)))) :: (rowL rs ++ ([(c1, .cell (some (.ref sp))), (c2, .cell (some (.int 8)))] ++ X))) = M2 at hsp
  show Tf c _ _ ((q, MO.lst (refs rs)) :: (bufL B ++ ((sp, MO.inst 257 sd) :: (sd, .flds (spanF (.int ((spL B.g.text i j : Nat) + 1)) (.int ((spH B.g.text i j : Nat) + 1)) q (.int (spA B.g.text i j : Nat)) (.int (spZ B.g.text i j : Nat)))) :: (rowL rs ++ ([(c1, .cell (some (.ref sp))), (c2, .cell (some (.int 8)))] ++ X))))) _ _
  rw [hM2]
  obtain ⟨K2, hK2⟩ : ∃ K2, K2 = (sp, MO.inst 257 sd) :: (sd, MO.flds (spanF (.int ((spL B.g.text i j : Nat) + 1)) (.int ((spH B.g.text i j : Nat) + 1)) q (.int (spA B.g.text i j : Nat)) (.int (spZ B.g.text i j : Nat)))) :: (rowL rs ++ ([(c1, .cell (some (.ref sp))), (c2, .cell (some (.int 8)))] ++ X)) := ⟨_, rfl⟩
  rw [← hK2] at hsp hce hM2
  have hrl : ∀ {r : Addr × List Int}, r ∈ rs → (r.1, MO.lst (ilst r.2)) ∈ K2 := fun h => by rw [hK2]; exact .tail _ (.tail _ (List.mem_append_left _ (rowL_mem h)))
  have hs1 : (sp, MO.inst 257 sd) ∈ K2 := by rw [hK2]; exact .head _
  have hs2 : (sd, MO.flds (spanF (.int ((spL B.g.text i j : Nat) + 1)) (.int ((spH B.g.text i j : Nat) + 1)) q (.int (spA B.g.text i j : Nat)) (.int (spZ B.g.text i j : Nat)))) ∈ K2 := by rw [hK2]; exact .tail _ (.head _)
  refine st_cons ?_
  refine st_expr a.ok rfl ?_
  refine c_ref a 303 (by kernel_rfl) rfl ?_
  refine a_cons rfl ?_
  refine r_loc a 0 (by kernel_rfl) rfl ?_
  refine a_cons rfl ?_
  refine r_cell a hcs (by kernel_rfl) rfl (.tail _ (hsp (hce (.head _)))) ?_
  refine a_cons rfl ?_
  refine ev_comp a.ok (clo_ok hcs (cl := [(Str.ofString "tab", c2), (Str.ofString "span", c1)]) (by kernel_rfl)) (by decide +kernel) rfl (by decide +kernel) (fun _ => rfl) ?_
  refine ti_list a.ok ?_
  refine r_attr rfl ?_
  refine r_cell a hcs (by kernel_rfl) rfl (.tail _ (hsp (hce (.head _)))) ?_
  refine t_get a 257 2 (by kernel_rfl) (.tail _ (hsp hs1)) (.tail _ (hsp hs2)) rfl rfl ?_
  have hlen : rs.length = R.length := by rw [← hrs, List.length_map]
  refine ⟨q, refs rs, M2, rfl, .refl _, by rw [List.length_map, refs_len, hlen]; exact szOk (Nat.le_trans K.few (by lia)), Made R (fun xs => rowW 2 xs (spA B.g.text i j) (spZ B.g.text i j) []) M2 K2, ⟨M2, .refl _, [], [], rfl, rfl, rfl, nofun⟩, fun C h₀ n iv acc M okc hi hJ => ?_, fun acc M hJ hl2 u => ?_⟩
  · have a2 := at_comp a okc
    obtain ⟨r, hr, e⟩ := row_item hi
    subst e
    have hr2 : r ∈ rs := List.mem_of_getElem? hr
    have hRn : R[n]? = some r.2 := by rw [← hrs, List.getElem?_map, hr]; rfl
    have hrow := K.rows r.2 (List.mem_of_getElem? hRn)
    obtain ⟨ns, Y, e1, e2, e3, e4⟩ := id hJ
    have hm : ∀ {x : Addr × MO}, x ∈ M2 → x ∈ M := fun h => e2 ▸ List.mem_append_right _ h
    have hlohi : spA B.g.text i j ≤ spZ B.g.text i j := by unfold spA spZ; lia
    refine ti_one ?_
    refine s_loc a2 0 (by kernel_rfl) ?_
    refine c_ref a2 233 (by kernel_rfl) rfl ?_
    refine a_cons rfl ?_
    refine r_loc a2 0 (by kernel_rfl) rfl ?_
    refine a_cons rfl ?_
    refine r_attr rfl ?_
    refine r_cell a2 rfl (by kernel_rfl) (ca := c1) rfl (hm (hsp (hce (.head _)))) ?_
    refine t_get a2 257 3 (by kernel_rfl) (hm (hsp hs1)) (hm (hsp hs2)) rfl rfl ?_
    refine a_cons rfl ?_
    refine r_attr rfl ?_
    refine r_cell a2 rfl (by kernel_rfl) (ca := c1) rfl (hm (hsp (hce (.head _)))) ?_
    refine t_get a2 257 4 (by kernel_rfl) (hm (hsp hs1)) (hm (hsp hs2)) rfl rfl ?_
    refine a_cons rfl ?_
    refine r_cell a2 rfl (by kernel_rfl) (ca := c2) rfl (hm (hsp (hce (.tail _ (.head _))))) ?_
    refine a_nil ?_
    refine k_row a2 (x := (r.1, .lst (ilst r.2))) (y := (r.1, .lst (ilst r.2))) (by lia) (fun S hs1 hs2 p w => d_opened_up hs1 (Int.natCast_nonneg _) (Int.ofNat_le.mpr hlohi) (Int.ofNat_le.mpr K.hc) hrow.1 hrow.2.1 p w) (hm (hsp (hrl hr2))) (hm (hsp (hrl hr2))) fun q' Z M' hL hq => ?_
    exact ⟨_, hL, Made.snoc hJ hRn (hrl hr2) (hrl hr2) hq⟩
  obtain ⟨ns, Y, rfl, rfl, e3, e4⟩ := hJ
  refine a_cons rfl ?_
  refine r_attr rfl ?_
  refine r_cell a hcs (by kernel_rfl) rfl (.tail _ (List.mem_append_right _ (List.mem_append_right _ (hsp (hce (.head _)))))) ?_
  refine t_get a 257 3 (by kernel_rfl) (.tail _ (List.mem_append_right _ (List.mem_append_right _ (hsp hs1)))) (.tail _ (List.mem_append_right _ (List.mem_append_right _ (hsp hs2)))) rfl rfl ?_
  refine a_cons rfl ?_
  refine r_cell a hcs (by kernel_rfl) rfl (.tail _ (List.mem_append_right _ (List.mem_append_right _ (hsp (hce (.tail _ (.head _))))))) ?_
  refine a_nil ?_
  subst hM2
  have hW : ns.map (·.2) = R.map fun xs => rowW 2 xs (spA B.g.text i j) (spZ B.g.text i j) [] := by rw [e3, List.take_of_length_le (by rw [List.length_map, refs_len, hlen]; exact Nat.le_refl _)]
  have hnl : ns.length = rs.length := by rw [hlen, ← List.length_map (f := (·.2)), hW, List.length_map]
  refine TC.less (M₀ := bufL B ++ (((u, .lst (refs ns)) :: (q, .lst (refs rs)) :: Y) ++ K2)) (Less.swap (E := (u, .lst (refs ns)) :: (q, .lst (refs rs)) :: Y)) ?_
  refine use' a (fun p w => d_put_rows (rs := rs) (ns := ns) (R := R) G K.ok (List.mem_append_right _ hs1) (List.mem_append_right _ hs2) (.tail _ (.head _)) (fun r hr => List.mem_append_right _ (hrl hr)) (.head _) (fun r hr => .tail _ (.tail _ (e4 r hr))) hnl (by rw [hlen]; exact K.few) ?_ ?_ K.cells hrs (by rw [hlen]; exact K.hH) (by rw [hlen]; exact K.g0) ?_ p w) (by lia) ?_
  · intro r hr
    have : r.2 ∈ R.map fun xs => rowW 2 xs (spA B.g.text i j) (spZ B.g.text i j) [] := hW ▸ List.mem_map_of_mem hr
    obtain ⟨xs, hx, e⟩ := List.mem_map.mp this
    rw [← e]; exact (K.rows xs hx).2.2
  · intro r hr
    have := K.rows r.2 (hrs ▸ List.mem_map_of_mem hr)
    exact ⟨this.1, this.2.1⟩
  · intro k t F xs ys hx hy hG
    have e : ys = rowW 2 xs (spA B.g.text i j) (spZ B.g.text i j) [] := by
      rw [hW, List.getElem?_map, hx] at hy; exact (Option.some.inj hy).symm
    subst e
    exact K.step k t F xs hx hG
  · rintro _ _ ⟨B', t, F, rfl, hB, hG⟩
    refine st_nil ?_
    rw [hK2]
    refine ⟨bufL B' ++ X, Less.app (.drop (.skip (.skip (.drop (.drop (.refl _)))))), B', t, F, rfl, hB.turn rfl ?_ rfl rfl, hG⟩
    have := K.few; lia
theorem d_string_rectangle {B : Buf} {X : Led} {i j : Nat} {z : Addr} {txt : List Int} {R : List (List Int)} {G : Nat → List Int → (Int → Int) → Prop} (K : RectOk B i j 3 txt R G) (hz : (z, MO.lst (ilst txt)) ∈ X) (hzt : txt.length ≤ 1000) (prog : Program) (w : World) :
    Does prog w (KK w.params) (.ref 323) 9 [.ref B.b, .int ((i : Int) + 1), .int ((j : Int) + 1), .ref z, .int 8] (bufL B ++ X) (fun _ M' => ∃ B' t F, M' = bufL B' ++ X ∧ B.To B' t (B.g.cells.length + 2080) (F B.pt) F ∧ G 0 t F) := by
  refine does_fnC (w := w) 323 (fS 50) (cv := [(Str.ofString "span", none), (Str.ofString "tab", some (.int 8)), (Str.ofString "codes", some (.ref z))]) rfl (by kernel_rfl) (fun vs hv => ?_) (by kernel_rfl) rfl rfl fun c a cs hl hcs => ?_
  · obtain ⟨v1, v2, v3, v4, v5, rfl⟩ := len5 hv
    kernel_rfl
  obtain ⟨c1, c2, c3, rfl⟩ := len3 hl
  replace hcs : c.env.cells = [(Str.ofString "span", c1), (Str.ofString "tab", c2), (Str.ofString "codes", c3)] := hcs
  show Tf c _ [(Str.ofString "buffer", .ref B.b), (Str.ofString "start", .int ((i : Int) + 1)), (Str.ofString "end", .int ((j : Int) + 1))] ([(c1, .cell (none)), (c2, .cell (some (.int 8))), (c3, .cell (some (.ref z)))] ++ (bufL B ++ X)) _ _
  refine st_cons ?_
  refine st_assign rfl rfl rfl ?_
  refine c_ref a 282 (by kernel_rfl) rfl ?_
  refine a_cons rfl ?_
  refine r_loc a 0 (by kernel_rfl) rfl ?_
  refine a_cons rfl ?_
  refine r_loc a 1 (by kernel_rfl) rfl ?_
  refine a_cons rfl ?_
  refine r_loc a 2 (by kernel_rfl) rfl ?_
  refine a_cons rfl ?_
  refine r_cell a hcs (by kernel_rfl) rfl (.tail _ (.head _)) ?_
  refine a_nil ?_
  refine k_span_of a (Nat.le_of_ble_eq_true rfl) K.ok K.hi K.hj K.h9 K.hz .swap fun sp sd q rs hrs => ?_
  rw [K.hR] at hrs
  refine s_cell a hcs (by kernel_rfl) rfl (.tail (.tail (.tail (Up.right _ .head)))) ?_
  refine Tf.less span_less ?_
  have hsp : ∀ {x : Addr × MO}, x ∈ (sp, MO.inst 257 sd) :: (sd, .flds (spanF (.int ((spL B.g.text i j : Nat) + 1)) (.int ((spH B.g.text i j : Nat) + 1)) q (.int (spA B.g.text i j : Nat)) (.int (spZ B.g.text i j : Nat)))) :: (rowL rs ++ ([(c1, .cell (some (.ref sp))), (c2, .cell (some (.int 8))), (c3, .cell (some (.ref z)))] ++ X)) → x ∈ bufL B ++ ((sp, MO.inst 257 sd) :: (sd, .flds (spanF (.int ((spL B.g.text i j : Nat) + 1)) (.int ((spH B.g.text i j : Nat) + 1)) q (.int (spA B.g.text i j : Nat)) (.int (spZ B.g.text i j : Nat)))) :: (rowL rs ++ ([(c1, .cell (some (.ref sp))), (c2, .cell (some (.int 8))), (c3, .cell (some (.ref z)))] ++ X))) := fun h => List.mem_append_right _ h
  have hce : ∀ {x : Addr × MO}, x ∈ [(c1, .cell (some (.ref sp))), (c2, .cell (some (.int 8))), (c3, .cell (some (.ref z)))] → x ∈ (sp, MO.inst 257 sd) :: (sd, .flds (spanF (.int ((spL B.g.text i j : Nat) + 1)) (.int ((spH B.g.text i j : Nat) + 1)) q (.int (spA B.g.text i j : Nat)) (.int (spZ B.g.text i j : Nat)))) :: (rowL rs ++ ([(c1, .cell (some (.ref sp))), (c2, .cell (some (.int 8))), (c3, .cell (some (.ref z)))] ++ X)) := fun h => .tail _ (.tail _ (List.mem_append_right _ (List.mem_append_left _ h)))
  generalize hM2 : bufL B ++ ((sp, MO.inst 257 sd) :: (sd, .flds (spanF (.int ((spL B.g.text i j : Nat) + 1)) (.int ((spH B.g.text i j : Nat) + 1)) q (.int (spA B.g.text i j : Nat)) (.int (spZ B.g.text i j : Nat)))) :: (rowL rs ++ ([(c1, .cell (some (.ref sp))), (c2, .cell (some (.int 8))), (c3, .cell (some (.ref z)))] ++ X))) = M2 at hsp
  show Tf c _ _ ((q, MO.lst (refs rs)) :: (bufL B ++ ((sp, MO.inst 257 sd) :: (sd, .flds (spanF (.int ((spL B.g.text i j : Nat) + 1)) (.int ((spH B.g.text i j : Nat) + 1)) q (.int (spA B.g.text i j : Nat)) (.int (spZ B.g.text i j : Nat)))) :: (rowL rs ++ ([(c1, .cell (some (.ref sp))), (c2, .cell (some (.int 8))), (c3, .cell (some (.ref z)))] ++ X))))) _ _
  rw [hM2]
  obtain ⟨K2, hK2⟩ : ∃ K2, K2 = (sp, MO.inst 257 sd) :: (sd, MO.flds (spanF (.int ((spL B.g.text i j : Nat) + 1)) (.int ((spH B.g.text i j : Nat) + 1)) q (.int (spA B.g.text i j : Nat)) (.int (spZ B.g.text i j : Nat)))) :: (rowL rs ++ ([(c1, .cell (some (.ref sp))), (c2, .cell (some (.int 8))), (c3, .cell (some (.ref z)))] ++ X)) := ⟨_, rfl⟩
  rw [← hK2] at hsp hce hM2
  have hrl : ∀ {r : Addr × List Int}, r ∈ rs → (r.1, MO.lst (ilst r.2)) ∈ K2 := fun h => by rw [hK2]; exact .tail _ (.tail _ (List.mem_append_left _ (rowL_mem h)))
  have hs1 : (sp, MO.inst 257 sd) ∈ K2 := by rw [hK2]; exact .head _
  have hs2 : (sd, MO.flds (spanF (.int ((spL B.g.text i j : Nat) + 1)) (.int ((spH B.g.text i j : Nat) + 1)) q (.int (spA B.g.text i j : Nat)) (.int (spZ B.g.text i j : Nat)))) ∈ K2 := by rw [hK2]; exact .tail _ (.head _)
  have hzK : (z, MO.lst (ilst txt)) ∈ K2 := by rw [hK2]; exact .tail _ (.tail _ (List.mem_append_right _ (List.mem_append_right _ hz)))
  refine st_cons ?_
  refine st_expr a.ok rfl ?_
  refine c_ref a 303 (by kernel_rfl) rfl ?_
  refine a_cons rfl ?_
  refine r_loc a 0 (by kernel_rfl) rfl ?_
  refine a_cons rfl ?_
  refine r_cell a hcs (by kernel_rfl) rfl (.tail _ (hsp (hce (.head _)))) ?_
  refine a_cons rfl ?_
  refine ev_comp a.ok (clo_ok hcs (cl := [(Str.ofString "tab", c2), (Str.ofString "span", c1), (Str.ofString "codes", c3)]) (by kernel_rfl)) (by decide +kernel) rfl (by decide +kernel) (fun _ => rfl) ?_
  refine ti_list a.ok ?_
  refine r_attr rfl ?_
  refine r_cell a hcs (by kernel_rfl) rfl (.tail _ (hsp (hce (.head _)))) ?_
  refine t_get a 257 2 (by kernel_rfl) (.tail _ (hsp hs1)) (.tail _ (hsp hs2)) rfl rfl ?_
  have hlen : rs.length = R.length := by rw [← hrs, List.length_map]
  refine ⟨q, refs rs, M2, rfl, .refl _, by rw [List.length_map, refs_len, hlen]; exact szOk (Nat.le_trans K.few (by lia)), Made R (fun xs => rowW 3 xs (spA B.g.text i j) (spZ B.g.text i j) txt) M2 K2, ⟨M2, .refl _, [], [], rfl, rfl, rfl, nofun⟩, fun C h₀ n iv acc M okc hi hJ => ?_, fun acc M hJ hl2 u => ?_⟩
  · have a2 := at_comp a okc
    obtain ⟨r, hr, e⟩ := row_item hi
    subst e
    have hr2 : r ∈ rs := List.mem_of_getElem? hr
    have hRn : R[n]? = some r.2 := by rw [← hrs, List.getElem?_map, hr]; rfl
    have hrow := K.rows r.2 (List.mem_of_getElem? hRn)
    obtain ⟨ns, Y, e1, e2, e3, e4⟩ := id hJ
    have hm : ∀ {x : Addr × MO}, x ∈ M2 → x ∈ M := fun h => e2 ▸ List.mem_append_right _ h
    have hlohi : spA B.g.text i j ≤ spZ B.g.text i j := by unfold spA spZ; lia
    refine ti_one ?_
    refine s_loc a2 0 (by kernel_rfl) ?_
    refine c_ref a2 240 (by kernel_rfl) rfl ?_
    refine a_cons rfl ?_
    refine r_loc a2 0 (by kernel_rfl) rfl ?_
    refine a_cons rfl ?_
    refine r_attr rfl ?_
    refine r_cell a2 rfl (by kernel_rfl) (ca := c1) rfl (hm (hsp (hce (.head _)))) ?_
    refine t_get a2 257 3 (by kernel_rfl) (hm (hsp hs1)) (hm (hsp hs2)) rfl rfl ?_
    refine a_cons rfl ?_
    refine r_attr rfl ?_
    refine r_cell a2 rfl (by kernel_rfl) (ca := c1) rfl (hm (hsp (hce (.head _)))) ?_
    refine t_get a2 257 4 (by kernel_rfl) (hm (hsp hs1)) (hm (hsp hs2)) rfl rfl ?_
    refine a_cons rfl ?_
    refine r_cell a2 rfl (by kernel_rfl) (ca := c3) rfl (hm (hsp (hce (.tail _ (.tail _ (.head _)))))) ?_
    refine a_cons rfl ?_
    refine r_cell a2 rfl (by kernel_rfl) (ca := c2) rfl (hm (hsp (hce (.tail _ (.head _))))) ?_
    refine a_nil ?_
    refine k_row a2 (x := (r.1, .lst (ilst r.2))) (y := (z, .lst (ilst txt))) (by lia) (fun S hs1 hs2 p w => d_replaced hs1 hs2 (Int.natCast_nonneg _) (Int.ofNat_le.mpr hlohi) (Int.ofNat_le.mpr K.hc) hrow.1 hrow.2.1 hzt p w) (hm (hsp (hrl hr2))) (hm (hsp hzK)) fun q' Z M' hL hq => ?_
    exact ⟨_, hL, Made.snoc hJ hRn (hrl hr2) hzK hq⟩
  obtain ⟨ns, Y, rfl, rfl, e3, e4⟩ := hJ
  refine a_cons rfl ?_
  refine r_attr rfl ?_
  refine r_cell a hcs (by kernel_rfl) rfl (.tail _ (List.mem_append_right _ (List.mem_append_right _ (hsp (hce (.head _)))))) ?_
  refine t_get a 257 4 (by kernel_rfl) (.tail _ (List.mem_append_right _ (List.mem_append_right _ (hsp hs1)))) (.tail _ (List.mem_append_right _ (List.mem_append_right _ (hsp hs2)))) rfl rfl ?_
  refine a_cons rfl ?_
  refine r_cell a hcs (by kernel_rfl) rfl (.tail _ (List.mem_append_right _ (List.mem_append_right _ (hsp (hce (.tail _ (.head _))))))) ?_
  refine a_nil ?_
  subst hM2
  have hW : ns.map (·.2) = R.map fun xs => rowW 3 xs (spA B.g.text i j) (spZ B.g.text i j) txt := by rw [e3, List.take_of_length_le (by rw [List.length_map, refs_len, hlen]; exact Nat.le_refl _)]
  have hnl : ns.length = rs.length := by rw [hlen, ← List.length_map (f := (·.2)), hW, List.length_map]
  refine TC.less (M₀ := bufL B ++ (((u, .lst (refs ns)) :: (q, .lst (refs rs)) :: Y) ++ K2)) (Less.swap (E := (u, .lst (refs ns)) :: (q, .lst (refs rs)) :: Y)) ?_
  refine use' a (fun p w => d_put_rows (rs := rs) (ns := ns) (R := R) G K.ok (List.mem_append_right _ hs1) (List.mem_append_right _ hs2) (.tail _ (.head _)) (fun r hr => List.mem_append_right _ (hrl hr)) (.head _) (fun r hr => .tail _ (.tail _ (e4 r hr))) hnl (by rw [hlen]; exact K.few) ?_ ?_ K.cells hrs (by rw [hlen]; exact K.hH) (by rw [hlen]; exact K.g0) ?_ p w) (by lia) ?_
  · intro r hr
    have : r.2 ∈ R.map fun xs => rowW 3 xs (spA B.g.text i j) (spZ B.g.text i j) txt := hW ▸ List.mem_map_of_mem hr
    obtain ⟨xs, hx, e⟩ := List.mem_map.mp this
    rw [← e]; exact (K.rows xs hx).2.2
  · intro r hr
    have := K.rows r.2 (hrs ▸ List.mem_map_of_mem hr)
    exact ⟨this.1, this.2.1⟩
  · intro k t F xs ys hx hy hG
    have e : ys = rowW 3 xs (spA B.g.text i j) (spZ B.g.text i j) txt := by
      rw [hW, List.getElem?_map, hx] at hy; exact (Option.some.inj hy).symm
    subst e
    exact K.step k t F xs hx hG
  · rintro _ _ ⟨B', t, F, rfl, hB, hG⟩
    refine st_nil ?_
    rw [hK2]
    refine ⟨bufL B' ++ X, Less.app (.drop (.skip (.skip (.drop (.drop (.refl _)))))), B', t, F, rfl, hB.turn rfl ?_ rfl rfl, hG⟩
    have := K.few; lia
end
end Mine
end

section
open PySem PySem.W PySem.Calls PyProof.Rows
set_option Elab.async false
set_option maxRecDepth 100000
set_option linter.unusedVariables false
namespace Mine
section
variable {c : Cx} {sc : Scope} {d : Nat} {lm : Loc} {M : Led} {k : MV → Led → Prop}
theorem perm5 {A B C D E : Led} : ((A ++ (B ++ (C ++ D))) ++ E).Perm (C ++ E ++ (A ++ (B ++ D))) := by
  have h : ((A ++ B) ++ (C ++ (D ++ E))).Perm (C ++ ((A ++ B) ++ (D ++ E))) := by
    rw [← List.append_assoc, ← List.append_assoc C]; exact List.perm_append_comm.append_right _
  have h2 : ((A ++ B) ++ (D ++ E)).Perm (E ++ ((A ++ B) ++ D)) := by
    rw [← List.append_assoc]; exact List.perm_append_comm
  have := h.trans (h2.append_left C)
  simpa only [List.append_assoc] using this
theorem perm4 {A B C D : Led} : (A ++ (B ++ (C ++ D))).Perm (D ++ (A ++ (C ++ B))) := by
  have h : (A ++ (B ++ (C ++ D))).Perm (A ++ ((C ++ D) ++ B)) := .append_left A List.perm_append_comm
  have h2 : (C ++ D ++ B).Perm (D ++ (C ++ B)) := by
    rw [← List.append_assoc D]; exact List.perm_append_comm.append_right _
  refine h.trans ((h2.append_left A).trans ?_)
  rw [← List.append_assoc, ← List.append_assoc D]; exact List.perm_append_comm.append_right _
theorem d_GapText {M : Led} {z : Addr} (hz : (z, MO.lst (ilst [])) ∈ M) (prog : Program) (w : World) : Does prog w (KK w.params) (.ref 410) 2 [.ref z, .int 8] M (fun r M' => ∃ g, r = .ref g.t ∧ M' = gapL g ++ M ∧ g.Ok ∧ g.text = [] ∧ g.cells.length = 8) := by
  refine makes 410 337 (by kernel_rfl) fun x dx => ?_
  refine does_fn 337 (cS 52 0) rfl (by kernel_rfl) (fun vs s' _ => bind3 rfl (fun v1 v2 v3 => by kernel_rfl) vs s') (by kernel_rfl) rfl fun c a => ?_
  refine st_cons ?_
  refine st_assign rfl rfl rfl ?_
  refine r_loc a 2 (by kernel_rfl) rfl ?_
  refine ta_attr ?_
  refine r_loc a 0 (by kernel_rfl) rfl ?_
  refine s_field a 410 0 (by kernel_rfl) (by trivial) (by decreasing_tactic) (by kernel_rfl) ?_
  refine st_cons ?_
  refine st_assign rfl rfl rfl ?_
  refine ev_binop ?_
  refine c_typ a "list" (by kernel_rfl) rfl ?_
  refine a_cons rfl ?_
  refine r_loc a 1 (by kernel_rfl) rfl ?_
  refine a_nil ?_
  refine tc_list (.tail _ (.tail _ hz)) fun q1 => ?_
  refine ev_binop ?_
  refine e_list ?_
  refine a_cons rfl ?_
  refine ev_int ?_
  refine a_nil ?_
  refine ⟨Nat.le_of_ble_eq_true rfl, fun q2 => ?_⟩
  refine r_loc a 2 (by kernel_rfl) rfl ?_
  refine bin_mul_lst (.head _) (by lia) (Nat.le_of_ble_eq_true rfl) fun q3 => ?_
  refine bin_add_lst (xs := ilst []) (ys := ilst (List.replicate 8 0)) (.tail _ (.tail _ (.head _))) (.head _) (szOk (Nat.le_of_ble_eq_true rfl)) fun q4 => ?_
  refine ta_attr ?_
  refine r_loc a 0 (by kernel_rfl) rfl ?_
  refine s_field a 410 1 (by kernel_rfl) (by trivial) (by decreasing_tactic) (by kernel_rfl) ?_
  refine st_cons ?_
  refine st_assign rfl rfl rfl ?_
  refine c_blt a "len" (by kernel_rfl) rfl ?_
  refine a_cons rfl ?_
  refine r_loc a 1 (by kernel_rfl) rfl ?_
  refine a_nil ?_
  refine tc_len (xs := ilst []) (.tail _ (.tail _ (.tail _ (.tail _ (.tail _ (.tail _ hz)))))) ?_
  refine ta_attr ?_
  refine r_loc a 0 (by kernel_rfl) rfl ?_
  refine s_field a 410 2 (by kernel_rfl) (by trivial) (by decreasing_tactic) (by kernel_rfl) ?_
  refine st_cons ?_
  refine st_assign rfl rfl rfl ?_
  refine ev_binop ?_
  refine c_blt a "len" (by kernel_rfl) rfl ?_
  refine a_cons rfl ?_
  refine r_loc a 1 (by kernel_rfl) rfl ?_
  refine a_nil ?_
  refine tc_len (xs := ilst []) (.tail _ (.tail _ (.tail _ (.tail _ (.tail _ (.tail _ hz)))))) ?_
  refine r_loc a 2 (by kernel_rfl) rfl ?_
  refine bin_add ?_
  refine ta_attr ?_
  refine r_loc a 0 (by kernel_rfl) rfl ?_
  refine s_field a 410 3 (by kernel_rfl) (by trivial) (by decreasing_tactic) (by kernel_rfl) ?_
  refine st_nil ?_
  refine ⟨(x, .inst 410 dx) :: (dx, .flds (gapF ⟨x, dx, q4, List.replicate 8 0, 0, 8⟩)) :: (q4, .lst (ilst (List.replicate 8 0))) :: M, (Less.cons (.skip (.skip (.skip (.refl _))))).trans (.perm (.trans (.swap _ _ _) (.cons _ (.swap _ _ _)))), rfl, ⟨x, dx, q4, List.replicate 8 0, 0, 8⟩, rfl, rfl, ⟨Nat.le_of_ble_eq_true rfl, Nat.le_of_ble_eq_true rfl, Nat.le_of_ble_eq_true rfl⟩, rfl, rfl⟩
theorem d_Markers {M : Led} (prog : Program) (w : World) : Does prog w (KK w.params) (.ref 555) 2 [] M (fun r M' => ∃ ms md rd, r = .ref ms ∧ M' = (ms, .inst 555 md) :: (md, .flds [(Str.ofString "rows", .ref rd)]) :: (rd, .idict []) :: M ∧ (rd == sysModules) = false) := by
  refine makes 555 503 (by kernel_rfl) fun x dx => ?_
  refine does_fn 503 (cS 57 0) rfl (by kernel_rfl) (fun vs s' _ => bind1 rfl (fun v1 => by kernel_rfl) vs s') (by kernel_rfl) rfl fun c a => ?_
  refine st_cons ?_
  refine st_assign rfl rfl rfl ?_
  refine ev_dict0 a.ok fun q1 lo => ?_
  refine ta_attr ?_
  refine r_loc a 0 (by kernel_rfl) rfl ?_
  refine s_field a 555 0 (by kernel_rfl) (by trivial) (by decreasing_tactic) (by kernel_rfl) ?_
  refine st_nil ?_
  exact ⟨_, .perm (.trans (.swap _ _ _) (.cons _ (.swap _ _ _))), rfl, x, dx, q1, rfl, rfl, lo⟩
/-- a marker that is nowhere yet -/
noncomputable def freshE (x dx : Addr) (n : Int) : Led := [(x, .inst 487 dx), (dx, .flds [(Str.ofString "number", .int n), (Str.ofString "advances", .bool false), (Str.ofString "buffer", .none), (Str.ofString "position", .int 0)])]
theorem d_Marker {M : Led} {n : Int} (prog : Program) (w : World) : Does prog w (KK w.params) (.ref 487) 2 [.int n, .bool false] M (fun r M' => ∃ x dx, r = .ref x ∧ M' = freshE x dx n ++ M) := by
  refine makes 487 463 (by kernel_rfl) fun x dx => ?_
  refine does_fn 463 (cS 56 0) rfl (by kernel_rfl) (fun vs s' _ => bind3 rfl (fun v1 v2 v3 => by kernel_rfl) vs s') (by kernel_rfl) rfl fun c a => ?_
  refine st_cons ?_
  refine st_assign rfl rfl rfl ?_
  refine r_loc a 1 (by kernel_rfl) rfl ?_
  refine ta_attr ?_
  refine r_loc a 0 (by kernel_rfl) rfl ?_
  refine s_field a 487 0 (by kernel_rfl) (by trivial) (by decreasing_tactic) (by kernel_rfl) ?_
  refine st_cons ?_
  refine st_assign rfl rfl rfl ?_
  refine r_loc a 2 (by kernel_rfl) rfl ?_
  refine ta_attr ?_
  refine r_loc a 0 (by kernel_rfl) rfl ?_
  refine s_field a 487 1 (by kernel_rfl) (by trivial) (by decreasing_tactic) (by kernel_rfl) ?_
  refine st_cons ?_
  refine st_assign rfl rfl rfl ?_
  refine ev_none ?_
  refine ta_attr ?_
  refine r_loc a 0 (by kernel_rfl) rfl ?_
  refine s_field a 487 2 (by kernel_rfl) (by trivial) (by decreasing_tactic) (by kernel_rfl) ?_
  refine st_cons ?_
  refine st_assign rfl rfl rfl ?_
  refine ev_int ?_
  refine ta_attr ?_
  refine r_loc a 0 (by kernel_rfl) rfl ?_
  refine s_field a 487 3 (by kernel_rfl) (by trivial) (by decreasing_tactic) (by kernel_rfl) ?_
  refine st_nil ?_
  exact ⟨_, .refl _, rfl, x, dx, rfl, rfl⟩
theorem d_set_marker {B : Buf} {x dx : Addr} {n : Int} {i : Nat} (ok : B.Ok) (few : B.K.l.length < 50) (hn : ∀ m ∈ B.K.l, m.n < n) (hi : i ≤ B.g.text.length) (prog : Program) (w : World) :
    Does prog w (KK w.params) (.ref 670) 3 [.ref x, .ref B.b, .int ((i : Int) + 1)] (freshE x dx n ++ bufL B) (fun r M' => M' = bufL { B with K := { B.K with l := B.K.l ++ [⟨x, dx, n, (i : Int) + 1⟩] } }) := by
  refine does_fn 670 (fS 61) rfl (by kernel_rfl) (fun vs s' _ => bind3 rfl (fun v1 v2 v3 => by kernel_rfl) vs s') (by kernel_rfl) rfl fun c a => ?_
  refine st_cons ?_
  refine st_if ?_
  refine tb_bool ?_
  refine all_and_cons ?_
  refine tb_compare1 rfl ?_
  refine r_attr rfl ?_
  refine r_loc a 0 (by kernel_rfl) rfl ?_
  refine t_get a 487 2 (by kernel_rfl) (by trivial) (by trivial) rfl rfl ?_
  refine ev_none ?_
  refine cmp_isnot_none ?_
  refine ⟨_, rfl, nofun, fun hb => ?_⟩
  refine ⟨nofun, fun _ => ?_⟩
  refine st_nil ?_
  refine st_cons ?_
  refine st_assign rfl rfl rfl ?_
  refine r_loc a 1 (by kernel_rfl) rfl ?_
  refine ta_attr ?_
  refine r_loc a 0 (by kernel_rfl) rfl ?_
  refine s_field a 487 2 (by kernel_rfl) (by trivial) (by decreasing_tactic) (by kernel_rfl) ?_
  refine st_cons ?_
  refine st_if ?_
  refine tb_compare1 rfl ?_
  refine r_loc a 1 (by kernel_rfl) rfl ?_
  refine ev_none ?_
  refine cmp_is_none ?_
  refine ⟨_, rfl, nofun, fun hb => ?_⟩
  refine st_cons ?_
  refine st_expr a.ok rfl ?_
  refine c_meth a 555 517 rfl rfl (by kernel_rfl) ?_
  refine r_attr rfl ?_
  refine r_loc a 1 (by kernel_rfl) rfl ?_
  refine t_get a 661 3 (by kernel_rfl) (by trivial) (by trivial) rfl rfl ?_
  refine ⟨_, _, _, rfl, by trivial, by trivial, by kernel_rfl, ?_⟩
  refine a_cons rfl ?_
  refine r_loc a 0 (by kernel_rfl) rfl ?_
  refine a_cons rfl ?_
  refine c_blt a "min" (by kernel_rfl) rfl ?_
  refine a_cons rfl ?_
  refine c_blt a "max" (by kernel_rfl) rfl ?_
  refine a_cons rfl ?_
  refine r_loc a 2 (by kernel_rfl) rfl ?_
  refine a_cons rfl ?_
  refine ev_int ?_
  refine a_nil ?_
  refine tc_max2 a.ok ?_
  refine a_cons rfl ?_
  refine ev_binop ?_
  refine c_meth a 661 609 rfl rfl (by kernel_rfl) ?_
  refine r_loc a 1 (by kernel_rfl) rfl ?_
  refine ⟨_, _, _, rfl, by trivial, by trivial, by kernel_rfl, ?_⟩
  refine a_nil ?_
  refine k_bsize a (X := [(x, MO.inst 487 dx), (dx, .flds (mkF B.b ⟨x, dx, n, 0⟩))]) (by lia) ok (.perm (List.perm_append_comm (l₁ := [(x, MO.inst 487 dx), (dx, MO.flds (mkF B.b ⟨x, dx, n, 0⟩))]))) ?_
  refine ev_int ?_
  refine bin_add ?_
  refine a_nil ?_
  refine tc_min2 a.ok ?_
  refine a_nil ?_
  rw [show min (max ((i : Int) + 1) 1) ((B.g.text.length : Int) + 1) = (i : Int) + 1 by lia]
  refine k_put a (K := B.K) (m := ⟨x, dx, n, 0⟩) (b := B.b) (X := headL B ++ (gapL B.g ++ mksL B.K.b B.K.l)) (by lia) (by lia) (fun m hm => Int.ne_of_lt (hn m hm)) (.perm perm5) ?_
  refine st_nil ?_
  refine st_nil ?_
  refine ⟨_, .perm ?_, rfl⟩
  unfold bufL markL
  rw [mksL_mid, show mkE B.K.b ⟨x, dx, n, (i : Int) + 1⟩ ++ mksL B.K.b [] = mkE B.b ⟨x, dx, n, (i : Int) + 1⟩ by rw [ok.b]; rfl]
  refine (perm5 (A := headL B) (B := gapL B.g) (C := mhL { B.K with l := B.K.l ++ [⟨x, dx, n, (i : Int) + 1⟩] }) (D := mksL B.K.b B.K.l) (E := mkE B.b ⟨x, dx, n, (i : Int) + 1⟩)).symm.trans ?_
  rw [List.append_assoc, List.append_assoc, List.append_assoc]
  exact .refl _
theorem d_Buffer (prog : Program) (w : World) : Does prog w (KK w.params) (.ref 661) 4 [.int 1, .str "a"] [] (fun r M' => ∃ B : Buf, r = .ref B.b ∧ M' = bufL B ∧ B.Ok ∧ B.g.text = [] ∧ B.pt = 1 ∧ B.K.l = [] ∧ B.g.cells.length = 8) := by
  refine makes 661 574 (by kernel_rfl) fun x dx => ?_
  refine does_fnD 574 (cS 59 0) [.ref x, .int 1, .str "a", .int 8] rfl (by kernel_rfl) (fun vs s' X hr => ?_) (by kernel_rfl) rfl fun c a => ?_
  · obtain ⟨v1, v2, v3, rfl⟩ := len3 hr.length
    exact ⟨[v1, v2, v3, .int 8 _], hr.snoc (.int 8 _), binds_K X rfl rfl rfl rfl rfl⟩
  refine st_cons ?_
  refine st_assign rfl rfl rfl ?_
  refine r_loc a 1 (by kernel_rfl) rfl ?_
  refine ta_attr ?_
  refine r_loc a 0 (by kernel_rfl) rfl ?_
  refine s_field a 661 0 (by kernel_rfl) (by trivial) (by decreasing_tactic) (by kernel_rfl) ?_
  refine st_cons ?_
  refine st_assign rfl rfl rfl ?_
  refine r_loc a 2 (by kernel_rfl) rfl ?_
  refine ta_attr ?_
  refine r_loc a 0 (by kernel_rfl) rfl ?_
  refine s_field a 661 1 (by kernel_rfl) (by trivial) (by decreasing_tactic) (by kernel_rfl) ?_
  refine st_cons ?_
  refine st_assign rfl rfl rfl ?_
  refine c_ref a 410 (by kernel_rfl) rfl ?_
  refine a_cons rfl ?_
  refine e_list ?_
  refine a_nil ?_
  refine ⟨Nat.le_of_ble_eq_true rfl, fun q1 => ?_⟩
  refine a_cons rfl ?_
  refine r_loc a 3 (by kernel_rfl) rfl ?_
  refine a_nil ?_
  refine use' a (fun p w => d_GapText (.head _) p w) (by lia) fun _ _ zz => ?_
  obtain ⟨g, e, e', g1, g2, g3⟩ := zz
  subst e e'
  refine ta_attr ?_
  refine r_loc a 0 (by kernel_rfl) rfl ?_
  refine s_field a 661 2 (by kernel_rfl) (.tail _ (.tail _ (.tail _ (.tail _ (.head _))))) (.tail (.tail (.tail (.tail (.tail .head))))) (by kernel_rfl) ?_
  refine st_cons ?_
  refine st_assign rfl rfl rfl ?_
  refine c_ref a 555 (by kernel_rfl) rfl ?_
  refine a_nil ?_
  refine use' a (fun p w => d_Markers p w) (by lia) fun _ _ zz => ?_
  obtain ⟨ms, md, rd, e, e', lo⟩ := zz
  subst e e'
  refine ta_attr ?_
  refine r_loc a 0 (by kernel_rfl) rfl ?_
  refine s_field a 661 3 (by kernel_rfl) (by trivial) (by decreasing_tactic) (by kernel_rfl) ?_
  refine st_cons ?_
  refine st_assign rfl rfl rfl ?_
  refine ev_int ?_
  refine ta_attr ?_
  refine r_loc a 0 (by kernel_rfl) rfl ?_
  refine s_field a 661 4 (by kernel_rfl) (by trivial) (by decreasing_tactic) (by kernel_rfl) ?_
  refine st_cons ?_
  refine st_assign rfl rfl rfl ?_
  refine ev_int ?_
  refine ta_attr ?_
  refine r_loc a 0 (by kernel_rfl) rfl ?_
  refine s_field a 661 5 (by kernel_rfl) (by trivial) (by decreasing_tactic) (by kernel_rfl) ?_
  refine st_cons ?_
  refine st_assign rfl rfl rfl ?_
  refine ev_int ?_
  refine ta_attr ?_
  refine r_loc a 0 (by kernel_rfl) rfl ?_
  refine s_field a 661 6 (by kernel_rfl) (by trivial) (by decreasing_tactic) (by kernel_rfl) ?_
  refine st_cons ?_
  refine st_assign rfl rfl rfl ?_
  refine ev_none ?_
  refine ta_attr ?_
  refine r_loc a 0 (by kernel_rfl) rfl ?_
  refine s_field a 661 7 (by kernel_rfl) (by trivial) (by decreasing_tactic) (by kernel_rfl) ?_
  refine st_cons ?_
  refine st_assign rfl rfl rfl ?_
  refine ev_bool ?_
  refine ta_attr ?_
  refine r_loc a 0 (by kernel_rfl) rfl ?_
  refine s_field a 661 8 (by kernel_rfl) (by trivial) (by decreasing_tactic) (by kernel_rfl) ?_
  refine st_cons ?_
  refine st_assign rfl rfl rfl ?_
  refine ev_bool ?_
  refine ta_attr ?_
  refine r_loc a 0 (by kernel_rfl) rfl ?_
  refine s_field a 661 9 (by kernel_rfl) (by trivial) (by decreasing_tactic) (by kernel_rfl) ?_
  refine st_cons ?_
  refine st_assign rfl rfl rfl ?_
  refine ev_int ?_
  refine ta_attr ?_
  refine r_loc a 0 (by kernel_rfl) rfl ?_
  refine s_field a 661 10 (by kernel_rfl) (by trivial) (by decreasing_tactic) (by kernel_rfl) ?_
  refine st_cons ?_
  refine st_assign rfl rfl rfl ?_
  refine ev_int ?_
  refine ta_attr ?_
  refine r_loc a 0 (by kernel_rfl) rfl ?_
  refine s_field a 661 11 (by kernel_rfl) (by trivial) (by decreasing_tactic) (by kernel_rfl) ?_
  refine st_cons ?_
  refine st_assign rfl rfl rfl ?_
  refine ev_int ?_
  refine ta_attr ?_
  refine r_loc a 0 (by kernel_rfl) rfl ?_
  refine s_field a 661 12 (by kernel_rfl) (by trivial) (by decreasing_tactic) (by kernel_rfl) ?_
  refine st_cons ?_
  refine st_assign rfl rfl rfl ?_
  refine e_list ?_
  refine a_nil ?_
  refine ⟨Nat.le_of_ble_eq_true rfl, fun q2 => ?_⟩
  refine ta_attr ?_
  refine r_loc a 0 (by kernel_rfl) rfl ?_
  refine s_field a 661 13 (by kernel_rfl) (by trivial) (by decreasing_tactic) (by kernel_rfl) ?_
  refine st_cons ?_
  refine st_assign rfl rfl rfl ?_
  refine ev_none ?_
  refine ta_attr ?_
  refine r_loc a 0 (by kernel_rfl) rfl ?_
  refine s_field a 661 14 (by kernel_rfl) (by trivial) (by decreasing_tactic) (by kernel_rfl) ?_
  refine st_cons ?_
  refine st_assign rfl rfl rfl ?_
  refine ev_none ?_
  refine ta_attr ?_
  refine r_loc a 0 (by kernel_rfl) rfl ?_
  refine s_field a 661 15 (by kernel_rfl) (by trivial) (by decreasing_tactic) (by kernel_rfl) ?_
  refine st_cons ?_
  refine st_assign rfl rfl rfl ?_
  refine ev_none ?_
  refine ta_attr ?_
  refine r_loc a 0 (by kernel_rfl) rfl ?_
  refine s_field a 661 16 (by kernel_rfl) (by trivial) (by decreasing_tactic) (by kernel_rfl) ?_
  refine st_cons ?_
  refine st_assign rfl rfl rfl ?_
  refine ev_none ?_
  refine ta_attr ?_
  refine r_loc a 0 (by kernel_rfl) rfl ?_
  refine s_field a 661 17 (by kernel_rfl) (by trivial) (by decreasing_tactic) (by kernel_rfl) ?_
  refine st_cons ?_
  refine st_assign rfl rfl rfl ?_
  refine ev_none ?_
  refine ta_attr ?_
  refine r_loc a 0 (by kernel_rfl) rfl ?_
  refine s_field a 661 18 (by kernel_rfl) (by trivial) (by decreasing_tactic) (by kernel_rfl) ?_
  refine st_cons ?_
  refine st_assign rfl rfl rfl ?_
  refine ev_none ?_
  refine ta_attr ?_
  refine r_loc a 0 (by kernel_rfl) rfl ?_
  refine s_field a 661 19 (by kernel_rfl) (by trivial) (by decreasing_tactic) (by kernel_rfl) ?_
  refine st_nil ?_
  refine ⟨_, (Less.cons (.cons (.cons (.cons (.cons (.cons (.cons (.skip (.refl _))))))))).trans (.perm (perm4 (A := [_]) (B := [_, _, _]) (C := gapL g) (D := [_, _]))), rfl, ⟨x, dx, _, g, ⟨ms, md, rd, x, []⟩, 1, 1, 1, 1⟩, rfl, rfl, ⟨g1, ⟨lo, Nat.le_of_ble_eq_true rfl, List.Pairwise.nil⟩, rfl, ?_⟩, g2, rfl, rfl, g3⟩
  show (1 : Int) = (g.text.length : Int) + 1
  rw [g2]; rfl
end
end Mine
end

section
open PySem PySem.W PySem.Calls PyProof.Rows
set_option Elab.async false
set_option maxRecDepth 100000
set_option linter.unusedVariables false
namespace Mine
section
variable {c : Cx} {sc : Scope} {d : Nat} {lm : Loc} {M : Led} {k : MV → Led → Prop} {ku : Loc → Led → Prop}
theorem bin_cat {a b : Addr} (xs ys : List Int) (ha : (a, MO.lst (ilst xs)) ∈ M) (hb : (b, MO.lst (ilst ys)) ∈ M) (hz : xs.length + ys.length ≤ 5000) (h : ∀ q, k (.ref q) ((q, .lst (ilst (xs ++ ys))) :: M)) : T2 c (binaryOp .Add) (.ref a) (.ref b) lm M k :=
  bin_add_lst ha hb (szOk (by rw [ilst_len, ilst_len]; lia)) fun q => by rw [ilst_app]; exact h q
theorem bin_rep {a : Addr} {z x : Int} (n : Nat) (ha : (a, MO.lst (ilst [z])) ∈ M) (hx : x.toNat = n) (h0 : -1000 ≤ x) (h1 : n ≤ 256) (h : ∀ q, k (.ref q) ((q, .lst (ilst (List.replicate n z))) :: M)) : T2 c (binaryOp .Mult) (.ref a) (.int x) lm M k := by
  refine bin_mul_lst ha (by lia) (by rw [ilst_len, hx]; simpa using h1) fun q => ?_
  have : (List.replicate x.toNat (ilst [z])).flatten = ilst (List.replicate n z) := by
    rw [hx]; clear hx h0 h1 h
    induction n with
    | zero => rfl
    | succ n ih => rw [List.replicate_succ, List.flatten_cons, ih]; rfl
  rw [this]; exact h q
theorem ev_to {value hi : Expr} {p pos : Pos} (h : Tv c (eval value c.env) lm M fun o M₁ => Tv c (eval hi c.env) lm M₁ fun b M₂ => ∃ l xs, ∃ n : Nat, o = .ref l ∧ (l, MO.lst (ilst xs)) ∈ M₂ ∧ b = .int n ∧ ∀ q, k (.ref q) ((q, .lst (ilst (xs.take n))) :: M₂)) :
    Tv c (eval (.Subscript value (.Slice none (some hi) none p) pos) c.env) lm M k :=
  ev_slice (h.mono fun o M₁ h₁ => part_none (part_some (h₁.mono fun b M₂ ⟨l, xs, n, e1, hm, e2, hk⟩ => by
    subst e1 e2
    refine ⟨l, ilst xs, _, _, rfl, hm, rfl, rfl, fun q => ?_⟩
    rw [cut_to xs (Int.natCast_nonneg n)]; exact hk q)))
theorem ev_from {value lo : Expr} {p pos : Pos} (h : Tv c (eval value c.env) lm M fun o M₁ => Tv c (eval lo c.env) lm M₁ fun b M₂ => ∃ l xs, ∃ n : Nat, o = .ref l ∧ (l, MO.lst (ilst xs)) ∈ M₂ ∧ b = .int n ∧ ∀ q, k (.ref q) ((q, .lst (ilst (xs.drop n))) :: M₂)) :
    Tv c (eval (.Subscript value (.Slice (some lo) none none p) pos) c.env) lm M k :=
  ev_slice (h.mono fun o M₁ h₁ => part_some (h₁.mono fun b M₂ ⟨l, xs, n, e1, hm, e2, hk⟩ => part_none (by
    subst e1 e2
    refine ⟨l, ilst xs, _, _, rfl, hm, rfl, rfl, fun q => ?_⟩
    rw [cut_from xs (Int.natCast_nonneg n)]; exact hk q)))
theorem i_two (a : At c sc d) (i j : Nat) {x y : Str} {px py pos : Pos} {n : Nat} {u v : MV} (hx : okS sc lm i x = true) (hy : okS sc (putAt i (x, u) lm) j y = true) (h : ku (putAt j (y, v) (putAt i (x, u) lm)) M) : TI c (.Tuple [.Name x px, .Name y py] n pos) (.two u v) lm M ku := by
  simp only [okS, Bool.and_eq_true, beq_iff_eq] at hx hy
  refine ti_two a.ok (by rw [a.s]; exact hx.1) (by rw [a.s]; exact hy.1) ?_
  rw [set_put hx.2, set_put hy.2]; exact h
theorem enum_of {xs : List MV} {i : Nat} {iv : IV} (h : ((xs.zipIdx).map fun p => IV.two (.int (p.2 : Nat)) p.1)[i]? = some iv) : ∃ x, xs[i]? = some x ∧ iv = .two (.int i) x := by
  rw [List.getElem?_map, List.getElem?_zipIdx] at h
  obtain ⟨p, hp, e⟩ := Option.map_eq_some_iff.mp h
  obtain ⟨x, hx, e2⟩ := Option.map_eq_some_iff.mp hp
  subst e2
  exact ⟨x, hx, by rw [← e]; simp⟩
theorem Tv.cut {t : Sem Value} {k' : MV → Led → Prop} (K : MV → Led → Prop) (h : Tv c t lm M K) (hk : ∀ a M', K a M' → k' a M') : Tv c t lm M k' := h.mono hk
theorem TC.cut {f : MV} {as : List MV} {k' : MV → Led → Prop} (h : TC c f as lm M k) (hk : ∀ a M', k a M' → k' a M') : TC c f as lm M k' := fun fv vs hf hv => (h fv vs hf hv).mono hk
end
end Mine
end

section
open PySem PySem.W PySem.Calls PyProof.Rows
set_option Elab.async false
set_option maxRecDepth 100000
set_option linter.unusedVariables false
namespace Mine
section
variable {c : Cx} {sc : Scope} {d : Nat} {lm : Loc} {M : Led} {k : MV → Led → Prop}
/-- a card drawn -/
noncomputable def drawV (ns : List Int) (many : Int) : Int := match ns with
  | [] => 0
  | n :: _ => n % many
theorem d_draw {z : Addr} {ns : List Int} {many : Int} (hm : 0 < many) (prog : Program) (w : World) : Does prog w (KK w.params) (.ref 677) 1 [.ref z, .int many] [(z, .lst (ilst ns))] (fun r M' => r = .int (drawV ns many) ∧ M' = [(z, .lst (ilst ns.tail))]) := by
  refine does_fn 677 (fS 63) rfl (by kernel_rfl) (fun vs s' _ => bind2 rfl (fun v1 v2 => by kernel_rfl) vs s') (by kernel_rfl) rfl fun c a => ?_
  refine st_cons ?_
  refine st_ret ?_
  refine ev_ifexp ?_
  refine tb_compare1 rfl ?_
  refine r_loc a 0 (by kernel_rfl) rfl ?_
  refine e_list ?_
  refine a_nil ?_
  refine ⟨Nat.le_of_ble_eq_true rfl, fun q1 => ?_⟩
  refine cmp_ne_ints a.ok (ns := ns) (ms := []) (.tail _ (.head _)) (.head _) ?_
  refine ⟨_, rfl, fun hb => ?_, fun hb => ?_⟩
  · replace hb := lne_true hb
    obtain ⟨n, r, rfl⟩ := List.exists_cons_of_ne_nil hb
    refine ev_binop ?_
    refine c_pop a rfl rfl ?_
    refine r_loc a 0 (by kernel_rfl) rfl ?_
    refine ⟨_, ilst (n :: r), rfl, .tail _ (.head _), ?_⟩
    refine a_cons rfl ?_
    refine ev_int ?_
    refine a_nil ?_
    refine tc_pop0 (.tail .head) ?_
    refine r_loc a 1 (by kernel_rfl) rfl ?_
    refine bin_mod hm ?_
    exact ⟨_, .skip (.refl _), rfl, rfl⟩
  · replace hb := lne_false hb
    subst hb
    refine ev_int ?_
    exact ⟨_, .skip (.refl _), rfl, rfl⟩
theorem k_draw (a : At c sc d) {z : Addr} {ns : List Int} {many : Int} {X : Led} (hd : 1 ≤ d) (hm : 0 < many) (p : Less M ((z, .lst (ilst ns)) :: X)) (h : k (.int (drawV ns many)) ((z, .lst (ilst ns.tail)) :: X)) : TC c (.ref 677) [.ref z, .int many] lm M k :=
  use a (fun p w => d_draw hm p w) hd p fun _ _ zz => by obtain ⟨e, e'⟩ := zz; subst e e'; exact h
theorem off_mono {l : List (List Int)} : ∀ {i j : Nat}, i ≤ j → off l i ≤ off l j := by
  induction l with
  | nil => intro i j _; exact Nat.le_refl _
  | cons x r ih =>
    intro i j h
    cases i with
    | zero => rw [off_zero]; exact Nat.zero_le _
    | succ i => cases j with
      | zero => lia
      | succ j => exact Nat.add_le_add_left (ih (by lia)) _
theorem enum_row {rs : Rows} {i : Nat} {iv : IV} (h : (((refs rs).zipIdx).map fun p => IV.two (.int (p.2 : Nat)) p.1)[i]? = some iv) : ∃ r : Addr × List Int, rs[i]? = some r ∧ iv = .two (.int i) (.ref r.1) := by
  obtain ⟨x, hx, e⟩ := enum_of h
  unfold refs at hx
  rw [List.getElem?_map] at hx
  obtain ⟨r, hr, e2⟩ := Option.map_eq_some_iff.mp hx
  subst e2
  exact ⟨r, hr, e⟩
theorem enum_len (rs : Rows) : (((refs rs).zipIdx).map fun p => IV.two (.int (p.2 : Nat)) p.1).length = rs.length := by rw [List.length_map, List.length_zipIdx, refs_len]
/-- the rows that a list holds, in a ledger -/
structure HasRows (M : Led) (q : Addr) (rs : Rows) : Prop where
  q : (q, MO.lst (refs rs)) ∈ M
  r : ∀ r ∈ rs, (r.1, MO.lst (ilst r.2)) ∈ M
/-- what stays of the rows' ledger while a loop holds the list -/
theorem HasRows.held {M : Led} {q : Addr} {rs : Rows} (h : HasRows M q rs) : ∃ M2, M.Perm ((q, .lst (refs rs)) :: M2) ∧ ∀ r ∈ rs, (r.1, MO.lst (ilst r.2)) ∈ M2 := by
  obtain ⟨M2, p⟩ := pick_of h.q
  refine ⟨M2, p, fun r hr => ?_⟩
  rcases List.mem_cons.mp (p.mem_iff.mp (h.r r hr)) with e | e
  · injection e with _ e
    injection e with e
    cases rs with
    | nil => cases hr
    | cons r' rs =>
      have : ilst r.2 = MV.ref r'.1 :: refs rs := e
      cases h2 : r.2 with
      | nil => rw [h2] at this; cases this
      | cons n ns => rw [h2] at this; injection this with e _; cases e
  · exact e
theorem d_spot {M : Led} {q : Addr} {rs : Rows} {u v : Nat} {xs : List Int} {p : Int} (H : HasRows M q rs) (ha : (rs.map (·.2))[u]? = some xs) (hc : v ≤ xs.length) (hp : p = ((off (rs.map (·.2)) u + v : Nat) : Int) + 1) (hz : rs.length ≤ 1000) (prog : Program) (w : World) :
    Does prog w (KK w.params) (.ref 684) 1 [.ref q, .int p] M (fun r M' => ∃ t, r = .ref t ∧ M' = (t, .tup [.int u, .int v]) :: M) := by
  subst hp
  obtain ⟨M2, hM, hr2⟩ := H.held
  refine does_fn 684 (fS 64) rfl (by kernel_rfl) (fun vs s' _ => bind2 rfl (fun v1 v2 => by kernel_rfl) vs s') (by kernel_rfl) rfl fun c a => ?_
  refine st_cons ?_
  -- FOR
  refine st_for (fun _ => rfl) ?_
  refine i_typ a "enumerate" (by kernel_rfl) rfl ?_
  refine a_cons rfl ?_
  refine r_loc a 0 (by kernel_rfl) rfl ?_
  refine a_nil ?_
  refine tic_enumerate a.ok (.perm hM) ?_
  refine ⟨fun i lm' M' => i ≤ u ∧ lm' = [(Str.ofString "rows", .ref q), (Str.ofString "place", .int (((off (rs.map (·.2)) u + v : Nat) : Int) + 1 - (off (rs.map (·.2)) i : Nat)))] ∧ M' = M2, ⟨_, M2, sub_cons 0 (by kernel_rfl) rfl (sub_cons 1 (by kernel_rfl) rfl sub_nil), .refl _, Nat.zero_le _, ?_, rfl⟩, fun i iv lm M' hi hJ => ?_, fun lm M' hJ => ?_⟩
  · rw [off_zero]; show _ = [_, (_, MV.int (_ - 0))]; rw [Int.sub_zero]
  · obtain ⟨hia, e1, e2⟩ := hJ
    subst e1 e2
    obtain ⟨r, hr, e⟩ := enum_row hi
    subst e
    have hR : (rs.map (·.2))[i]? = some r.2 := by rw [List.getElem?_map, hr]; rfl
    have ho := off_succ hR
    refine i_two a 2 3 (by kernel_rfl) (by kernel_rfl) ?_
    refine st_cons ?_
    refine st_if ?_
    refine tb_compare1 rfl ?_
    refine r_loc a 1 (by kernel_rfl) rfl ?_
    refine ev_binop ?_
    refine c_blt a "len" (by kernel_rfl) rfl ?_
    refine a_cons rfl ?_
    refine r_loc a 3 (by kernel_rfl) rfl ?_
    refine a_nil ?_
    refine tc_len (hr2 r (List.mem_of_getElem? hr)) ?_
    rw [ilst_len]
    refine ev_int ?_
    refine bin_add ?_
    refine cmp_le ?_
    refine ⟨_, rfl, fun hb => ?_, fun hb => ?_⟩
    · replace hb := of_decide_eq_true hb
      obtain rfl : i = u := by
        rcases Nat.lt_or_ge i u with h | h
        · have := off_mono (l := rs.map (·.2)) (Nat.succ_le_of_lt h); have e : i.succ = i + 1 := rfl; rw [e, ho] at this; lia
        · lia
      refine st_cons ?_
      refine st_ret ?_
      refine e_tuple ?_
      refine a_cons rfl ?_
      refine r_loc a 2 (by kernel_rfl) rfl ?_
      refine a_cons rfl ?_
      refine ev_binop ?_
      refine r_loc a 1 (by kernel_rfl) rfl ?_
      refine ev_int ?_
      refine bin_sub ?_
      refine a_nil ?_
      refine ⟨Nat.le_of_ble_eq_true rfl, fun q1 => ?_⟩
      rw [show ((off (rs.map (·.2)) i + v : Nat) : Int) + 1 - (off (rs.map (·.2)) i : Nat) - 1 = (v : Int) by lia]
      exact ⟨(q1, .tup [.int i, .int v]) :: M, (Less.perm (.swap _ _ _)).trans (.cons (.perm hM.symm)), q1, rfl, rfl⟩
    · replace hb := of_decide_eq_false hb
      have hne : i ≠ u := fun e => by
        subst e; rw [hR] at ha; obtain rfl := Option.some.inj ha; lia
      refine st_nil ?_
      refine st_cons ?_
      refine st_assign rfl rfl rfl ?_
      refine ev_binop ?_
      refine ev_binop ?_
      refine r_loc a 1 (by kernel_rfl) rfl ?_
      refine c_blt a "len" (by kernel_rfl) rfl ?_
      refine a_cons rfl ?_
      refine r_loc a 3 (by kernel_rfl) rfl ?_
      refine a_nil ?_
      refine tc_len (hr2 r (List.mem_of_getElem? hr)) ?_
      rw [ilst_len]
      refine bin_sub ?_
      refine ev_int ?_
      refine bin_sub ?_
      refine s_loc a 1 (by kernel_rfl) ?_
      refine st_nil ?_
      refine ⟨_, _, sub_cons 0 (by kernel_rfl) rfl (sub_cons 1 (by kernel_rfl) rfl sub_nil), .refl _, by lia, ?_, rfl⟩
      rw [ho, show ((off (rs.map (·.2)) u + v : Nat) : Int) + 1 - (off (rs.map (·.2)) i : Nat) - (r.2.length : Int) - 1 = ((off (rs.map (·.2)) u + v : Nat) : Int) + 1 - ((off (rs.map (·.2)) i + r.2.length + 1 : Nat) : Int) by lia]
  · exfalso
    obtain ⟨h1, _⟩ := hJ
    rw [enum_len] at h1
    have := (List.getElem?_eq_some_iff.mp ha).1
    rw [List.length_map] at this
    lia
theorem k_spot (h' : At c sc d) {q : Addr} {rs : Rows} {a b : Nat} {xs : List Int} {p : Int} (hd : 1 ≤ d) (H : HasRows M q rs) (ha : (rs.map (·.2))[a]? = some xs) (hb : b ≤ xs.length) (hp : p = ((off (rs.map (·.2)) a + b : Nat) : Int) + 1) (hz : rs.length ≤ 1000) (h : ∀ t, k (.ref t) ((t, .tup [.int a, .int b]) :: M)) : TC c (.ref 684) [.ref q, .int p] lm M k :=
  use' h' (fun p w => d_spot H ha hb hp hz p w) hd fun _ _ zz => by obtain ⟨t, e, e'⟩ := zz; subst e e'; exact h t
end
end Mine
end

section
open PySem PySem.W PySem.Calls PyProof.Rows
set_option Elab.async false
set_option maxRecDepth 100000
set_option linter.unusedVariables false
set_option linter.unusedSimpArgs false
namespace Mine
section
variable {c : Cx} {sc : Scope} {d : Nat} {lm : Loc} {M : Led} {k : MV → Led → Prop}
theorem RowP.new {X M : Led} {q : Addr} {ys zs : List Int} (e : zs = ys) : RowP M ys (.ref q) ((q, .lst (ilst zs)) :: (X ++ M)) := ⟨q, (q, .lst (ilst zs)) :: X, rfl, rfl, by rw [e]; exact .head _⟩
theorem rowW3 (xs t : List Int) (lo hi : Nat) : xs.take lo ++ List.replicate (lo - xs.length) 32 ++ t ++ xs.drop hi = rowW 3 xs lo hi t := (if_pos rfl).symm
theorem rowW_short {xs t : List Int} {way lo hi : Nat} (hw : way ≠ 3) (h : xs.length ≤ lo) : xs = rowW way xs lo hi t := by unfold rowW; rw [if_neg hw, if_pos h]
theorem rowW0 {xs t : List Int} {lo hi : Nat} (h : ¬ xs.length ≤ lo) : xs.take lo ++ xs.drop hi = rowW 0 xs lo hi t := by unfold rowW; rw [if_neg (by decide), if_neg h, if_pos rfl]
theorem rowW1 {xs t : List Int} {lo hi : Nat} (h : ¬ xs.length ≤ lo) : xs.take lo ++ (if xs.drop hi = [] then [] else List.replicate (hi - lo) 32 ++ xs.drop hi) = rowW 1 xs lo hi t := by unfold rowW; rw [if_neg (show ¬ (1 : Nat) = 3 by decide), if_neg h, if_neg (show ¬ (1 : Nat) = 0 by decide), if_pos rfl]
theorem rowW2 {xs t : List Int} {way lo hi : Nat} (h3 : way ≠ 3) (h0 : way ≠ 0) (h1 : way ≠ 1) (h : ¬ xs.length ≤ lo) : xs.take lo ++ List.replicate (hi - lo) 32 ++ xs.drop lo = rowW way xs lo hi t := by unfold rowW; rw [if_neg h3, if_neg h, if_neg h0, if_neg h1]
theorem d_law_row {M : Led} {row ct : Addr} {xs t : List Int} {way lo hi : Nat} (hr : (row, MO.lst (ilst xs)) ∈ M) (ht : (ct, MO.lst (ilst t)) ∈ M) (h1 : lo ≤ hi) (h2 : hi ≤ 100) (hz : xs.length ≤ 1000) (hzt : t.length ≤ 1000) (prog : Program) (w : World) :
    Does prog w (KK w.params) (.ref 691) 1 [.ref row, .int way, .int lo, .int hi, .ref ct] M (RowP M (rowW way xs lo hi t)) := by
  refine does_fn 691 (fS 65) rfl (by kernel_rfl) (fun vs s' _ => bind5 rfl (fun v1 v2 v3 v4 v5 => by kernel_rfl) vs s') (by kernel_rfl) rfl fun c a => ?_
  have hW : hi - lo ≤ 100 := Nat.le_trans (Nat.sub_le _ _) h2
  have hP : lo - xs.length ≤ 100 := Nat.le_trans (Nat.sub_le _ _) (Nat.le_trans h1 h2)
  refine st_cons ?_
  refine st_assign rfl rfl rfl ?_
  refine ev_binop ?_
  refine e_list ?_
  refine a_cons rfl ?_
  refine ev_int ?_
  refine a_nil ?_
  refine ⟨Nat.le_of_ble_eq_true rfl, fun q1 => ?_⟩
  refine ev_binop ?_
  refine r_loc a 3 (by kernel_rfl) rfl ?_
  refine r_loc a 2 (by kernel_rfl) rfl ?_
  refine bin_sub ?_
  refine bin_rep (hi - lo) (.head _) (by lia) (by lia) (by lia) fun q2 => ?_
  refine s_loc a 5 (by kernel_rfl) ?_
  refine st_cons ?_
  refine st_if ?_
  refine tb_compare1 rfl ?_
  refine r_loc a 1 (by kernel_rfl) rfl ?_
  refine ev_int ?_
  refine cmp_eq ?_
  refine ⟨_, rfl, fun hb => ?_, fun hb => ?_⟩
  · replace hb := of_decide_eq_true hb
    obtain rfl : way = 3 := by lia
    refine st_cons ?_
    refine st_ret ?_
    refine ev_binop ?_
    refine ev_binop ?_
    refine ev_binop ?_
    refine ev_to ?_
    refine r_loc a 0 (by kernel_rfl) rfl ?_
    refine r_loc a 2 (by kernel_rfl) rfl ?_
    refine ⟨_, _, _, rfl, by trivial, rfl, fun q3 => ?_⟩
    refine ev_binop ?_
    refine e_list ?_
    refine a_cons rfl ?_
    refine ev_int ?_
    refine a_nil ?_
    refine ⟨Nat.le_of_ble_eq_true rfl, fun q4 => ?_⟩
    refine c_blt a "max" (by kernel_rfl) rfl ?_
    refine a_cons rfl ?_
    refine ev_int ?_
    refine a_cons rfl ?_
    refine ev_binop ?_
    refine r_loc a 2 (by kernel_rfl) rfl ?_
    refine c_blt a "len" (by kernel_rfl) rfl ?_
    refine a_cons rfl ?_
    refine r_loc a 0 (by kernel_rfl) rfl ?_
    refine a_nil ?_
    refine tc_len (xs := ilst xs) (by trivial) ?_
    rw [ilst_len]
    refine bin_sub ?_
    refine a_nil ?_
    refine tc_max2 a.ok ?_
    refine bin_rep (lo - xs.length) (.head _) (by lia) (by lia) (by lia) fun q5 => ?_
    refine bin_cat _ _ (by trivial) (by trivial) (by exact Ln.two (Ln.tk hz) (Ln.rp hP) rfl) fun q6 => ?_
    refine r_loc a 4 (by kernel_rfl) rfl ?_
    refine bin_cat _ _ (by trivial) (by trivial) (by exact Ln.two (Ln.app (Ln.tk hz) (Ln.rp hP)) hzt rfl) fun q7 => ?_
    refine ev_from ?_
    refine r_loc a 0 (by kernel_rfl) rfl ?_
    refine r_loc a 3 (by kernel_rfl) rfl ?_
    refine ⟨_, _, _, rfl, by trivial, rfl, fun q8 => ?_⟩
    refine bin_cat _ _ (by trivial) (by trivial) (by exact Ln.two (Ln.app (Ln.app (Ln.tk hz) (Ln.rp hP)) hzt) (Ln.dr hz) rfl) fun q9 => ?_
    exact ⟨_, .refl _, RowP.new (X := [_, _, _, _, _, _, _, _]) (rowW3 xs t lo hi)⟩
  · replace hb := of_decide_eq_false hb
    have hw3 : way ≠ 3 := by lia
    refine st_nil ?_
    refine st_cons ?_
    refine st_if ?_
    refine tb_compare1 rfl ?_
    refine c_blt a "len" (by kernel_rfl) rfl ?_
    refine a_cons rfl ?_
    refine r_loc a 0 (by kernel_rfl) rfl ?_
    refine a_nil ?_
    refine tc_len (xs := ilst xs) (by trivial) ?_
    rw [ilst_len]
    refine r_loc a 2 (by kernel_rfl) rfl ?_
    refine cmp_le ?_
    refine ⟨_, rfl, fun hb => ?_, fun hb => ?_⟩
    · replace hb := of_decide_eq_true hb
      refine st_cons ?_
      refine st_ret ?_
      refine r_loc a 0 (by kernel_rfl) rfl ?_
      exact ⟨M, .skip (.skip (.refl _)), row, [], rfl, rfl, rowW_short (t := t) (hi := hi) hw3 (Int.ofNat_le.mp hb) ▸ hr⟩
    · replace hb := of_decide_eq_false hb
      have hl : ¬ xs.length ≤ lo := by lia
      refine st_nil ?_
      refine st_cons ?_
      refine st_if ?_
      refine tb_compare1 rfl ?_
      refine r_loc a 1 (by kernel_rfl) rfl ?_
      refine ev_int ?_
      refine cmp_eq ?_
      refine ⟨_, rfl, fun hb => ?_, fun hb => ?_⟩
      · replace hb := of_decide_eq_true hb
        obtain rfl : way = 0 := by lia
        refine st_cons ?_
        refine st_ret ?_
        refine ev_binop ?_
        refine ev_to ?_
        refine r_loc a 0 (by kernel_rfl) rfl ?_
        refine r_loc a 2 (by kernel_rfl) rfl ?_
        refine ⟨_, _, _, rfl, by trivial, rfl, fun q3 => ?_⟩
        refine ev_from ?_
        refine r_loc a 0 (by kernel_rfl) rfl ?_
        refine r_loc a 3 (by kernel_rfl) rfl ?_
        refine ⟨_, _, _, rfl, by trivial, rfl, fun q4 => ?_⟩
        refine bin_cat _ _ (by trivial) (by trivial) (by exact Ln.two (Ln.tk hz) (Ln.dr hz) rfl) fun q5 => ?_
        exact ⟨_, .refl _, RowP.new (X := [_, _, _, _]) (rowW0 (t := t) hl)⟩
      · replace hb := of_decide_eq_false hb
        have hw0 : way ≠ 0 := by lia
        refine st_nil ?_
        refine st_cons ?_
        refine st_ret ?_
        refine ev_ifexp ?_
        refine tb_compare1 rfl ?_
        refine r_loc a 1 (by kernel_rfl) rfl ?_
        refine ev_int ?_
        refine cmp_eq ?_
        refine ⟨_, rfl, fun hb => ?_, fun hb => ?_⟩
        · replace hb := of_decide_eq_true hb
          obtain rfl : way = 1 := by lia
          refine ev_binop ?_
          refine ev_to ?_
          refine r_loc a 0 (by kernel_rfl) rfl ?_
          refine r_loc a 2 (by kernel_rfl) rfl ?_
          refine ⟨_, _, _, rfl, by trivial, rfl, fun q3 => ?_⟩
          refine ev_ifexp ?_
          refine tb_compare1 rfl ?_
          refine ev_from ?_
          refine r_loc a 0 (by kernel_rfl) rfl ?_
          refine r_loc a 3 (by kernel_rfl) rfl ?_
          refine ⟨_, _, _, rfl, by trivial, rfl, fun q4 => ?_⟩
          refine e_list ?_
          refine a_nil ?_
          refine ⟨Nat.le_of_ble_eq_true rfl, fun q5 => ?_⟩
          refine cmp_ne_ints a.ok (ns := xs.drop hi) (ms := []) (.tail _ (.head _)) (.head _) ?_
          refine ⟨_, rfl, fun hb => ?_, fun hb => ?_⟩
          · replace hb := lne_true hb
            refine ev_binop ?_
            refine r_loc a 5 (by kernel_rfl) rfl ?_
            refine ev_from ?_
            refine r_loc a 0 (by kernel_rfl) rfl ?_
            refine r_loc a 3 (by kernel_rfl) rfl ?_
            refine ⟨_, _, _, rfl, by trivial, rfl, fun q6 => ?_⟩
            refine bin_cat _ _ (by trivial) (by trivial) (by exact Ln.two (Ln.rp hW) (Ln.dr hz) rfl) fun q7 => ?_
            refine bin_cat _ _ (by trivial) (by trivial) (by exact Ln.two (Ln.tk hz) (Ln.app (Ln.rp hW) (Ln.dr hz)) rfl) fun q8 => ?_
            exact ⟨_, .refl _, RowP.new (X := [_, _, _, _, _, _, _]) (by rw [← rowW1 hl, if_neg hb])⟩
          · replace hb := lne_false hb
            refine e_list ?_
            refine a_nil ?_
            refine ⟨Nat.le_of_ble_eq_true rfl, fun q6 => ?_⟩
            refine bin_cat _ [] (by trivial) (.head _) (by exact Ln.two (Ln.tk hz) (Nat.le_refl 0) rfl) fun q8 => ?_
            exact ⟨_, .refl _, RowP.new (X := [_, _, _, _, _, _]) (by rw [← rowW1 hl, if_pos hb])⟩
        · replace hb := of_decide_eq_false hb
          have hw1 : way ≠ 1 := by lia
          refine ev_binop ?_
          refine ev_binop ?_
          refine ev_to ?_
          refine r_loc a 0 (by kernel_rfl) rfl ?_
          refine r_loc a 2 (by kernel_rfl) rfl ?_
          refine ⟨_, _, _, rfl, by trivial, rfl, fun q3 => ?_⟩
          refine r_loc a 5 (by kernel_rfl) rfl ?_
          refine bin_cat _ _ (by trivial) (by trivial) (by exact Ln.two (Ln.tk hz) (Ln.rp hW) rfl) fun q4 => ?_
          refine ev_from ?_
          refine r_loc a 0 (by kernel_rfl) rfl ?_
          refine r_loc a 2 (by kernel_rfl) rfl ?_
          refine ⟨_, _, _, rfl, by trivial, rfl, fun q5 => ?_⟩
          refine bin_cat _ _ (by trivial) (by trivial) (by exact Ln.two (Ln.app (Ln.tk hz) (Ln.rp hW)) (Ln.dr hz) rfl) fun q6 => ?_
          exact ⟨_, .refl _, RowP.new (X := [_, _, _, _, _]) (rowW2 hw3 hw0 hw1 hl)⟩
end
end Mine
end

section
open PySem PySem.W PySem.Calls PyProof.Rows
set_option Elab.async false
set_option maxRecDepth 100000
set_option linter.unusedVariables false
set_option linter.unusedSimpArgs false
namespace Mine
section
variable {c : Cx} {sc : Scope} {d : Nat} {lm : Loc} {M : Led} {k : MV → Led → Prop}
theorem k_law_row (a : At c sc d) {row ct : Addr} {xs t : List Int} {way lo hi : Nat} (hd : 1 ≤ d) (hr : (row, MO.lst (ilst xs)) ∈ M) (ht : (ct, MO.lst (ilst t)) ∈ M) (h1 : lo ≤ hi) (h2 : hi ≤ 100) (hz : xs.length ≤ 1000) (hzt : t.length ≤ 1000)
    (h : ∀ q X, (q, MO.lst (ilst (rowW way xs lo hi t))) ∈ X ++ M → k (.ref q) (X ++ M)) : TC c (.ref 691) [.ref row, .int way, .int lo, .int hi, .ref ct] lm M k :=
  use' a (fun p w => d_law_row hr ht h1 h2 hz hzt p w) hd fun _ _ zz => by obtain ⟨q, X, e, e', hm⟩ := zz; subst e e'; exact h q X hm
/-- the column that the law looks for -/
noncomputable def colL (way : Nat) (xs : List Int) (lo hi : Nat) (t : List Int) (col : Nat) : Int :=
  if rowW way xs lo hi t = xs ∨ col ≤ lo ∨ xs.length ≤ lo then col else if way = 2 then (col : Int) + hi - lo else if col < min hi xs.length then lo else (col : Int) + (rowW way xs lo hi t).length - xs.length
theorem d_law_column {M : Led} {row ct : Addr} {xs t : List Int} {way lo hi col : Nat} (hr : (row, MO.lst (ilst xs)) ∈ M) (ht : (ct, MO.lst (ilst t)) ∈ M) (h1 : lo ≤ hi) (h2 : hi ≤ 100) (hz : xs.length ≤ 1000) (hzt : t.length ≤ 1000) (prog : Program) (w : World) :
    Does prog w (KK w.params) (.ref 698) 2 [.ref row, .int way, .int lo, .int hi, .ref ct, .int col] M (fun r M' => r = .int (colL way xs lo hi t col) ∧ M' = M) := by
  refine does_fn 698 (fS 66) rfl (by kernel_rfl) (fun vs s' _ => bind6 rfl (fun v1 v2 v3 v4 v5 v6 => by kernel_rfl) vs s') (by kernel_rfl) rfl fun c a => ?_
  refine st_cons ?_
  refine st_assign rfl rfl rfl ?_
  refine c_ref a 691 (by kernel_rfl) rfl ?_
  refine a_cons rfl ?_
  refine r_loc a 0 (by kernel_rfl) rfl ?_
  refine a_cons rfl ?_
  refine r_loc a 1 (by kernel_rfl) rfl ?_
  refine a_cons rfl ?_
  refine r_loc a 2 (by kernel_rfl) rfl ?_
  refine a_cons rfl ?_
  refine r_loc a 3 (by kernel_rfl) rfl ?_
  refine a_cons rfl ?_
  refine r_loc a 4 (by kernel_rfl) rfl ?_
  refine a_nil ?_
  refine k_law_row a (Nat.le_of_ble_eq_true rfl) hr ht h1 h2 hz hzt fun q Z hq => ?_
  have hr2 : (row, MO.lst (ilst xs)) ∈ Z ++ M := List.mem_append_right _ hr
  refine s_loc a 6 (by kernel_rfl) ?_
  refine st_cons ?_
  refine st_if ?_
  refine tb_bool ?_
  refine all_or_cons ?_
  refine tb_compare1 rfl ?_
  refine r_loc a 6 (by kernel_rfl) rfl ?_
  refine r_loc a 0 (by kernel_rfl) rfl ?_
  refine cmp_eq_ints a.ok hq hr2 ?_
  refine ⟨_, rfl, fun hb => ?_, fun hb => ?_⟩
  · replace hb := of_decide_eq_true hb
    refine ⟨fun _ => ?_, nofun⟩
    refine st_cons ?_
    refine st_ret ?_
    refine r_loc a 5 (by kernel_rfl) rfl ?_
    exact ⟨_, .drop (.refl _), by unfold colL; rw [if_pos (.inl hb)], rfl⟩
  · replace hb := of_decide_eq_false hb
    refine all_or_cons ?_
    refine tb_compare1 rfl ?_
    refine r_loc a 5 (by kernel_rfl) rfl ?_
    refine r_loc a 2 (by kernel_rfl) rfl ?_
    refine cmp_le ?_
    refine ⟨_, rfl, fun hb => ?_, fun hb => ?_⟩
    · replace hb := of_decide_eq_true hb
      refine ⟨fun _ => ?_, nofun⟩
      refine st_cons ?_
      refine st_ret ?_
      refine r_loc a 5 (by kernel_rfl) rfl ?_
      exact ⟨_, .drop (.refl _), by unfold colL; rw [if_pos (.inr (.inl (Int.ofNat_le.mp hb)))], rfl⟩
    · replace hb := of_decide_eq_false hb
      have hb1 := hb
      refine all_or_cons ?_
      refine tb_compare1 rfl ?_
      refine c_blt a "len" (by kernel_rfl) rfl ?_
      refine a_cons rfl ?_
      refine r_loc a 0 (by kernel_rfl) rfl ?_
      refine a_nil ?_
      refine tc_len hr2 ?_
      rw [ilst_len]
      refine r_loc a 2 (by kernel_rfl) rfl ?_
      refine cmp_le ?_
      refine ⟨_, rfl, fun hb => ?_, fun hb => ?_⟩
      · replace hb := of_decide_eq_true hb
        refine ⟨fun _ => ?_, nofun⟩
        refine st_cons ?_
        refine st_ret ?_
        refine r_loc a 5 (by kernel_rfl) rfl ?_
        exact ⟨_, .drop (.refl _), by unfold colL; rw [if_pos (.inr (.inr (Int.ofNat_le.mp hb)))], rfl⟩
      · replace hb := of_decide_eq_false hb
        have hn : ¬ (rowW way xs lo hi t = xs ∨ col ≤ lo ∨ xs.length ≤ lo) := by
          rintro (h | h | h)
          · contradiction
          · lia
          · lia
        refine all_or_nil ?_
        refine ⟨nofun, fun _ => ?_⟩
        refine st_nil ?_
        refine st_cons ?_
        refine st_if ?_
        refine tb_compare1 rfl ?_
        refine r_loc a 1 (by kernel_rfl) rfl ?_
        refine ev_int ?_
        refine cmp_eq ?_
        refine ⟨_, rfl, fun hb => ?_, fun hb => ?_⟩
        · replace hb := of_decide_eq_true hb
          refine st_cons ?_
          refine st_ret ?_
          refine ev_binop ?_
          refine ev_binop ?_
          refine r_loc a 5 (by kernel_rfl) rfl ?_
          refine r_loc a 3 (by kernel_rfl) rfl ?_
          refine bin_add ?_
          refine r_loc a 2 (by kernel_rfl) rfl ?_
          refine bin_sub ?_
          exact ⟨_, .drop (.refl _), by unfold colL; rw [if_neg hn, if_pos (by lia)], rfl⟩
        · replace hb := of_decide_eq_false hb
          refine st_nil ?_
          refine st_cons ?_
          refine st_assign rfl rfl rfl ?_
          refine c_blt a "min" (by kernel_rfl) rfl ?_
          refine a_cons rfl ?_
          refine r_loc a 3 (by kernel_rfl) rfl ?_
          refine a_cons rfl ?_
          refine c_blt a "len" (by kernel_rfl) rfl ?_
          refine a_cons rfl ?_
          refine r_loc a 0 (by kernel_rfl) rfl ?_
          refine a_nil ?_
          refine tc_len hr2 ?_
          rw [ilst_len]
          refine a_nil ?_
          refine tc_min2 a.ok ?_
          refine s_loc a 7 (by kernel_rfl) ?_
          refine st_cons ?_
          refine st_if ?_
          refine tb_compare1 rfl ?_
          refine r_loc a 5 (by kernel_rfl) rfl ?_
          refine r_loc a 7 (by kernel_rfl) rfl ?_
          refine cmp_lt ?_
          refine ⟨_, rfl, fun hb => ?_, fun hb => ?_⟩
          · replace hb := of_decide_eq_true hb
            refine st_cons ?_
            refine st_ret ?_
            refine r_loc a 2 (by kernel_rfl) rfl ?_
            exact ⟨_, .drop (.refl _), by unfold colL; rw [if_neg hn, if_neg (by lia), if_pos (by lia)], rfl⟩
          · replace hb := of_decide_eq_false hb
            refine st_nil ?_
            refine st_cons ?_
            refine st_ret ?_
            refine ev_binop ?_
            refine ev_binop ?_
            refine r_loc a 5 (by kernel_rfl) rfl ?_
            refine c_blt a "len" (by kernel_rfl) rfl ?_
            refine a_cons rfl ?_
            refine r_loc a 6 (by kernel_rfl) rfl ?_
            refine a_nil ?_
            refine tc_len hq ?_
            rw [ilst_len]
            refine bin_add ?_
            refine c_blt a "len" (by kernel_rfl) rfl ?_
            refine a_cons rfl ?_
            refine r_loc a 0 (by kernel_rfl) rfl ?_
            refine a_nil ?_
            refine tc_len hr2 ?_
            rw [ilst_len]
            refine bin_sub ?_
            exact ⟨_, .drop (.refl _), by unfold colL; rw [if_neg hn, if_neg (by lia), if_neg (by lia)], rfl⟩
/-- the rows, one text -/
noncomputable def jn : List (List Int) → List Int
  | [] => []
  | x :: r => x ++ r.flatMap fun y => 10 :: y
theorem jn_snoc (l : List (List Int)) (y : List Int) : jn (l ++ [y]) = jn l ++ (if 0 < l.length then [10] else []) ++ y := by
  cases l with
  | nil => show y ++ [] = [] ++ [] ++ y; simp
  | cons x r =>
    rw [if_pos (by simp)]
    show x ++ (r ++ [y]).flatMap _ = x ++ r.flatMap _ ++ [10] ++ y
    simp [List.flatMap_append]
theorem d_law_text {M : Led} {q : Addr} {rs : Rows} (H : HasRows M q rs) (few : rs.length ≤ 10) (hz : ∀ r ∈ rs, r.2.length ≤ 100) (prog : Program) (w : World) : Does prog w (KK w.params) (.ref 705) 1 [.ref q] M (fun r M' => ∃ u, r = .ref u ∧ M' = (u, .lst (ilst (jn (rs.map (·.2))))) :: M) := by
  obtain ⟨M2, hM, hr2⟩ := H.held
  refine does_fn 705 (fS 67) rfl (by kernel_rfl) (fun vs s' _ => bind1 rfl (fun v1 => by kernel_rfl) vs s') (by kernel_rfl) rfl fun c a => ?_
  refine st_cons ?_
  refine st_assign rfl rfl rfl ?_
  refine e_list ?_
  refine a_nil ?_
  refine ⟨Nat.le_of_ble_eq_true rfl, fun q1 => ?_⟩
  refine s_loc a 1 (by kernel_rfl) ?_
  refine st_cons ?_
  -- FOR
  refine st_for (fun _ => rfl) ?_
  refine i_typ a "enumerate" (by kernel_rfl) rfl ?_
  refine a_cons rfl ?_
  refine r_loc a 0 (by kernel_rfl) rfl ?_
  refine a_nil ?_
  refine tic_enumerate a.ok (M₂ := (q1, .lst (ilst [])) :: M2) ((Less.cons (.perm hM)).trans (.perm (.swap _ _ _))) ?_
  refine ⟨fun i lm' M' => ∃ u, lm' = [(Str.ofString "rows", .ref q), (Str.ofString "codes", .ref u)] ∧ M' = (u, .lst (ilst (jn ((rs.map (·.2)).take i)))) :: M2 ∧ (jn ((rs.map (·.2)).take i)).length ≤ i * 101, ⟨_, _, sub_cons 0 (by kernel_rfl) rfl (sub_cons 1 (by kernel_rfl) rfl sub_nil), .refl _, q1, rfl, rfl, Nat.zero_le _⟩, fun i iv lm M' hi hJ => ?_, fun lm M' hJ => ?_⟩
  · obtain ⟨u, e1, e2, e3⟩ := hJ
    subst e1 e2
    obtain ⟨r, hr, e⟩ := enum_row hi
    subst e
    have hrm := List.mem_of_getElem? hr
    have hrz := hz r hrm
    have hR : (rs.map (·.2))[i]? = some r.2 := by rw [List.getElem?_map, hr]; rfl
    have hi2 := (List.getElem?_eq_some_iff.mp hr).1
    have hs : jn ((rs.map (·.2)).take (i + 1)) = jn ((rs.map (·.2)).take i) ++ (if 0 < i then [10] else []) ++ r.2 := by
      rw [List.take_add_one, hR, show (some r.2).toList = [r.2] from rfl, jn_snoc, List.length_take, List.length_map, Nat.min_eq_left (by lia)]
    refine i_two a 2 3 (by kernel_rfl) (by kernel_rfl) ?_
    refine st_cons ?_
    refine st_assign rfl rfl rfl ?_
    refine ev_binop ?_
    refine ev_binop ?_
    refine r_loc a 1 (by kernel_rfl) rfl ?_
    refine Tv.cut (fun r1 M3 => ∃ x1, r1 = .ref x1 ∧ M3 = (x1, .lst (ilst (if 0 < i then [10] else []))) :: (u, .lst (ilst (jn ((rs.map (·.2)).take i)))) :: M2) (ev_ifexp ?_) (fun r1 M3 ⟨x1, e1, e2⟩ => ?_)
    rotate_left
    · subst e1 e2
      have hl : (if 0 < i then [(10 : Int)] else []).length ≤ 1 := by split <;> simp
      refine bin_cat _ _ (.tail _ (.head _)) (.head _) (by lia) fun q3 => ?_
      refine r_loc a 3 (by kernel_rfl) rfl ?_
      refine bin_cat _ _ (.head _) (.tail _ (.tail _ (.tail _ (hr2 r hrm)))) (by rw [List.length_append]; lia) fun q4 => ?_
      rw [← hs]
      refine s_loc a 1 (by kernel_rfl) ?_
      refine st_nil ?_
      refine ⟨_, _, sub_cons 0 (by kernel_rfl) rfl (sub_cons 1 (by kernel_rfl) rfl sub_nil), .cons (.skip (.skip (.skip (.refl _)))), q4, rfl, rfl, ?_⟩
      rw [hs, List.length_append, List.length_append]; lia
    refine tb_compare1 rfl ?_
    refine r_loc a 2 (by kernel_rfl) rfl ?_
    refine ev_int ?_
    refine cmp_gt ?_
    refine ⟨_, rfl, fun hb => ?_, fun hb => ?_⟩
    · replace hb := of_decide_eq_true hb
      refine e_list ?_
      refine a_cons rfl ?_
      refine ev_int ?_
      refine a_nil ?_
      refine ⟨Nat.le_of_ble_eq_true rfl, fun q2 => ?_⟩
      exact ⟨q2, rfl, by rw [if_pos (Int.ofNat_lt.mp hb)]; rfl⟩
    · replace hb := of_decide_eq_false hb
      refine e_list ?_
      refine a_nil ?_
      refine ⟨Nat.le_of_ble_eq_true rfl, fun q2 => ?_⟩
      exact ⟨q2, rfl, by rw [if_neg (fun h => hb (Int.ofNat_lt.mpr h))]; rfl⟩
  · obtain ⟨u, e1, e2, e3⟩ := hJ
    subst e1 e2
    rw [enum_len, List.take_of_length_le (by rw [List.length_map]; exact Nat.le_refl _)]
    refine st_cons ?_
    refine st_ret ?_
    refine r_loc a 1 (by kernel_rfl) rfl ?_
    exact ⟨_, (Less.perm (.swap _ _ _)).trans (.cons (.perm hM.symm)), u, rfl, rfl⟩
theorem d_law_done {B : Buf} {X : Led} {i j way : Nat} {z : Addr} {txt : List Int} {R : List (List Int)} {G : Nat → List Int → (Int → Int) → Prop} (hw : way ≤ 3) (K : RectOk B i j way txt R G) (hz : (z, MO.lst (ilst txt)) ∈ X) (hzt : txt.length ≤ 1000) (prog : Program) (w : World) :
    Does prog w (KK w.params) (.ref 712) 10 [.ref B.b, .int way, .int ((i : Int) + 1), .int ((j : Int) + 1), .ref z] (bufL B ++ X) (fun _ M' => ∃ B' t F, M' = bufL B' ++ X ∧ B.To B' t (B.g.cells.length + 2080) (F B.pt) F ∧ G 0 t F) := by
  refine does_fn 712 (fS 68) rfl (by kernel_rfl) (fun vs s' _ => bind5 rfl (fun v1 v2 v3 v4 v5 => by kernel_rfl) vs s') (by kernel_rfl) rfl fun c a => ?_
  refine st_cons ?_
  refine st_if ?_
  refine tb_compare1 rfl ?_
  refine r_loc a 1 (by kernel_rfl) rfl ?_
  refine ev_int ?_
  refine cmp_eq ?_
  refine ⟨_, rfl, fun hb => ?_, fun hb => ?_⟩
  · replace hb := of_decide_eq_true hb
    obtain rfl : way = 0 := by lia
    refine st_cons ?_
    refine st_expr a.ok rfl ?_
    refine c_ref a 308 (by kernel_rfl) rfl ?_
    refine a_cons rfl ?_
    refine r_loc a 0 (by kernel_rfl) rfl ?_
    refine a_cons rfl ?_
    refine r_loc a 2 (by kernel_rfl) rfl ?_
    refine a_cons rfl ?_
    refine r_loc a 3 (by kernel_rfl) rfl ?_
    refine a_cons rfl ?_
    refine ev_int ?_
    refine a_nil ?_
    have K2 : RectOk B i j 0 [] R G := ⟨K.ok, K.hi, K.hj, K.h9, K.hz, K.hR, K.few, K.rows, K.hc, K.cells, K.hH, K.g0, K.step⟩
    refine use' a (fun p w => d_delete_rectangle K2 p w) (by lia) fun _ M' h => ?_
    refine st_nil ?_
    refine st_nil ?_
    exact ⟨_, .refl _, h⟩
  · replace hb := of_decide_eq_false hb
    have hw0 : way ≠ 0 := by lia
    refine st_cons ?_
    refine st_if ?_
    refine tb_compare1 rfl ?_
    refine r_loc a 1 (by kernel_rfl) rfl ?_
    refine ev_int ?_
    refine cmp_eq ?_
    refine ⟨_, rfl, fun hb => ?_, fun hb => ?_⟩
    · replace hb := of_decide_eq_true hb
      obtain rfl : way = 1 := by lia
      refine st_cons ?_
      refine st_expr a.ok rfl ?_
      refine c_ref a 313 (by kernel_rfl) rfl ?_
      refine a_cons rfl ?_
      refine r_loc a 0 (by kernel_rfl) rfl ?_
      refine a_cons rfl ?_
      refine r_loc a 2 (by kernel_rfl) rfl ?_
      refine a_cons rfl ?_
      refine r_loc a 3 (by kernel_rfl) rfl ?_
      refine a_cons rfl ?_
      refine ev_int ?_
      refine a_nil ?_
      have K2 : RectOk B i j 1 [] R G := ⟨K.ok, K.hi, K.hj, K.h9, K.hz, K.hR, K.few, K.rows, K.hc, K.cells, K.hH, K.g0, K.step⟩
      refine use' a (fun p w => d_clear_rectangle K2 p w) (by lia) fun _ M' h => ?_
      refine st_nil ?_
      refine st_nil ?_
      refine st_nil ?_
      exact ⟨_, .refl _, h⟩
    · replace hb := of_decide_eq_false hb
      have hw1 : way ≠ 1 := by lia
      refine st_cons ?_
      refine st_if ?_
      refine tb_compare1 rfl ?_
      refine r_loc a 1 (by kernel_rfl) rfl ?_
      refine ev_int ?_
      refine cmp_eq ?_
      refine ⟨_, rfl, fun hb => ?_, fun hb => ?_⟩
      · replace hb := of_decide_eq_true hb
        obtain rfl : way = 2 := by lia
        refine st_cons ?_
        refine st_expr a.ok rfl ?_
        refine c_ref a 318 (by kernel_rfl) rfl ?_
        refine a_cons rfl ?_
        refine r_loc a 0 (by kernel_rfl) rfl ?_
        refine a_cons rfl ?_
        refine r_loc a 2 (by kernel_rfl) rfl ?_
        refine a_cons rfl ?_
        refine r_loc a 3 (by kernel_rfl) rfl ?_
        refine a_cons rfl ?_
        refine ev_int ?_
        refine a_nil ?_
        have K2 : RectOk B i j 2 [] R G := ⟨K.ok, K.hi, K.hj, K.h9, K.hz, K.hR, K.few, K.rows, K.hc, K.cells, K.hH, K.g0, K.step⟩
        refine use' a (fun p w => d_open_rectangle K2 p w) (by lia) fun _ M' h => ?_
        refine st_nil ?_
        refine st_nil ?_
        refine st_nil ?_
        refine st_nil ?_
        exact ⟨_, .refl _, h⟩
      · replace hb := of_decide_eq_false hb
        obtain rfl : way = 3 := by lia
        refine st_cons ?_
        refine st_expr a.ok rfl ?_
        refine c_ref a 323 (by kernel_rfl) rfl ?_
        refine a_cons rfl ?_
        refine r_loc a 0 (by kernel_rfl) rfl ?_
        refine a_cons rfl ?_
        refine r_loc a 2 (by kernel_rfl) rfl ?_
        refine a_cons rfl ?_
        refine r_loc a 3 (by kernel_rfl) rfl ?_
        refine a_cons rfl ?_
        refine r_loc a 4 (by kernel_rfl) rfl ?_
        refine a_cons rfl ?_
        refine ev_int ?_
        refine a_nil ?_
        refine use' a (fun p w => d_string_rectangle K hz hzt p w) (by lia) fun _ M' h => ?_
        refine st_nil ?_
        refine st_nil ?_
        refine st_nil ?_
        refine st_nil ?_
        exact ⟨_, .refl _, h⟩
end
end Mine
end

section
open PySem PySem.W PySem.Calls PyProof.Rows
set_option Elab.async false
set_option maxRecDepth 100000
set_option linter.unusedVariables false
namespace Mine
section
variable {c : Cx} {sc : Scope} {d : Nat} {lm : Loc} {M : Led} {k : MV → Led → Prop} {ku : Loc → Led → Prop} {kN : Loc → Led → Prop} {kR : MV → Led → Prop}
theorem pair_tup {R : CLed} {h : Heap} {t : Addr} {x y : Int} (I : Inv c R h lm M) (hm : (t, MO.tup [.int x, .int y]) ∈ M) : ∃ u v, h.IsTuple t #[.int x u, .int y v] := by
  obtain ⟨vs, n, _, ht, hr⟩ := I.tup hm
  obtain ⟨v1, v2, rfl⟩ := len2 hr.length
  obtain ⟨h1, h2, _⟩ := hr
  cases h1; cases h2
  exact ⟨_, _, ht⟩
/-- two pairs of the same ints are not unlike -/
theorem cmp_ne_pair (a : At c sc d) {t u : Addr} {x y : Int} (ht : (t, MO.tup [.int x, .int y]) ∈ M) (hu : (u, MO.tup [.int x, .int y]) ∈ M) (h : k (.bool false) M) : T2 c (compareOp .NotEq) (.ref t) (.ref u) lm M k := by
  rintro _ _ ⟨⟩ ⟨⟩ R s I
  obtain ⟨a1, a2, h1⟩ := pair_tup I ht
  obtain ⟨b1, b2, h2⟩ := pair_tup I hu
  have hun := units_room a.ok
  refine SeqAt.RcNeAt.tuples (e := fun _ => true) h1 h2 (by lia) (fun j g1 g2 => ?_) c.prog c.w NoE _ ⟨_, M, .bool _, I, .refl _, h⟩
  match j, g1, g2 with
  | 0, _, _ => have := SeqAt.EqAt.int_int (A := c.A.in1) (s := s) x a1 x b1; simpa using this
  | 1, _, _ => have := SeqAt.EqAt.int_int (A := c.A.in1) (s := s) y a2 y b2; simpa using this
theorem k_card (a : At c sc d) {z : Addr} {ns : List Int} {many : Nat} {X : Led} (hd : 1 ≤ d) (hm : 0 < many) (p : Less M ((z, .lst (ilst ns)) :: X)) (h : ∀ (v : Nat) ms, v < many → k (.int v) ((z, .lst (ilst ms)) :: X)) : TC c (.ref 677) [.ref z, .int many] lm M k := by
  refine k_draw a hd (Int.ofNat_lt.mpr hm) p ?_
  have h0 : 0 ≤ drawV ns many ∧ drawV ns many < many := by
    unfold drawV
    split
    · exact ⟨Int.le_refl _, Int.ofNat_lt.mpr hm⟩
    · exact ⟨Int.emod_nonneg _ (by lia), Int.emod_lt_of_pos _ (Int.ofNat_lt.mpr hm)⟩
  rw [show drawV ns many = ((drawV ns many).toNat : Int) by lia]
  exact h _ _ (by lia)
theorem swaps_of (a : At c sc d) {value : PySem.Expr} {t : Option PySem.Expr} {n : Nat} {b : Bool} (h : ∀ e : Env, swapsWith value t n { e with scope := sc } = pure b) : swapsWith value t n c.env = pure b := by
  have := h c.env
  rw [← a.s] at this
  exact this
end
end Mine
end

section
open PySem PySem.W PySem.Calls PyProof.Rows
set_option Elab.async false
set_option maxRecDepth 100000
set_option linter.unusedVariables false
namespace Mine
theorem st_comp {c : Cx} {sc : Scope} {d : Nat} {lm : Loc} {M : Led} {kN : Loc → Led → Prop} {kR : MV → Led → Prop} (a : At c sc d) (j : Nat) {target elt iter : PySem.Expr} {scope : Scope} {cl : List (Str × Addr)} {pos spos : Pos} {y : Str} {py : Pos} (hx : okS sc lm j y = true)
    (hsw : swapsWith (.ListComp elt [⟨target, iter, [], 0⟩] scope pos) (some (.Name y py)) spos.line c.env = pure true)
    (hclos : closureFor scope c.env = pure cl) (hcell : ∀ y ∈ scope.names, y.2 ≠ .cell) (hkind : scope.kind = .function)
    (hnames : ∀ y ∈ scope.names, y.2 = .local → scope.names.lookup y.1 = some .local) (hs : ∀ x, foldedSetIterable iter c.env x = pure x)
    (h : Ti c target iter lm M fun items hold M₂ => CompT c target elt scope cl items hold M₂ fun acc M' => ∀ q, kN (putAt j (y, .ref q) lm) ((q, .lst acc) :: M')) :
    Tf c (exec (.Assign [.Name y py] (.ListComp elt [⟨target, iter, [], 0⟩] scope pos) spos) c.env) lm M kN kR := by
  simp only [okS, Bool.and_eq_true, beq_iff_eq] at hx
  have e : ∀ q : Addr, putAt j (y, .ref q) lm = setL y (.ref q) lm := fun q => (set_put hx.2).symm
  simp only [e] at h
  exact st_assign_comp a.ok hsw hclos hcell hkind hnames hs (by rw [a.s]; exact hx.1) h
/-- the cells of the law -/
structure LC where
  t : Addr
  h : Addr
  l : Addr
  b : Addr
  p : Addr
  w : Addr
  s : Addr
  d : Addr
noncomputable def LC.env (C : LC) : List (Str × Addr) := [(Str.ofString "text", C.t), (Str.ofString "high", C.h), (Str.ofString "low", C.l), (Str.ofString "bottom", C.b), (Str.ofString "top", C.p), (Str.ofString "way", C.w), (Str.ofString "size", C.s), (Str.ofString "deck", C.d)]
noncomputable def LC.led (C : LC) (t h l b p w s d : Option MV) : Led := [(C.t, .cell t), (C.h, .cell h), (C.l, .cell l), (C.b, .cell b), (C.p, .cell p), (C.w, .cell w), (C.s, .cell s), (C.d, .cell d)]
end Mine
end

section
open PySem PySem.W PySem.Calls PyProof.Rows
set_option Elab.async false
set_option linter.unusedVariables false
namespace Mine
theorem perm_count {α : Type} {l m : List α} (h : ∀ f : α → Nat, (l.map f).sum = (m.map f).sum) : l.Perm m := by
  classical
  rw [List.perm_iff_count]
  intro a
  have := h fun x => if x == a then 1 else 0
  have e : ∀ l : List α, (l.map fun x => if x == a then 1 else 0).sum = l.count a := by
    intro l
    induction l with
    | nil => rfl
    | cons x l ih => rw [List.map_cons, List.sum_cons, ih, List.count_cons]; exact Nat.add_comm _ _
  rwa [e, e] at this
section
variable {α : Type} {A B C D E : List α} {x y z u v : α}
theorem pm1 : (A ++ (x :: y :: C)).Perm (y :: (A ++ (x :: C))) := perm_count fun f => by simp only [List.map_append, List.map_cons, List.sum_append, List.sum_cons]; lia
end
end Mine
end

section
open PySem PySem.W PySem.Calls PyProof.Rows
set_option Elab.async false
set_option maxRecDepth 100000
set_option linter.unusedVariables false
set_option linter.unusedSimpArgs false
namespace Mine
section
variable {c : Cx} {sc : Scope} {d : Nat} {lm : Loc} {M : Led} {k : MV → Led → Prop} {kN : Loc → Led → Prop} {kR : MV → Led → Prop}
/-- the front of a list that stood before the call -/
theorem ev_to_base {value hi : PySem.Expr} {p pos : Pos} {z : Addr} {vs : List Value} {ns : List Int} (hz : c.h₀.get? z = some (listOf vs.toArray 0)) (hr : RVs (ilst ns) vs) (hl : ns.length ≤ 1048576)
    (h : Tv c (eval value c.env) lm M fun o M₁ => Tv c (eval hi c.env) lm M₁ fun b M₂ => ∃ n : Nat, o = .ref z ∧ b = .int n ∧ ∀ q, k (.ref q) ((q, .lst (ilst (ns.take n))) :: M₂)) :
    Tv c (eval (.Subscript value (.Slice none (some hi) none p) pos) c.env) lm M k := by
  intro R s I
  refine Subscript_ (h.use I fun o v M₁ s₁ ho I₁ e₁ h₁ => wpAny_Slice (evalPart_none_step ((part_some h₁).use I₁ fun b vb M₃ s₃ hb I₃ e₃ h₃ => evalPart_none_step ?_)))
  obtain ⟨n, rfl, rfl, hk⟩ := h₃
  cases ho
  refine kba_turn (value' := PySem.Expr.Name (Str.ofString "x") ⟨0, 0, 0, 0⟩) (fun _ => rfl) ?_
  have hn : vs.length = ns.length := by rw [hr.length, ilst_len]
  obtain ⟨m, led, F, N, nd, l1, l2⟩ := I₃
  refine kms_slice_lit F N ⟨_, F.keep _ _ hz, rfl, _, rfl⟩ (isPart .none rfl) (isPart hb (p := some (n : Int)) rfl) rfl (fun D h' F' N' hq => ⟨_, _, .ref _, Inv.newLst F' N' nd hq l1 l2 ?_ ?_, e₁.trans (e₃.trans .of), hk _⟩) rfl (fun _ => rfl) (by rw [sizeLine_eq]; simp only [List.size_toArray]; lia)
  · have e := cut_to ns (p := (n : Int)) (Int.natCast_nonneg n)
    rw [Int.toNat_natCast] at e
    rw [← e]
    unfold kms_pick cut
    rw [show (vs.toArray.toList) = vs from rfl, hn, ilst_len]
    exact (hr.drop _).take _
  · rw [ilst_len, List.length_take, sizeLine_eq]; lia
theorem ph1 (a : At c (sScope (fS 69)) d) (hd : 14 ≤ d) {C : LC} (hcs : c.env.cells = C.env) {z : Addr} {vs : List Value} {ns : List Int} (hz : c.h₀.get? z = some (listOf vs.toArray 0)) (hr : RVs (ilst ns) vs) (hl : ns.length ≤ 1048576) (next : ∀ dk ds, Tf c (execs ((sBody (fS 69)).drop 1) c.env) [(Str.ofString "script", .ref z)] (C.led none none none none none none none (some (.ref dk)) ++ [(dk, .lst (ilst ds))]) kN kR) :
    Tf c (execs (sBody (fS 69)) c.env) [(Str.ofString "script", .ref z)] (C.led none none none none none none none none) kN kR := by
  refine st_cons ?_
  refine st_assign rfl (swaps_of a fun e => by kernel_rfl) rfl ?_
  refine ev_comp a.ok (clo_ok hcs (cl := []) (by kernel_rfl)) (by decide +kernel) rfl (by decide +kernel) (fun _ => rfl) ?_
  refine ti_list a.ok ?_
  refine ev_to_base hz hr hl ?_
  refine r_loc a 0 (by kernel_rfl) rfl ?_
  refine ev_int ?_
  refine ⟨60, rfl, rfl, fun q1 => ?_⟩
  refine ⟨_, _, C.led none none none none none none none none, rfl, .refl _, ?_⟩
  refine ⟨by rw [List.length_map, ilst_len, List.length_take]; exact szOk (by lia), fun i acc M' => ∃ l, acc = ilst l ∧ M' = C.led none none none none none none none none, ⟨_, .refl _, [], rfl, rfl⟩, fun C' h₀ i iv acc M okc hi hJ => ?_, fun acc M hJ hl dk => ?_⟩
  · have a2 := at_comp a okc
    obtain ⟨l, e1, e2⟩ := hJ
    subst e1 e2
    obtain ⟨n, hn, e⟩ := one_of hi
    subst e
    refine ti_one ?_
    refine s_loc a2 0 (by kernel_rfl) ?_
    refine c_blt a2 "abs" (by kernel_rfl) rfl ?_
    refine a_cons rfl ?_
    refine r_loc a2 0 (by kernel_rfl) rfl ?_
    refine a_nil ?_
    refine tc_abs ?_
    exact ⟨_, .refl _, l ++ [(n.natAbs : Int)], (ilst_app l [_]), rfl⟩
  obtain ⟨ds, e1, e2⟩ := hJ
  subst e1 e2
  refine s_cell a hcs (by kernel_rfl) rfl (by decreasing_tactic) ?_
  refine @Tf.less _ _ _ _ _ _ _ ((Less.cons (.skip (.refl (C.led none none none none none none none (some (.ref dk)))))).trans Less.last) ?_
  exact @next dk ds
end
end Mine
end

section
open PySem PySem.W PySem.Calls PyProof.Rows
set_option Elab.async false
set_option maxRecDepth 100000
set_option linter.unusedVariables false
set_option linter.unusedSimpArgs false
namespace Mine
section
variable {c : Cx} {sc : Scope} {d : Nat} {lm : Loc} {M : Led} {k : MV → Led → Prop} {kN : Loc → Led → Prop} {kR : MV → Led → Prop}
noncomputable def Sign (x : Int) : Prop := x = 97 ∨ x = 98 ∨ x = 32
noncomputable def GoodRow (r : List Int) : Prop := r.length ≤ 6 ∧ ∀ x ∈ r, Sign x
theorem sign_at {v : Nat} (h : v < 4) : ∃ x, Sign x ∧ itemAt [.int 97, .int 98, .int 32, .int 97] (v : Int) = some (.int x) := by
  match v, h with
  | 0, _ => exact ⟨97, .inl rfl, rfl⟩
  | 1, _ => exact ⟨98, .inr (.inl rfl), rfl⟩
  | 2, _ => exact ⟨32, .inr (.inr rfl), rfl⟩
  | 3, _ => exact ⟨97, .inl rfl, rfl⟩
noncomputable def LC.deck (C : LC) (dk : Addr) : Led := C.led none none none none none none none (some (.ref dk))
theorem row_new {x y q : Addr × MO} {L R : Led} : Less (q :: x :: y :: (L ++ R)) (x :: y :: (L ++ (R ++ [q]))) := by
  have := Less.last (x := q) (G := x :: y :: (L ++ R))
  rwa [show (x :: y :: (L ++ R)) ++ [q] = x :: y :: (L ++ (R ++ [q])) by simp] at this
theorem ph2 (a : At c (sScope (fS 69)) d) (hd : 14 ≤ d) {C : LC} (hcs : c.env.cells = C.env) {dk z : Addr} {ds : List Int} (next : ∀ rq rs ds, 1 ≤ rs.length → rs.length ≤ 4 → (∀ r ∈ rs, GoodRow r.2) → Tf c (execs ((sBody (fS 69)).drop 3) c.env) [(Str.ofString "script", .ref z), (Str.ofString "rows", .ref rq)] (C.deck dk ++ ((dk, .lst (ilst ds)) :: (rq, .lst (refs rs)) :: rowL rs)) kN kR) :
    Tf c (execs ((sBody (fS 69)).drop 1) c.env) [(Str.ofString "script", .ref z)] (C.deck dk ++ [(dk, .lst (ilst ds))]) kN kR := by
  refine st_cons ?_
  refine st_assign rfl rfl rfl ?_
  refine e_list ?_
  refine a_nil ?_
  refine ⟨Nat.le_of_ble_eq_true rfl, fun rq => ?_⟩
  refine s_loc a 1 (by kernel_rfl) ?_
  refine st_cons ?_
  -- FOR
  refine st_for (fun _ => rfl) ?_
  refine i_typ a "range" (by kernel_rfl) rfl ?_
  refine a_cons rfl ?_
  refine ev_binop ?_
  refine ev_int ?_
  refine c_ref a 677 (by kernel_rfl) rfl ?_
  refine a_cons rfl ?_
  refine r_cell a hcs (by kernel_rfl) rfl (by trivial) ?_
  refine a_cons rfl ?_
  refine ev_int ?_
  refine a_nil ?_
  refine k_card a (many := 4) (by lia) (by lia) (Less.first (G := (rq, .lst (refs [])) :: C.deck dk)) fun v ds hv => ?_
  refine bin_add ?_
  refine a_nil ?_
  refine tic_range1 a.ok (by lia) ?_
  refine ⟨fun i lm' M' => ∃ rs ds, lm' = [(Str.ofString "script", .ref z), (Str.ofString "rows", .ref rq)] ∧ M' = (dk, .lst (ilst ds)) :: (rq, .lst (refs rs)) :: (C.deck dk ++ rowL rs) ∧ rs.length = i ∧ ∀ r ∈ rs, GoodRow r.2, ⟨_, _, sub_cons 0 (by kernel_rfl) rfl (sub_cons 1 (by kernel_rfl) rfl sub_nil), .cons (.cons less_nil), [], ds, rfl, rfl, rfl, nofun⟩, fun i iv lm M hi hJ => ?_, fun lm M hJ => ?_⟩
  · obtain ⟨rs, ds, e1, e2, e3, e4⟩ := hJ
    subst e1 e2
    obtain ⟨hi2, e⟩ := rng_of hi
    subst e
    refine ti_one ?_
    refine s_loc a 2 (by kernel_rfl) ?_
    refine st_cons ?_
    refine st_expr a.ok rfl ?_
    refine c_append a rfl rfl ?_
    refine r_loc a 1 (by kernel_rfl) rfl ?_
    refine ⟨_, refs rs, rfl, .tail _ (.head _), ?_⟩
    refine a_cons rfl ?_
    refine ev_comp a.ok (clo_ok hcs (cl := [(Str.ofString "deck", C.d)]) (by kernel_rfl)) (by decide +kernel) rfl (by decide +kernel) (fun _ => rfl) ?_
    refine i_typ a "range" (by kernel_rfl) rfl ?_
    refine a_cons rfl ?_
    refine c_ref a 677 (by kernel_rfl) rfl ?_
    refine a_cons rfl ?_
    refine r_cell a hcs (by kernel_rfl) rfl (by trivial) ?_
    refine a_cons rfl ?_
    refine ev_int ?_
    refine a_nil ?_
    refine k_card a (many := 7) (by lia) (by lia) (.refl _) fun u ds hu => ?_
    refine a_nil ?_
    refine tic_range1 a.ok (by lia) ?_
    refine ⟨by rw [rng_len]; exact szOk (by lia), fun i acc M' => ∃ l ds, acc = ilst l ∧ M' = (dk, .lst (ilst ds)) :: (rq, .lst (refs rs)) :: (C.deck dk ++ rowL rs) ∧ l.length = i ∧ ∀ x ∈ l, Sign x, ⟨_, .refl _, [], ds, rfl, rfl, rfl, nofun⟩, fun C' h₀ i iv acc M okc hi hJ => ?_, fun acc M hJ hl q => ?_⟩
    · have a2 := at_comp a okc
      obtain ⟨l, ds, e1, e2, e3, e4⟩ := hJ
      subst e1 e2
      obtain ⟨hi2, e⟩ := rng_of hi
      subst e
      refine ti_one ?_
      refine s_loc a2 0 (by kernel_rfl) ?_
      refine ev_index ?_
      refine e_list ?_
      refine a_cons rfl ?_
      refine ev_int ?_
      refine a_cons rfl ?_
      refine ev_int ?_
      refine a_cons rfl ?_
      refine ev_int ?_
      refine a_cons rfl ?_
      refine ev_int ?_
      refine a_nil ?_
      refine ⟨Nat.le_of_ble_eq_true rfl, fun q2 => ?_⟩
      refine c_ref a2 677 (by kernel_rfl) rfl ?_
      refine a_cons rfl ?_
      refine r_cell a2 rfl (by kernel_rfl) rfl (by trivial) ?_
      refine a_cons rfl ?_
      refine ev_int ?_
      refine a_nil ?_
      refine k_card a2 (many := 4) (by lia) (by lia) (.perm (.swap _ _ _)) fun y ds hy => ?_
      obtain ⟨x, hx, hxi⟩ := sign_at hy
      refine sub_lst (.tail _ (.head _)) hxi ?_ (fun _ => rfl)
      exact ⟨_, .cons (.skip (.refl _)), l ++ [x], ds, ilst_app l [x], rfl, by rw [List.length_append, e3]; rfl, fun w hw => (List.mem_append.mp hw).elim (e4 w) fun h => List.mem_singleton.mp h ▸ hx⟩
    obtain ⟨l, ds, e1, e2, e5, e6⟩ := hJ
    subst e1 e2
    rw [rng_len] at e5
    refine a_nil ?_
    refine tc_append (.tail (.tail .head)) (by rw [refs_len]; exact szOk (n := rs.length + 1) (by lia)) ?_
    refine st_nil ?_
    refine ⟨_, _, sub_cons 0 (by kernel_rfl) rfl (sub_cons 1 (by kernel_rfl) rfl sub_nil), row_new, rs ++ [(q, l)], ds, rfl, by rw [refs_app, rowL_app]; rfl, by rw [List.length_append, e3]; rfl, fun r hr => (List.mem_append.mp hr).elim (e4 r) fun h => ?_⟩
    rw [List.mem_singleton.mp h]
    exact ⟨by show l.length ≤ 6; lia, e6⟩
  · obtain ⟨rs, ds, e1, e2, e3, e4⟩ := hJ
    subst e1 e2
    rw [rng_len] at e3
    exact Tf.less (Less.swap (E := [(dk, .lst (ilst ds)), (rq, .lst (refs rs))]) (A := C.deck dk) (R := rowL rs)) (next rq rs ds (by lia) (by lia) e4)
end
end Mine
end

section
open PySem PySem.W PySem.Calls PyProof.Rows
set_option Elab.async false
set_option maxRecDepth 100000
set_option linter.unusedVariables false
set_option linter.unusedSimpArgs false
namespace Mine
section
variable {c : Cx} {sc : Scope} {d : Nat} {lm : Loc} {M : Led} {k : MV → Led → Prop} {kN : Loc → Led → Prop} {kR : MV → Led → Prop}
theorem jn_off : ∀ {R : List (List Int)}, R ≠ [] → (jn R).length + 1 = off R R.length
  | [], h => absurd rfl h
  | x :: r, _ => by
    have key : ∀ r : List (List Int), (r.flatMap fun y => (10 : Int) :: y).length = off r r.length := fun r => by
      induction r with
      | nil => rfl
      | cons y r ih => rw [List.flatMap_cons, List.length_append, ih]; show y.length + 1 + _ = y.length + 1 + _; rfl
    show (x ++ r.flatMap _).length + 1 = x.length + 1 + off r r.length
    rw [List.length_append, key]; lia
theorem off_le {m : Nat} : ∀ {R : List (List Int)}, (∀ r ∈ R, r.length + 1 ≤ m) → ∀ k, off R k ≤ k * m
  | [], _, k => Nat.zero_le _
  | x :: r, _, 0 => Nat.zero_le _
  | x :: r, h, k + 1 => by
    have := off_le (R := r) (fun y hy => h y (.tail _ hy)) k
    have hx := h x (.head _)
    rw [Nat.succ_mul]; show x.length + 1 + off r k ≤ _; lia
noncomputable def RL (rq : Addr) (rs : Rows) : Led := (rq, .lst (refs rs)) :: rowL rs
theorem RL_has {M : Led} {rq : Addr} {rs : Rows} (h : ∀ x ∈ RL rq rs, x ∈ M) : HasRows M rq rs := ⟨h _ (.head _), fun r hr => h _ (.tail _ (rowL_mem hr))⟩
/-- the rows of the law -/
structure LR (rs : Rows) (R : List (List Int)) : Prop where
  e : rs.map (·.2) = R
  lo : 1 ≤ R.length
  hi : R.length ≤ 4
  g : ∀ r ∈ R, GoodRow r
theorem LR.len {rs : Rows} {R : List (List Int)} (h : LR rs R) : rs.length = R.length := by rw [← h.e, List.length_map]
theorem LR.jn {rs : Rows} {R : List (List Int)} (h : LR rs R) : (jn R).length + 1 = off R R.length ∧ (Mine.jn R).length ≤ 27 := by
  have h1 := jn_off (R := R) (fun e => by have := h.lo; rw [e] at this; exact absurd this (by decide))
  have h2 := off_le (R := R) (m := 7) (fun r hr => Nat.succ_le_succ (h.g r hr).1) R.length
  have := h.hi
  exact ⟨h1, by lia⟩
/-- the buffer that the law has filled -/
structure LB (B : Buf) (R : List (List Int)) (n : Nat) : Prop where
  ok : B.Ok
  t : B.g.text = jn R
  few : B.K.l.length = n
  c : B.g.cells.length ≤ 100
theorem pm2 {α : Type} {A D : List α} {u q : α} : (A ++ (q :: u :: D)).Perm (u :: A ++ (q :: D)) := perm_count fun f => by simp only [List.map_append, List.map_cons, List.map_nil, List.sum_append, List.sum_cons, List.sum_nil]; lia
theorem pm3 {α : Type} {A L R : List α} {q d : α} : (A ++ (q :: d :: (L ++ R))).Perm (d :: (L ++ (R ++ (q :: A)))) := perm_count fun f => by simp only [List.map_append, List.map_cons, List.map_nil, List.sum_append, List.sum_cons, List.sum_nil]; lia
theorem ph3 (a : At c (sScope (fS 69)) d) (hd : 14 ≤ d) {C : LC} (hcs : c.env.cells = C.env) {z rq dk : Addr} {rs : Rows} {R : List (List Int)} {ds : List Int} (hR : LR rs R)
    (next : ∀ mk (B : Buf), LB B R 0 → Tf c (execs ((sBody (fS 69)).drop 6) c.env) [(Str.ofString "script", .ref z), (Str.ofString "rows", .ref rq), (Str.ofString "marks", .ref mk), (Str.ofString "buffer", .ref B.b)]
      ((dk, .lst (ilst ds)) :: (C.led none none none none none none (some (.int ((jn R).length + 1 : Nat))) (some (.ref dk)) ++ (RL rq rs ++ ((mk, .lst []) :: bufL B)))) kN kR) :
    Tf c (execs ((sBody (fS 69)).drop 3) c.env) [(Str.ofString "script", .ref z), (Str.ofString "rows", .ref rq)] ((dk, .lst (ilst ds)) :: (C.deck dk ++ RL rq rs)) kN kR := by
  refine st_cons ?_
  refine st_assign_swap a.ok rfl (swap_of a (r := some [Str.ofString "codes", Str.ofString "marks"]) fun e => by kernel_rfl) ?_
  refine e_tuple ?_
  refine a_cons rfl ?_
  refine c_ref a 705 (by kernel_rfl) rfl ?_
  refine a_cons rfl ?_
  refine r_loc a 1 (by kernel_rfl) rfl ?_
  refine a_nil ?_
  have hrl := hR.len
  have hrn := hR.jn
  have hlo := hR.hi
  have hH : HasRows ((dk, .lst (ilst ds)) :: (C.deck dk ++ RL rq rs)) rq rs := RL_has fun x hx => .tail _ (List.mem_append_right _ hx)
  refine use' a (fun p w => d_law_text hH (by lia) (fun r hr => Nat.le_trans (hR.g r.2 (hR.e ▸ List.mem_map_of_mem hr)).1 (by decide)) p w) (by lia) fun _ _ zz => ?_
  obtain ⟨u, e, e'⟩ := zz
  subst e e'
  rw [hR.e]
  refine a_cons rfl ?_
  refine e_list ?_
  refine a_nil ?_
  refine ⟨Nat.le_of_ble_eq_true rfl, fun q1 => ?_⟩
  refine a_nil ?_
  refine ⟨Nat.le_of_ble_eq_true rfl, fun q2 => ?_⟩
  refine ⟨_, _, rfl, by trivial, rfl, ?_⟩
  refine s_swap a 2 (by kernel_rfl) ?_
  refine s_swap a 3 (by kernel_rfl) ?_
  refine tbs_nil ?_
  refine Tf.less (M₀ := (q1, .lst []) :: (u, .lst (ilst (jn R))) :: (dk, .lst (ilst ds)) :: (C.deck dk ++ RL rq rs)) (.skip (.refl _)) ?_
  refine st_cons ?_
  refine st_assign rfl rfl (swap_of a (r := none) fun e => by kernel_rfl) ?_
  refine e_tuple ?_
  refine a_cons rfl ?_
  refine ev_binop ?_
  refine c_blt a "len" (by kernel_rfl) rfl ?_
  refine a_cons rfl ?_
  refine r_loc a 3 (by kernel_rfl) rfl ?_
  refine a_nil ?_
  refine tc_len (xs := ilst (jn R)) (.tail _ (.head _)) ?_
  rw [ilst_len]
  refine ev_int ?_
  refine bin_add ?_
  refine a_cons rfl ?_
  refine c_ref a 661 (by kernel_rfl) rfl ?_
  refine a_cons rfl ?_
  refine ev_int ?_
  refine a_cons rfl ?_
  refine ev_str ?_
  refine a_nil ?_
  refine use a (M₀ := []) (X := (q1, .lst []) :: (u, .lst (ilst (jn R))) :: (dk, .lst (ilst ds)) :: (C.deck dk ++ RL rq rs)) (fun p w => d_Buffer p w) (by lia) (.refl _) fun _ _ zz => ?_
  obtain ⟨B, e, e', hB, hB1, hB2, hB3, hB4⟩ := zz
  subst e e'
  rw [show ((jn R).length : Int) + 1 = (((jn R).length + 1 : Nat) : Int) from rfl]
  refine a_nil ?_
  refine ⟨Nat.le_of_ble_eq_true rfl, fun q3 => ?_⟩
  refine ta_tuple a.ok rfl (.head _) rfl ?_
  refine tas_cons ?_
  refine s_cell a hcs (by kernel_rfl) rfl (.tail (.right (bufL B) (.tail (.tail (.tail (by decreasing_tactic)))))) ?_
  refine tas_cons ?_
  refine s_loc a 4 (by kernel_rfl) ?_
  refine tas_nil ?_
  refine Tf.less (M₀ := (u, .lst (ilst (jn R))) :: bufL B ++ ((q1, .lst []) :: (dk, .lst (ilst ds)) :: (C.led none none none none none none (some (.int ((jn R).length + 1 : Nat))) (some (.ref dk)) ++ RL rq rs))) (.skip (.perm pm2)) ?_
  refine st_cons ?_
  refine st_expr a.ok rfl ?_
  refine c_ref a 127 (by kernel_rfl) rfl ?_
  refine a_cons rfl ?_
  refine r_loc a 4 (by kernel_rfl) rfl ?_
  refine a_cons rfl ?_
  refine r_loc a 3 (by kernel_rfl) rfl ?_
  refine a_nil ?_
  refine k_insert a (i := 0) (by lia) hB hB2 (Nat.zero_le _) (by lia) (by lia) (.refl _) fun B' hB' => ?_
  refine Tf.less (.skip (.perm pm3)) ?_
  rw [← hB'.b]
  refine Tf.sub (sub_cons 0 (by kernel_rfl) rfl (sub_cons 1 (by kernel_rfl) rfl (sub_cons 2 (by kernel_rfl) rfl (sub_cons 4 (by kernel_rfl) rfl sub_nil)))) (next q1 B' ⟨hB'.ok hB, ?_, ?_, ?_⟩)
  · rw [hB'.g.text, hB1]; simp
  · rw [hB'.K]; show (List.map _ B.K.l).length = 0; rw [hB3]; rfl
  · have := hB'.g.len; lia
end
end Mine
end

section
open PySem PySem.W PySem.Calls PyProof.Rows
set_option Elab.async false
set_option maxRecDepth 100000
set_option linter.unusedVariables false
set_option linter.unusedSimpArgs false
namespace Mine
section
variable {c : Cx} {sc : Scope} {d : Nat} {lm : Loc} {M : Led} {k : MV → Led → Prop} {kN : Loc → Led → Prop} {kR : MV → Led → Prop}
theorem ph6 (a : At c (sScope (fS 69)) d) (hd : 14 ≤ d) {C : LC} (hcs : c.env.cells = C.env) {z rq dk mk b : Addr} {ds : List Int} {n : Nat} {X : Led} (next : ∀ (i j w : Nat) ds, i ≤ n → j ≤ n → w ≤ 3 → Tf c (execs ((sBody (fS 69)).drop 7) c.env) [(Str.ofString "script", .ref z), (Str.ofString "rows", .ref rq), (Str.ofString "marks", .ref mk), (Str.ofString "buffer", .ref b), (Str.ofString "one", .int ((i : Int) + 1)), (Str.ofString "other", .int ((j : Int) + 1))] ((dk, .lst (ilst ds)) :: (C.led none none none none none (some (.int (w : Nat))) (some (.int (n + 1 : Nat))) (some (.ref dk)) ++ X)) kN kR) :
    Tf c (execs ((sBody (fS 69)).drop 6) c.env) [(Str.ofString "script", .ref z), (Str.ofString "rows", .ref rq), (Str.ofString "marks", .ref mk), (Str.ofString "buffer", .ref b)] ((dk, .lst (ilst ds)) :: (C.led none none none none none none (some (.int (n + 1 : Nat))) (some (.ref dk)) ++ X)) kN kR := by
  refine st_cons ?_
  refine st_assign rfl rfl (swap_of a (r := none) fun e => by kernel_rfl) ?_
  refine e_tuple ?_
  refine a_cons rfl ?_
  refine ev_binop ?_
  refine ev_int ?_
  refine c_ref a 677 (by kernel_rfl) rfl ?_
  refine a_cons rfl ?_
  refine r_cell a hcs (by kernel_rfl) rfl (by trivial) ?_
  refine a_cons rfl ?_
  refine r_cell a hcs (by kernel_rfl) rfl (by trivial) ?_
  refine a_nil ?_
  refine k_card a (many := n + 1) (by lia) (by lia) (.refl _) fun i ds hi => ?_
  refine bin_add ?_
  rw [Int.add_comm 1 (i : Int)]
  refine a_cons rfl ?_
  refine ev_binop ?_
  refine ev_int ?_
  refine c_ref a 677 (by kernel_rfl) rfl ?_
  refine a_cons rfl ?_
  refine r_cell a hcs (by kernel_rfl) rfl (by trivial) ?_
  refine a_cons rfl ?_
  refine r_cell a hcs (by kernel_rfl) rfl (by trivial) ?_
  refine a_nil ?_
  refine k_card a (many := n + 1) (by lia) (by lia) (.refl _) fun j ds hj => ?_
  refine bin_add ?_
  rw [Int.add_comm 1 (j : Int)]
  refine a_cons rfl ?_
  refine c_ref a 677 (by kernel_rfl) rfl ?_
  refine a_cons rfl ?_
  refine r_cell a hcs (by kernel_rfl) rfl (by trivial) ?_
  refine a_cons rfl ?_
  refine ev_int ?_
  refine a_nil ?_
  refine k_card a (many := 4) (by lia) (by lia) (.refl _) fun w ds hw => ?_
  refine a_nil ?_
  refine ⟨Nat.le_of_ble_eq_true rfl, fun q1 => ?_⟩
  refine ta_tuple a.ok rfl (by trivial) rfl ?_
  refine tas_cons ?_
  refine s_loc a 4 (by kernel_rfl) ?_
  refine tas_cons ?_
  refine s_loc a 5 (by kernel_rfl) ?_
  refine tas_cons ?_
  refine s_cell a hcs (by kernel_rfl) rfl (by decreasing_tactic) ?_
  refine tas_nil ?_
  exact Tf.less (.skip (.refl _)) (next i j w ds (by lia) (by lia) (by lia))
theorem spot_ex : ∀ {R : List (List Int)} {p : Nat}, p < off R R.length → ∃ a c xs, R[a]? = some xs ∧ c ≤ xs.length ∧ p = off R a + c
  | [], p, h => absurd h (Nat.not_lt_zero _)
  | x :: r, p, h => by
    have h : p < x.length + 1 + off r r.length := h
    by_cases e : p ≤ x.length
    · exact ⟨0, p, x, rfl, e, by rw [off_zero, Nat.zero_add]⟩
    · obtain ⟨a, c, xs, h1, h2, h3⟩ := spot_ex (R := r) (p := p - (x.length + 1)) (by lia)
      exact ⟨a + 1, c, xs, by simpa using h1, h2, by show p = x.length + 1 + off r a + c; lia⟩
/-- a place of the text, as a row and a column -/
structure Spot (R : List (List Int)) (p a c : Nat) : Prop where
  h : ∃ xs, R[a]? = some xs ∧ c ≤ xs.length
  e : p = off R a + c
theorem Spot.ex {R : List (List Int)} {p : Nat} (h : p + 1 ≤ off R R.length) : ∃ a c, Spot R p a c := by
  obtain ⟨a, c, xs, h1, h2, h3⟩ := spot_ex (R := R) (p := p) (by lia)
  exact ⟨a, c, ⟨xs, h1, h2⟩, h3⟩
theorem k_spotR (a : At c sc d) {q : Addr} {rs : Rows} {R : List (List Int)} {p u v : Nat} {x : Int} (hd : 1 ≤ d) (H : HasRows M q rs) (hR : rs.map (·.2) = R) (hz : rs.length ≤ 1000) (hs : Spot R p u v) (hp : x = (p : Int) + 1) (h : ∀ t, k (.ref t) ((t, .tup [.int u, .int v]) :: M)) : TC c (.ref 684) [.ref q, .int x] lm M k := by
  obtain ⟨⟨xs, h1, h2⟩, h3⟩ := hs
  subst hR
  exact k_spot a hd H h1 h2 (by rw [hp, h3]) hz h
theorem ph7 (a : At c (sScope (fS 69)) d) (hd : 14 ≤ d) {C : LC} (hcs : c.env.cells = C.env) {z rq dk mk b : Addr} {rs : Rows} {R : List (List Int)} {ds : List Int} {i j n w : Nat} {X : Led} (hR : LR rs R) (hX : ∀ x ∈ RL rq rs, x ∈ X) (hi : i + 1 ≤ off R R.length) (hj : j + 1 ≤ off R R.length) (next : ∀ (u1 v1 u2 v2 : Nat), Spot R (min i j) u1 v1 → Spot R (max i j) u2 v2 → Tf c (execs ((sBody (fS 69)).drop 8) c.env) [(Str.ofString "script", .ref z), (Str.ofString "rows", .ref rq), (Str.ofString "marks", .ref mk), (Str.ofString "buffer", .ref b), (Str.ofString "one", .int ((i : Int) + 1)), (Str.ofString "other", .int ((j : Int) + 1)), (Str.ofString "first", .int v1), (Str.ofString "last", .int v2)] ((dk, .lst (ilst ds)) :: (C.led none none none (some (.int (u2 : Nat))) (some (.int (u1 : Nat))) (some (.int (w : Nat))) (some (.int (n + 1 : Nat))) (some (.ref dk)) ++ X)) kN kR) :
    Tf c (execs ((sBody (fS 69)).drop 7) c.env) [(Str.ofString "script", .ref z), (Str.ofString "rows", .ref rq), (Str.ofString "marks", .ref mk), (Str.ofString "buffer", .ref b), (Str.ofString "one", .int ((i : Int) + 1)), (Str.ofString "other", .int ((j : Int) + 1))] ((dk, .lst (ilst ds)) :: (C.led none none none none none (some (.int (w : Nat))) (some (.int (n + 1 : Nat))) (some (.ref dk)) ++ X)) kN kR := by
  obtain ⟨u1, v1, h1⟩ := Spot.ex (R := R) (p := min i j) (by lia)
  obtain ⟨u2, v2, h2⟩ := Spot.ex (R := R) (p := max i j) (by lia)
  have hlen := hR.len
  have hfew := hR.hi
  refine st_cons ?_
  refine st_assign rfl rfl (swap_of a (r := none) fun e => by kernel_rfl) ?_
  refine e_tuple ?_
  refine a_cons rfl ?_
  refine c_ref a 684 (by kernel_rfl) rfl ?_
  refine a_cons rfl ?_
  refine r_loc a 1 (by kernel_rfl) rfl ?_
  refine a_cons rfl ?_
  refine c_blt a "min" (by kernel_rfl) rfl ?_
  refine a_cons rfl ?_
  refine r_loc a 4 (by kernel_rfl) rfl ?_
  refine a_cons rfl ?_
  refine r_loc a 5 (by kernel_rfl) rfl ?_
  refine a_nil ?_
  refine tc_min2 a.ok ?_
  refine a_nil ?_
  refine k_spotR a (by lia) (RL_has fun x hx => .tail _ (List.mem_append_right _ (hX x hx))) hR.e (by lia) h1 (by lia) fun t1 => ?_
  refine a_cons rfl ?_
  refine c_ref a 684 (by kernel_rfl) rfl ?_
  refine a_cons rfl ?_
  refine r_loc a 1 (by kernel_rfl) rfl ?_
  refine a_cons rfl ?_
  refine c_blt a "max" (by kernel_rfl) rfl ?_
  refine a_cons rfl ?_
  refine r_loc a 4 (by kernel_rfl) rfl ?_
  refine a_cons rfl ?_
  refine r_loc a 5 (by kernel_rfl) rfl ?_
  refine a_nil ?_
  refine tc_max2 a.ok ?_
  refine a_nil ?_
  refine k_spotR a (by lia) (RL_has fun x hx => .tail _ (.tail _ (List.mem_append_right _ (hX x hx)))) hR.e (by lia) h2 (by lia) fun t2 => ?_
  refine a_nil ?_
  refine ⟨Nat.le_of_ble_eq_true rfl, fun q1 => ?_⟩
  refine ta_tuple a.ok rfl (by trivial) rfl ?_
  refine tas_cons ?_
  refine ta_tuple a.ok rfl (by trivial) rfl ?_
  refine tas_cons ?_
  refine s_cell a hcs (by kernel_rfl) rfl (by decreasing_tactic) ?_
  refine tas_cons ?_
  refine s_loc a 6 (by kernel_rfl) ?_
  refine tas_nil ?_
  refine tas_cons ?_
  refine ta_tuple a.ok rfl (by trivial) rfl ?_
  refine tas_cons ?_
  refine s_cell a hcs (by kernel_rfl) rfl (by decreasing_tactic) ?_
  refine tas_cons ?_
  refine s_loc a 7 (by kernel_rfl) ?_
  refine tas_nil ?_
  refine tas_nil ?_
  exact Tf.less (.skip (.skip (.skip (.refl _)))) (next u1 v1 u2 v2 h1 h2)
end
end Mine
end

section
open PySem PySem.W PySem.Calls PyProof.Rows
set_option Elab.async false
set_option maxRecDepth 100000
set_option maxHeartbeats 4000000
set_option linter.unusedVariables false
set_option linter.unusedSimpArgs false
namespace Mine
section
variable {c : Cx} {sc : Scope} {d : Nat} {lm : Loc} {M : Led} {k : MV → Led → Prop} {kN : Loc → Led → Prop} {kR : MV → Led → Prop}
theorem ph8 (a : At c (sScope (fS 69)) d) (hd : 14 ≤ d) {C : LC} (hcs : c.env.cells = C.env) {z rq dk mk b : Addr} {ds : List Int} {i j n w u1 u2 v1 v2 : Nat} {X : Led} (next : ∀ lo hi : Nat, lo = min v1 v2 → hi = max v1 v2 → Tf c (execs ((sBody (fS 69)).drop 9) c.env) [(Str.ofString "script", .ref z), (Str.ofString "rows", .ref rq), (Str.ofString "marks", .ref mk), (Str.ofString "buffer", .ref b), (Str.ofString "one", .int ((i : Int) + 1)), (Str.ofString "other", .int ((j : Int) + 1))] ((dk, .lst (ilst ds)) :: (C.led none (some (.int (hi : Nat))) (some (.int (lo : Nat))) (some (.int (u2 : Nat))) (some (.int (u1 : Nat))) (some (.int (w : Nat))) (some (.int (n + 1 : Nat))) (some (.ref dk)) ++ X)) kN kR) :
    Tf c (execs ((sBody (fS 69)).drop 8) c.env) [(Str.ofString "script", .ref z), (Str.ofString "rows", .ref rq), (Str.ofString "marks", .ref mk), (Str.ofString "buffer", .ref b), (Str.ofString "one", .int ((i : Int) + 1)), (Str.ofString "other", .int ((j : Int) + 1)), (Str.ofString "first", .int v1), (Str.ofString "last", .int v2)] ((dk, .lst (ilst ds)) :: (C.led none none none (some (.int (u2 : Nat))) (some (.int (u1 : Nat))) (some (.int (w : Nat))) (some (.int (n + 1 : Nat))) (some (.ref dk)) ++ X)) kN kR := by
  refine st_cons ?_
  refine st_assign rfl rfl (swap_of a (r := none) fun e => by kernel_rfl) ?_
  refine e_tuple ?_
  refine a_cons rfl ?_
  refine c_blt a "min" (by kernel_rfl) rfl ?_
  refine a_cons rfl ?_
  refine r_loc a 6 (by kernel_rfl) rfl ?_
  refine a_cons rfl ?_
  refine r_loc a 7 (by kernel_rfl) rfl ?_
  refine a_nil ?_
  refine tc_min2 a.ok ?_
  rw [show min (v1 : Int) v2 = ((min v1 v2 : Nat) : Int) by lia]
  refine a_cons rfl ?_
  refine c_blt a "max" (by kernel_rfl) rfl ?_
  refine a_cons rfl ?_
  refine r_loc a 6 (by kernel_rfl) rfl ?_
  refine a_cons rfl ?_
  refine r_loc a 7 (by kernel_rfl) rfl ?_
  refine a_nil ?_
  refine tc_max2 a.ok ?_
  rw [show max (v1 : Int) v2 = ((max v1 v2 : Nat) : Int) by lia]
  refine a_nil ?_
  refine ⟨Nat.le_of_ble_eq_true rfl, fun q1 => ?_⟩
  refine ta_tuple a.ok rfl (by trivial) rfl ?_
  refine tas_cons ?_
  refine s_cell a hcs (by kernel_rfl) rfl (by decreasing_tactic) ?_
  refine tas_cons ?_
  refine s_cell a hcs (by kernel_rfl) rfl (by decreasing_tactic) ?_
  refine tas_nil ?_
  refine @Tf.less _ _ _ _ _ _ _ (.skip (.refl _)) ?_
  refine @Tf.sub _ _ _ _ _ _ _ ((sub_cons 0 (by kernel_rfl) rfl (sub_cons 1 (by kernel_rfl) rfl (sub_cons 2 (by kernel_rfl) rfl (sub_cons 3 (by kernel_rfl) rfl (sub_cons 4 (by kernel_rfl) rfl (sub_cons 5 (by kernel_rfl) rfl sub_nil))))))) ?_
  exact @next _ _ rfl rfl
theorem text_at {Q : Led} {q4 q5 q7 q8 : Addr} {r : List Int} {v : Nat} (hv : v < 4) (hr : r.length ≤ 6) (h4 : (q4, MO.lst (ilst [88])) ∈ Q) (h5 : (q5, MO.lst (ilst [])) ∈ Q) (h7 : (q7, MO.lst (ilst r)) ∈ Q) (h8 : (q8, MO.lst (ilst [88, 89, 90])) ∈ Q) :
    ∃ tx txt, itemAt [.ref q4, .ref q5, .ref q7, .ref q8] (v : Int) = some (.ref tx) ∧ (tx, MO.lst (ilst txt)) ∈ Q ∧ txt.length ≤ 6 := by
  match v, hv with
  | 0, _ => exact ⟨q4, [88], rfl, h4, by decide⟩
  | 1, _ => exact ⟨q5, [], rfl, h5, by decide⟩
  | 2, _ => exact ⟨q7, r, rfl, h7, hr⟩
  | 3, _ => exact ⟨q8, [88, 89, 90], rfl, h8, by decide⟩
theorem less_pick {Q L X : Led} {x : Addr × MO} (h : x ∈ Q) : Less (Q ++ (L ++ X)) (L ++ (x :: X)) := by
  obtain ⟨Q2, p⟩ := pick_of h
  refine (Less.perm (p.append_right _)).trans ((Less.cons (Less.drop (.refl _))).trans (.perm ?_))
  exact List.perm_middle.symm
theorem ph9 (a : At c (sScope (fS 69)) d) (hd : 14 ≤ d) {C : LC} (hcs : c.env.cells = C.env) {z rq dk mk b : Addr} {ds : List Int} {i j n w u1 u2 lo hi : Nat} {X : Led} (hz : lo ≤ hi ∧ hi ≤ 6) (next : ∀ tx txt ds, txt.length ≤ 6 → Tf c (execs ((sBody (fS 69)).drop 10) c.env) [(Str.ofString "script", .ref z), (Str.ofString "rows", .ref rq), (Str.ofString "marks", .ref mk), (Str.ofString "buffer", .ref b), (Str.ofString "one", .int ((i : Int) + 1)), (Str.ofString "other", .int ((j : Int) + 1))] ((dk, .lst (ilst ds)) :: (C.led (some (.ref tx)) (some (.int (hi : Nat))) (some (.int (lo : Nat))) (some (.int (u2 : Nat))) (some (.int (u1 : Nat))) (some (.int (w : Nat))) (some (.int (n + 1 : Nat))) (some (.ref dk)) ++ ((tx, .lst (ilst txt)) :: X))) kN kR) :
    Tf c (execs ((sBody (fS 69)).drop 9) c.env) [(Str.ofString "script", .ref z), (Str.ofString "rows", .ref rq), (Str.ofString "marks", .ref mk), (Str.ofString "buffer", .ref b), (Str.ofString "one", .int ((i : Int) + 1)), (Str.ofString "other", .int ((j : Int) + 1))] ((dk, .lst (ilst ds)) :: (C.led none (some (.int (hi : Nat))) (some (.int (lo : Nat))) (some (.int (u2 : Nat))) (some (.int (u1 : Nat))) (some (.int (w : Nat))) (some (.int (n + 1 : Nat))) (some (.ref dk)) ++ X)) kN kR := by
  refine st_cons ?_
  refine st_assign rfl rfl rfl ?_
  refine ev_index ?_
  refine e_list ?_
  refine a_cons rfl ?_
  refine e_list ?_
  refine a_cons rfl ?_
  refine ev_int ?_
  refine a_nil ?_
  refine ⟨Nat.le_of_ble_eq_true rfl, fun q1 => ?_⟩
  refine a_cons rfl ?_
  refine e_list ?_
  refine a_nil ?_
  refine ⟨Nat.le_of_ble_eq_true rfl, fun q2 => ?_⟩
  refine a_cons rfl ?_
  refine ev_binop ?_
  refine e_list ?_
  refine a_cons rfl ?_
  refine ev_int ?_
  refine a_nil ?_
  refine ⟨Nat.le_of_ble_eq_true rfl, fun q3 => ?_⟩
  refine ev_binop ?_
  refine r_cell a hcs (by kernel_rfl) rfl (by trivial) ?_
  refine r_cell a hcs (by kernel_rfl) rfl (by trivial) ?_
  refine bin_sub ?_
  refine bin_rep (hi - lo) (.head _) (by lia) (by lia) (by lia) fun q7 => ?_
  refine a_cons rfl ?_
  refine e_list ?_
  refine a_cons rfl ?_
  refine ev_int ?_
  refine a_cons rfl ?_
  refine ev_int ?_
  refine a_cons rfl ?_
  refine ev_int ?_
  refine a_nil ?_
  refine ⟨Nat.le_of_ble_eq_true rfl, fun q5 => ?_⟩
  refine a_nil ?_
  refine ⟨Nat.le_of_ble_eq_true rfl, fun q6 => ?_⟩
  refine c_ref a 677 (by kernel_rfl) rfl ?_
  refine a_cons rfl ?_
  refine r_cell a hcs (by kernel_rfl) rfl (by trivial) ?_
  refine a_cons rfl ?_
  refine ev_int ?_
  refine a_nil ?_
  refine k_card a (many := 4) (X := [(q6, MO.lst [MV.ref q1, MV.ref q2, MV.ref q7, MV.ref q5]), (q5, MO.lst [MV.int 88, MV.int 89, MV.int 90]), (q7, MO.lst (ilst (List.replicate (hi - lo) 97))), (q3, MO.lst [MV.int 97]), (q2, MO.lst []), (q1, MO.lst [MV.int 88])] ++ (C.led none (some (.int (hi : Nat))) (some (.int (lo : Nat))) (some (.int (u2 : Nat))) (some (.int (u1 : Nat))) (some (.int (w : Nat))) (some (.int (n + 1 : Nat))) (some (.ref dk)) ++ X)) (by lia) (by lia) (.perm (List.perm_middle (l₁ := [_, _, _, _, _, _]))) fun v ds hv => ?_
  obtain ⟨tx, txt, h1, h2, h3⟩ := text_at (Q := [(q6, MO.lst [MV.ref q1, MV.ref q2, MV.ref q7, MV.ref q5]), (q5, MO.lst [MV.int 88, MV.int 89, MV.int 90]), (q7, MO.lst (ilst (List.replicate (hi - lo) 97))), (q3, MO.lst [MV.int 97]), (q2, MO.lst []), (q1, MO.lst [MV.int 88])]) (q4 := q1) (q5 := q2) (q7 := q7) (q8 := q5) (r := List.replicate (hi - lo) 97) hv (by rw [List.length_replicate]; lia) (by trivial) (by trivial) (by trivial) (by trivial)
  refine sub_lst (xs := [.ref q1, .ref q2, .ref q7, .ref q5]) (.tail _ (.head _)) h1 ?_ (fun _ => rfl)
  refine s_cell a hcs (by kernel_rfl) rfl (by decreasing_tactic) ?_
  refine @Tf.less _ _ _ _ _ _ _ (.cons (less_pick (Q := [_, _, _, _, _, _]) (L := C.led (some (.ref tx)) (some (.int (hi : Nat))) (some (.int (lo : Nat))) (some (.int (u2 : Nat))) (some (.int (u1 : Nat))) (some (.int (w : Nat))) (some (.int (n + 1 : Nat))) (some (.ref dk))) h2)) ?_
  exact @next tx txt ds h3
theorem ph10 (a : At c (sScope (fS 69)) d) (hd : 14 ≤ d) {C : LC} (hcs : c.env.cells = C.env) {z rq dk mk b tx : Addr} {ds : List Int} {i j n w u1 u2 lo hi : Nat} {X : Led} (next : ∀ pl (ps : List Nat) ds, ps.length = 6 → (∀ p ∈ ps, p ≤ n) → Tf c (execs ((sBody (fS 69)).drop 11) c.env) [(Str.ofString "script", .ref z), (Str.ofString "rows", .ref rq), (Str.ofString "marks", .ref mk), (Str.ofString "buffer", .ref b), (Str.ofString "one", .int ((i : Int) + 1)), (Str.ofString "other", .int ((j : Int) + 1)), (Str.ofString "places", .ref pl)] ((dk, .lst (ilst ds)) :: (C.led (some (.ref tx)) (some (.int (hi : Nat))) (some (.int (lo : Nat))) (some (.int (u2 : Nat))) (some (.int (u1 : Nat))) (some (.int (w : Nat))) (some (.int (n + 1 : Nat))) (some (.ref dk)) ++ ((pl, .lst (ilst (ps.map fun p : Nat => (p : Int) + 1))) :: X))) kN kR) :
    Tf c (execs ((sBody (fS 69)).drop 10) c.env) [(Str.ofString "script", .ref z), (Str.ofString "rows", .ref rq), (Str.ofString "marks", .ref mk), (Str.ofString "buffer", .ref b), (Str.ofString "one", .int ((i : Int) + 1)), (Str.ofString "other", .int ((j : Int) + 1))] ((dk, .lst (ilst ds)) :: (C.led (some (.ref tx)) (some (.int (hi : Nat))) (some (.int (lo : Nat))) (some (.int (u2 : Nat))) (some (.int (u1 : Nat))) (some (.int (w : Nat))) (some (.int (n + 1 : Nat))) (some (.ref dk)) ++ X)) kN kR := by
  refine st_cons ?_
  refine st_comp a 6 (by kernel_rfl) (swaps_of a fun e => by kernel_rfl) (clo_ok hcs (cl := [(Str.ofString "size", C.s), (Str.ofString "deck", C.d)]) (by kernel_rfl)) (by decide +kernel) rfl (by decide +kernel) (fun _ => rfl) ?_
  refine i_typ a "range" (by kernel_rfl) rfl ?_
  refine a_cons rfl ?_
  refine ev_int ?_
  refine a_nil ?_
  refine tic_range1 a.ok (by lia) ?_
  refine ⟨by rw [rng_len]; exact szOk (by lia), fun i acc M' => ∃ (ps : List Nat) (ds : List Int), acc = ilst (ps.map fun p : Nat => (p : Int) + 1) ∧ M' = ((dk, .lst (ilst ds)) :: (C.led (some (.ref tx)) (some (.int (hi : Nat))) (some (.int (lo : Nat))) (some (.int (u2 : Nat))) (some (.int (u1 : Nat))) (some (.int (w : Nat))) (some (.int (n + 1 : Nat))) (some (.ref dk)) ++ X)) ∧ ps.length = i ∧ ∀ p ∈ ps, p ≤ n, ⟨_, .refl _, [], ds, rfl, rfl, rfl, nofun⟩, fun C' h₀ i iv acc M okc hi hJ => ?_, fun acc M hJ hl pl => ?_⟩
  · have a2 := at_comp a okc
    obtain ⟨ps, ds, e1, e2, e3, e4⟩ := hJ
    subst e1 e2
    obtain ⟨hi2, e⟩ := rng_of hi
    subst e
    refine ti_one ?_
    refine s_loc a2 0 (by kernel_rfl) ?_
    refine ev_binop ?_
    refine ev_int ?_
    refine c_ref a2 677 (by kernel_rfl) rfl ?_
    refine a_cons rfl ?_
    refine r_cell a2 rfl (by kernel_rfl) rfl (by trivial) ?_
    refine a_cons rfl ?_
    refine r_cell a2 rfl (by kernel_rfl) rfl (by trivial) ?_
    refine a_nil ?_
    refine k_card a2 (many := n + 1) (by lia) (by lia) (.refl _) fun p ds hp => ?_
    refine bin_add ?_
    rw [Int.add_comm 1 (p : Int)]
    exact ⟨_, .refl _, ps ++ [p], ds, by rw [List.map_append, ← ilst_app]; rfl, rfl, by rw [List.length_append, e3]; rfl, fun w hw => (List.mem_append.mp hw).elim (e4 w) fun h => by rw [List.mem_singleton.mp h]; lia⟩
  obtain ⟨ps, ds, e1, e2, e3, e4⟩ := hJ
  subst e1 e2
  rw [rng_len] at e3
  refine @Tf.less _ _ _ _ _ _ _ (.perm (.trans (.swap _ _ _) (.cons _ (List.perm_middle (l₁ := C.led (some (.ref tx)) (some (.int (hi : Nat))) (some (.int (lo : Nat))) (some (.int (u2 : Nat))) (some (.int (u1 : Nat))) (some (.int (w : Nat))) (some (.int (n + 1 : Nat))) (some (.ref dk)))).symm))) ?_
  exact @next pl ps ds e3 e4
end
end Mine
end

section
open PySem PySem.W PySem.Calls PyProof.Rows
set_option Elab.async false
set_option maxRecDepth 100000
set_option linter.unusedVariables false
set_option linter.unusedSimpArgs false
namespace Mine
section
variable {c : Cx} {sc : Scope} {d : Nat} {lm : Loc} {M : Led} {k : MV → Led → Prop} {kN : Loc → Led → Prop} {kR : MV → Led → Prop}
noncomputable def mref (l : List Mk) : List MV := l.map fun m => .ref m.a
noncomputable def Buf.mk' (B : Buf) (l : List Mk) : Buf := { B with K := { B.K with l := l } }
theorem pm6 {α : Type} {D P R A : List α} {d m : α} : (d :: (D ++ (P ++ (R ++ (m :: A))))).Perm (m :: (A ++ (d :: (D ++ (P ++ R))))) := perm_count fun f => by simp only [List.map_append, List.map_cons, List.map_nil, List.sum_append, List.sum_cons, List.sum_nil]; lia
theorem places_at {ps : List Nat} {i : Nat} {iv : IV} (h : (((ilst ((ps.map fun p : Nat => (p : Int) + 1).drop 1)).zipIdx).map fun p => IV.two (.int (p.2 : Nat)) p.1)[i]? = some iv) : ∃ p, ps.tail[i]? = some p ∧ iv = .two (.int i) (.int ((p : Nat) + 1)) := by
  obtain ⟨x, hx, e⟩ := enum_of h
  unfold ilst at hx
  rw [← List.map_drop, List.map_map, List.getElem?_map] at hx
  obtain ⟨p, hp, e2⟩ := Option.map_eq_some_iff.mp hx
  subst e2
  exact ⟨p, by rw [← List.drop_one]; exact hp, e⟩
theorem set_last {B : Buf} {l : List Mk} {m : Mk} (h : (B.mk' l).Ok) (hl : l.length < 50) (hn : ∀ x ∈ l, x.n < m.n) : (B.mk' (l ++ [m])).Ok :=
  ⟨h.g, ⟨h.k.lo, by show (l ++ [m]).length < 60; rw [List.length_append]; exact Nat.lt_of_lt_of_le (Nat.add_lt_add_right hl 1) (by decide), by
    show ((l ++ [m]).map (·.n)).Pairwise (· < ·)
    rw [List.map_append]
    refine List.pairwise_append.mpr ⟨h.k.asc, List.pairwise_singleton _ _, fun a ha b hb => ?_⟩
    obtain ⟨x, hx, rfl⟩ := List.mem_map.mp ha
    obtain rfl := List.mem_singleton.mp hb
    exact hn x hx⟩, h.b, h.zv⟩
theorem ph11 (a : At c (sScope (fS 69)) d) (hd : 14 ≤ d) {C : LC} (hcs : c.env.cells = C.env) {z rq dk mk pl tx : Addr} {ds txt : List Int} {ps : List Nat} {rs : Rows} {i j n w u1 u2 lo hi : Nat} {B : Buf} (hB : B.Ok) (hB0 : B.K.l = []) (hps : ps.length = 6) (hpn : ∀ p ∈ ps, p ≤ B.g.text.length) (next : ∀ l : List Mk, l.length = 5 → l.map (·.p) = ps.tail.map (fun p : Nat => (p : Int) + 1) → (B.mk' l).Ok → Tf c (execs ((sBody (fS 69)).drop 12) c.env) [(Str.ofString "script", .ref z), (Str.ofString "rows", .ref rq), (Str.ofString "marks", .ref mk), (Str.ofString "buffer", .ref B.b), (Str.ofString "one", .int ((i : Int) + 1)), (Str.ofString "other", .int ((j : Int) + 1)), (Str.ofString "places", .ref pl)] ((mk, .lst (mref l)) :: (bufL (B.mk' l) ++ ((dk, MO.lst (ilst ds)) :: (C.led (some (.ref tx)) (some (.int (hi : Nat))) (some (.int (lo : Nat))) (some (.int (u2 : Nat))) (some (.int (u1 : Nat))) (some (.int (w : Nat))) (some (.int (n + 1 : Nat))) (some (.ref dk)) ++ ((pl, MO.lst (ilst (ps.map fun p : Nat => (p : Int) + 1))) :: (tx, MO.lst (ilst txt)) :: RL rq rs))))) kN kR) :
    Tf c (execs ((sBody (fS 69)).drop 11) c.env) [(Str.ofString "script", .ref z), (Str.ofString "rows", .ref rq), (Str.ofString "marks", .ref mk), (Str.ofString "buffer", .ref B.b), (Str.ofString "one", .int ((i : Int) + 1)), (Str.ofString "other", .int ((j : Int) + 1)), (Str.ofString "places", .ref pl)] ((dk, .lst (ilst ds)) :: (C.led (some (.ref tx)) (some (.int (hi : Nat))) (some (.int (lo : Nat))) (some (.int (u2 : Nat))) (some (.int (u1 : Nat))) (some (.int (w : Nat))) (some (.int (n + 1 : Nat))) (some (.ref dk)) ++ ((pl, .lst (ilst (ps.map fun p : Nat => (p : Int) + 1))) :: (tx, .lst (ilst txt)) :: (RL rq rs ++ ((mk, .lst []) :: bufL B))))) kN kR := by
  refine st_cons ?_
  -- FOR
  refine st_for (fun _ => rfl) ?_
  refine i_typ a "enumerate" (by kernel_rfl) rfl ?_
  refine a_cons rfl ?_
  refine ev_from ?_
  refine r_loc a 6 (by kernel_rfl) rfl ?_
  refine ev_int ?_
  refine ⟨_, _, 1, rfl, .tail _ (List.mem_append_right _ (.head _)), rfl, fun q1 => ?_⟩
  refine a_nil ?_
  refine tic_enumerate a.ok (M₂ := ((dk, .lst (ilst ds)) :: (C.led (some (.ref tx)) (some (.int (hi : Nat))) (some (.int (lo : Nat))) (some (.int (u2 : Nat))) (some (.int (u1 : Nat))) (some (.int (w : Nat))) (some (.int (n + 1 : Nat))) (some (.ref dk)) ++ ((pl, .lst (ilst (ps.map fun p : Nat => (p : Int) + 1))) :: (tx, .lst (ilst txt)) :: (RL rq rs ++ ((mk, .lst []) :: bufL B)))))) (.refl _) ?_
  have h6 : ps.tail.length = 5 := by rw [List.length_tail, hps]
  refine ⟨fun y lm' M' => ∃ l : List Mk, lm' = [(Str.ofString "script", .ref z), (Str.ofString "rows", .ref rq), (Str.ofString "marks", .ref mk), (Str.ofString "buffer", .ref B.b), (Str.ofString "one", .int ((i : Int) + 1)), (Str.ofString "other", .int ((j : Int) + 1)), (Str.ofString "places", .ref pl)] ∧ M' = (mk, .lst (mref l)) :: (bufL (B.mk' l) ++ ((dk, MO.lst (ilst ds)) :: (C.led (some (.ref tx)) (some (.int (hi : Nat))) (some (.int (lo : Nat))) (some (.int (u2 : Nat))) (some (.int (u1 : Nat))) (some (.int (w : Nat))) (some (.int (n + 1 : Nat))) (some (.ref dk)) ++ ((pl, MO.lst (ilst (ps.map fun p : Nat => (p : Int) + 1))) :: (tx, MO.lst (ilst txt)) :: RL rq rs)))) ∧ l.length = y ∧ l.map (·.p) = (ps.tail.take y).map (fun p : Nat => (p : Int) + 1) ∧ (B.mk' l).Ok ∧ ∀ m ∈ l, m.n ≤ y, ⟨_, _, Sub.refl _, .perm (pm6 (D := C.led (some (.ref tx)) (some (.int (hi : Nat))) (some (.int (lo : Nat))) (some (.int (u2 : Nat))) (some (.int (u1 : Nat))) (some (.int (w : Nat))) (some (.int (n + 1 : Nat))) (some (.ref dk))) (P := [_, _]) (R := RL rq rs)), [], rfl, ?_, rfl, rfl, ?_, nofun⟩, fun y iv lm M hIt hJ => ?_, fun lm M hJ => ?_⟩
  · rw [show B.mk' [] = B by unfold Buf.mk'; rw [← hB0]]; rfl
  · rw [show B.mk' [] = B by unfold Buf.mk'; rw [← hB0]]; exact hB
  · obtain ⟨l, e1, e2, e3, e4, e5, e6⟩ := hJ
    subst e1 e2
    obtain ⟨p, hp, e⟩ := places_at hIt
    subst e
    have hp1 := (List.getElem?_eq_some_iff.mp hp).1
    have hp2 := hpn p (List.mem_of_mem_tail (List.mem_of_getElem? hp))
    refine i_two a 7 8 (by kernel_rfl) (by kernel_rfl) ?_
    refine st_cons ?_
    refine st_expr a.ok rfl ?_
    refine c_append a rfl rfl ?_
    refine r_loc a 2 (by kernel_rfl) rfl ?_
    refine ⟨_, mref l, rfl, .head _, ?_⟩
    refine a_cons rfl ?_
    refine c_ref a 487 (by kernel_rfl) rfl ?_
    refine a_cons rfl ?_
    refine ev_binop ?_
    refine r_loc a 7 (by kernel_rfl) rfl ?_
    refine ev_int ?_
    refine bin_add ?_
    refine a_cons rfl ?_
    refine ev_bool ?_
    refine a_nil ?_
    refine use' a (fun p w => d_Marker p w) (by lia) fun _ _ zz => ?_
    obtain ⟨x, dx, e, e'⟩ := zz
    subst e e'
    refine a_nil ?_
    refine tc_append (.tail (.tail .head)) (by unfold mref; rw [List.length_map]; exact szOk (n := l.length + 1) (by lia)) ?_
    refine st_cons ?_
    refine st_expr a.ok rfl ?_
    refine c_ref a 670 (by kernel_rfl) rfl ?_
    refine a_cons rfl ?_
    refine ev_index ?_
    refine r_loc a 2 (by kernel_rfl) rfl ?_
    refine ev_unary ?_
    refine ev_int ?_
    refine un_neg ?_
    refine sub_lst (xs := mref l ++ [.ref x]) (.tail _ (.tail _ (.head _))) (x := .ref x) ?_ ?_ (fun _ => rfl)
    · unfold itemAt
      rw [if_neg (by decide), if_pos (by rw [List.length_append]; simp only [List.length_cons, List.length_nil]; lia), show (-1 + ((mref l ++ [MV.ref x]).length : Int)).toNat = (mref l).length by rw [List.length_append]; simp only [List.length_cons, List.length_nil]; lia, List.getElem?_append_right (Nat.le_refl _), Nat.sub_self]; rfl
    refine a_cons rfl ?_
    refine r_loc a 3 (by kernel_rfl) rfl ?_
    refine a_cons rfl ?_
    refine r_loc a 8 (by kernel_rfl) rfl ?_
    refine a_nil ?_
    refine use a (M₀ := freshE x dx ((y : Int) + 1) ++ bufL (B.mk' l)) (X := (mk, .lst (mref l ++ [.ref x])) :: ((dk, MO.lst (ilst ds)) :: (C.led (some (.ref tx)) (some (.int (hi : Nat))) (some (.int (lo : Nat))) (some (.int (u2 : Nat))) (some (.int (u1 : Nat))) (some (.int (w : Nat))) (some (.int (n + 1 : Nat))) (some (.ref dk)) ++ ((pl, MO.lst (ilst (ps.map fun p : Nat => (p : Int) + 1))) :: (tx, MO.lst (ilst txt)) :: RL rq rs)))) (fun q w => d_set_marker (B := B.mk' l) (i := p) e5 (by show l.length < 50; lia) (fun m hm => by have := e6 m hm; lia) hp2 q w) (by lia) (.cons (.cons (.perm List.perm_middle.symm))) fun _ _ e' => ?_
    subst e'
    refine st_nil ?_
    refine ⟨_, _, (sub_cons 0 (by kernel_rfl) rfl (sub_cons 1 (by kernel_rfl) rfl (sub_cons 2 (by kernel_rfl) rfl (sub_cons 3 (by kernel_rfl) rfl (sub_cons 4 (by kernel_rfl) rfl (sub_cons 5 (by kernel_rfl) rfl (sub_cons 6 (by kernel_rfl) rfl sub_nil))))))), .perm List.perm_middle, l ++ [⟨x, dx, (y : Int) + 1, (p : Int) + 1⟩], rfl, ?_, by rw [List.length_append, e3]; rfl, ?_, set_last e5 (by lia) (fun m hm => by have := e6 m hm; show m.n < (y : Int) + 1; lia), fun m hm => (List.mem_append.mp hm).elim (fun h => by have := e6 m h; lia) fun h => by rw [List.mem_singleton.mp h]; exact Int.le_refl _⟩
    · unfold mref; rw [List.map_append]; rfl
    · rw [List.map_append, e4, List.take_add_one, hp, List.map_append]; rfl
  · obtain ⟨l, e1, e2, e3, e4, e5, e6⟩ := hJ
    subst e1 e2
    have hlen : (((ilst ((ps.map fun p : Nat => (p : Int) + 1).drop 1)).zipIdx).map fun p => IV.two (.int (p.2 : Nat)) p.1).length = 5 := by
      rw [List.length_map, List.length_zipIdx, ilst_len, List.length_drop, List.length_map, hps]
    rw [hlen] at e3 e4
    rw [List.take_of_length_le (by lia)] at e4
    refine @Tf.less _ _ _ _ _ _ _ (.skip (.refl _)) ?_
    exact @next l e3 e4 e5
end
end Mine
end

section
open PySem PySem.W PySem.Calls PyProof.Rows
set_option Elab.async false
set_option maxRecDepth 100000
set_option linter.unusedVariables false
set_option linter.unusedSimpArgs false
namespace Mine
section
variable {c : Cx} {sc : Scope} {d : Nat} {lm : Loc} {M : Led} {k : MV → Led → Prop} {kN : Loc → Led → Prop} {kR : MV → Led → Prop}
theorem pm7 {α : Type} {A D Z : List α} {d m : α} : (A ++ (m :: (d :: (D ++ Z)))).Perm (d :: (D ++ (Z ++ (m :: A)))) := perm_count fun f => by simp only [List.map_append, List.map_cons, List.map_nil, List.sum_append, List.sum_cons, List.sum_nil]; lia
theorem ph12 (a : At c (sScope (fS 69)) d) (hd : 14 ≤ d) {C : LC} (hcs : c.env.cells = C.env) {z rq dk mk pl tx : Addr} {ds txt : List Int} {ps : List Nat} {rs : Rows} {i j n w u1 u2 lo hi : Nat} {B : Buf} {l : List Mk} {R : List (List Int)} {G : Nat → List Int → (Int → Int) → Prop} (hB : LB B R 0) (hl : l.length = 5) (hlp : l.map (·.p) = ps.tail.map (fun p : Nat => (p : Int) + 1)) (ok : (B.mk' l).Ok) (hps : ps.length = 6) (hw : w ≤ 3) (hzt : txt.length ≤ 6)
    (hK : ∀ B : Buf, LB B R 5 → ∃ R2, RectOk B i j w txt R2 G)
    (next : ∀ (B1 : Buf) F, B1.Ok → B1.b = B.b → G 0 B1.g.text F → B1.pt :: B1.K.l.map (·.p) = ps.map (fun p : Nat => F ((p : Int) + 1)) → Tf c (execs ((sBody (fS 69)).drop 14) c.env) [(Str.ofString "script", .ref z), (Str.ofString "rows", .ref rq), (Str.ofString "marks", .ref mk), (Str.ofString "buffer", .ref B.b), (Str.ofString "one", .int ((i : Int) + 1)), (Str.ofString "other", .int ((j : Int) + 1)), (Str.ofString "places", .ref pl)] ((dk, .lst (ilst ds)) :: (C.led (some (.ref tx)) (some (.int (hi : Nat))) (some (.int (lo : Nat))) (some (.int (u2 : Nat))) (some (.int (u1 : Nat))) (some (.int (w : Nat))) (some (.int (n + 1 : Nat))) (some (.ref dk)) ++ (((pl, MO.lst (ilst (ps.map fun p : Nat => (p : Int) + 1))) :: (tx, MO.lst (ilst txt)) :: RL rq rs) ++ ((mk, MO.lst (mref B1.K.l)) :: bufL B1)))) kN kR) :
    Tf c (execs ((sBody (fS 69)).drop 12) c.env) [(Str.ofString "script", .ref z), (Str.ofString "rows", .ref rq), (Str.ofString "marks", .ref mk), (Str.ofString "buffer", .ref B.b), (Str.ofString "one", .int ((i : Int) + 1)), (Str.ofString "other", .int ((j : Int) + 1)), (Str.ofString "places", .ref pl)] ((mk, .lst (mref l)) :: (bufL (B.mk' l) ++ ((dk, MO.lst (ilst ds)) :: (C.led (some (.ref tx)) (some (.int (hi : Nat))) (some (.int (lo : Nat))) (some (.int (u2 : Nat))) (some (.int (u1 : Nat))) (some (.int (w : Nat))) (some (.int (n + 1 : Nat))) (some (.ref dk)) ++ ((pl, MO.lst (ilst (ps.map fun p : Nat => (p : Int) + 1))) :: (tx, MO.lst (ilst txt)) :: RL rq rs))))) kN kR := by
  obtain ⟨p0, pt, rfl⟩ : ∃ p0 pt, ps = p0 :: pt := by
    cases ps with
    | nil => cases hps
    | cons p0 pt => exact ⟨p0, pt, rfl⟩
  refine st_cons ?_
  refine st_assign rfl rfl rfl ?_
  refine ev_index ?_
  refine r_loc a 6 (by kernel_rfl) rfl ?_
  refine ev_int ?_
  refine sub_lst (.tail _ (List.mem_append_right _ (.tail _ (List.mem_append_right _ (.head _))))) (item_at _ (by lia) rfl) ?_ (fun _ => rfl)
  refine ta_attr ?_
  refine r_loc a 3 (by kernel_rfl) rfl ?_
  refine s_field a 661 4 (by kernel_rfl) (.tail _ (.head _)) (.tail (.tail .head)) (by kernel_rfl) ?_
  refine @Tf.less _ _ _ _ _ _ ((mk, .lst (mref l)) :: (bufL { B.mk' l with pt := (p0 : Int) + 1 } ++ ((dk, MO.lst (ilst ds)) :: (C.led (some (.ref tx)) (some (.int (hi : Nat))) (some (.int (lo : Nat))) (some (.int (u2 : Nat))) (some (.int (u1 : Nat))) (some (.int (w : Nat))) (some (.int (n + 1 : Nat))) (some (.ref dk)) ++ ((pl, MO.lst (ilst ((p0 :: pt).map fun p : Nat => (p : Int) + 1))) :: (tx, MO.lst (ilst txt)) :: RL rq rs))))) (.refl _) ?_
  refine st_cons ?_
  refine st_expr a.ok rfl ?_
  refine c_ref a 712 (by kernel_rfl) rfl ?_
  refine a_cons rfl ?_
  refine r_loc a 3 (by kernel_rfl) rfl ?_
  refine a_cons rfl ?_
  refine r_cell a hcs (by kernel_rfl) rfl (.tail _ (List.mem_append_right _ (.tail _ (List.mem_append_left _ (by trivial))))) ?_
  refine a_cons rfl ?_
  refine r_loc a 4 (by kernel_rfl) rfl ?_
  refine a_cons rfl ?_
  refine r_loc a 5 (by kernel_rfl) rfl ?_
  refine a_cons rfl ?_
  refine r_cell a hcs (by kernel_rfl) rfl (.tail _ (List.mem_append_right _ (.tail _ (List.mem_append_left _ (by trivial))))) ?_
  refine a_nil ?_
  have hB2 : LB { B.mk' l with pt := (p0 : Int) + 1 } R 5 := ⟨⟨ok.g, ok.k, ok.b, ok.zv⟩, hB.t, hl, hB.c⟩
  obtain ⟨R2, K⟩ := hK _ hB2
  refine TC.less (M₀ := bufL { B.mk' l with pt := (p0 : Int) + 1 } ++ ((mk, .lst (mref l)) :: ((dk, MO.lst (ilst ds)) :: (C.led (some (.ref tx)) (some (.int (hi : Nat))) (some (.int (lo : Nat))) (some (.int (u2 : Nat))) (some (.int (u1 : Nat))) (some (.int (w : Nat))) (some (.int (n + 1 : Nat))) (some (.ref dk)) ++ ((pl, MO.lst (ilst ((p0 :: pt).map fun p : Nat => (p : Int) + 1))) :: (tx, MO.lst (ilst txt)) :: RL rq rs))))) (.perm List.perm_middle.symm) ?_
  refine use' a (fun q w => d_law_done hw K (z := tx) (.tail _ (.tail _ (List.mem_append_right _ (.tail _ (.head _))))) (by lia) q w) (by lia) fun _ _ zz => ?_
  obtain ⟨B1, t, F, e, h1, h2⟩ := zz
  subst e
  have ht := h1.g.text
  subst ht
  have hk : B1.K.l = l.map (mv F) := by rw [h1.K]; rfl
  have hm : mref B1.K.l = mref l := by rw [hk]; unfold mref; rw [List.map_map]; rfl
  refine @Tf.less _ _ _ _ _ _ _ (.perm pm7) ?_
  rw [← hm]
  refine @next B1 F (h1.ok hB2.ok) h1.b h2 ?_
  rw [h1.pt, hk, List.map_map]
  show F _ :: l.map (fun m => F m.p) = _
  rw [show l.map (fun m => F m.p) = (l.map (·.p)).map F by rw [List.map_map]; rfl, hlp, List.map_map]; rfl
end
end Mine
end

section
open PySem PySem.W PySem.Calls PyProof.Rows
set_option Elab.async false
set_option maxRecDepth 100000
set_option linter.unusedVariables false
set_option linter.unusedSimpArgs false
namespace Mine
section
variable {c : Cx} {sc : Scope} {d : Nat} {lm : Loc} {M : Led} {k : MV → Led → Prop} {kN : Loc → Led → Prop} {kR : MV → Led → Prop}
/-- the rows as the law wants them -/
noncomputable def lat (R : List (List Int)) (t b way lo hi : Nat) (txt : List Int) : List (List Int) := R.mapIdx fun u r => if t ≤ u ∧ u ≤ b then rowW way r lo hi txt else r
theorem lat_at {R : List (List Int)} {t b way lo hi u : Nat} {txt r : List Int} (h : R[u]? = some r) : (lat R t b way lo hi txt)[u]? = some (if t ≤ u ∧ u ≤ b then rowW way r lo hi txt else r) := by
  unfold lat; rw [List.getElem?_mapIdx, h]; rfl
theorem pm9 {α : Type} {D E : List α} {d p t q : α} : (d :: (D ++ (p :: t :: q :: E))).Perm (q :: d :: (D ++ (p :: t :: E))) := perm_count fun f => by simp only [List.map_append, List.map_cons, List.map_nil, List.sum_append, List.sum_cons, List.sum_nil]; lia
theorem pm10 {α : Type} {Y D R A : List α} {la q d p t m : α} : (la :: q :: (Y ++ (d :: (D ++ (p :: t :: (R ++ (m :: A))))))).Perm (A ++ (p :: la :: (Y ++ (d :: (D ++ (t :: q :: (R ++ [m]))))))) := perm_count fun f => by simp only [List.map_append, List.map_cons, List.map_nil, List.sum_append, List.sum_cons, List.sum_nil]; lia
/-- what the law's ledger holds for good -/
structure F15 (C : LC) (M : Led) (dk tx rq mk la : Addr) (txt : List Int) (rs ns : Rows) (l : List Mk) (n w u1 u2 lo hi : Nat) : Prop where
  la : HasRows M la ns
  rq : HasRows M rq rs
  c : ∀ x ∈ C.led (some (.ref tx)) (some (.int (hi : Nat))) (some (.int (lo : Nat))) (some (.int (u2 : Nat))) (some (.int (u1 : Nat))) (some (.int (w : Nat))) (some (.int (n + 1 : Nat))) (some (.ref dk)), x ∈ M
  tx : (tx, MO.lst (ilst txt)) ∈ M
  m : (mk, MO.lst (mref l)) ∈ M
theorem ph14 (a : At c (sScope (fS 69)) d) (hd : 14 ≤ d) {C : LC} (hcs : c.env.cells = C.env) {z rq dk mk pl tx : Addr} {ds txt : List Int} {ps : List Nat} {rs : Rows} {i j n w u1 u2 lo hi : Nat} {B1 : Buf} {R : List (List Int)} (hR : LR rs R) (hz : lo ≤ hi ∧ hi ≤ 6) (hzt : txt.length ≤ 6)
    (next : ∀ la ns X, F15 C (bufL B1 ++ X) dk tx rq mk la txt rs ns B1.K.l n w u1 u2 lo hi → ns.map (·.2) = lat R u1 u2 w lo hi txt → Tf c (execs ((sBody (fS 69)).drop 15) c.env) [(Str.ofString "script", .ref z), (Str.ofString "rows", .ref rq), (Str.ofString "marks", .ref mk), (Str.ofString "buffer", .ref B1.b), (Str.ofString "one", .int ((i : Int) + 1)), (Str.ofString "other", .int ((j : Int) + 1)), (Str.ofString "places", .ref pl), (Str.ofString "later", .ref la)] (bufL B1 ++ ((pl, MO.lst (ilst (ps.map fun p : Nat => (p : Int) + 1))) :: X)) kN kR) :
    Tf c (execs ((sBody (fS 69)).drop 14) c.env) [(Str.ofString "script", .ref z), (Str.ofString "rows", .ref rq), (Str.ofString "marks", .ref mk), (Str.ofString "buffer", .ref B1.b), (Str.ofString "one", .int ((i : Int) + 1)), (Str.ofString "other", .int ((j : Int) + 1)), (Str.ofString "places", .ref pl)] ((dk, .lst (ilst ds)) :: (C.led (some (.ref tx)) (some (.int (hi : Nat))) (some (.int (lo : Nat))) (some (.int (u2 : Nat))) (some (.int (u1 : Nat))) (some (.int (w : Nat))) (some (.int (n + 1 : Nat))) (some (.ref dk)) ++ (((pl, MO.lst (ilst (ps.map fun p : Nat => (p : Int) + 1))) :: (tx, MO.lst (ilst txt)) :: RL rq rs) ++ ((mk, MO.lst (mref B1.K.l)) :: bufL B1)))) kN kR := by
  have hlen := hR.len
  have hfew := hR.hi
  refine st_cons ?_
  refine st_comp a 7 (by kernel_rfl) (swaps_of a fun e => by kernel_rfl) (clo_ok hcs (cl := [(Str.ofString "way", C.w), (Str.ofString "top", C.p), (Str.ofString "text", C.t), (Str.ofString "low", C.l), (Str.ofString "high", C.h), (Str.ofString "bottom", C.b)]) (by kernel_rfl)) (by decide +kernel) rfl (by decide +kernel) (fun _ => rfl) ?_
  refine i_typ a "enumerate" (by kernel_rfl) rfl ?_
  refine a_cons rfl ?_
  refine r_loc a 1 (by kernel_rfl) rfl ?_
  refine a_nil ?_
  refine tic_enumerate a.ok (l := rq) (xs := refs rs) (M₂ := ((dk, MO.lst (ilst ds)) :: (C.led (some (.ref tx)) (some (.int (hi : Nat))) (some (.int (lo : Nat))) (some (.int (u2 : Nat))) (some (.int (u1 : Nat))) (some (.int (w : Nat))) (some (.int (n + 1 : Nat))) (some (.ref dk)) ++ ((pl, MO.lst (ilst (ps.map fun p : Nat => (p : Int) + 1))) :: (tx, MO.lst (ilst txt)) :: (rowL rs ++ ((mk, MO.lst (mref B1.K.l)) :: bufL B1)))))) (.perm pm9) ?_
  refine ⟨by rw [enum_len]; exact szOk (by lia), Made (lat R u1 u2 w lo hi txt) (fun x => x) ((dk, MO.lst (ilst ds)) :: (C.led (some (.ref tx)) (some (.int (hi : Nat))) (some (.int (lo : Nat))) (some (.int (u2 : Nat))) (some (.int (u1 : Nat))) (some (.int (w : Nat))) (some (.int (n + 1 : Nat))) (some (.ref dk)) ++ ((pl, MO.lst (ilst (ps.map fun p : Nat => (p : Int) + 1))) :: (tx, MO.lst (ilst txt)) :: (rowL rs ++ ((mk, MO.lst (mref B1.K.l)) :: bufL B1))))) ((tx, MO.lst (ilst txt)) :: (rq, MO.lst (refs rs)) :: (rowL rs ++ [(mk, MO.lst (mref B1.K.l))])), ⟨_, .refl _, [], [], rfl, rfl, rfl, nofun⟩, fun C' h₀ y iv acc M okc hIt hJ => ?_, fun acc M hJ hl la => ?_⟩
  · have a2 := at_comp a okc
    obtain ⟨r, hr, e⟩ := enum_row hIt
    subst e
    have hRn : R[y]? = some r.2 := by rw [← hR.e, List.getElem?_map, hr]; rfl
    have hg := hR.g r.2 (List.mem_of_getElem? hRn)
    obtain ⟨ns, Y, e1, e2, e3, e4⟩ := id hJ
    have hm : ∀ {x : Addr × MO}, x ∈ ((dk, MO.lst (ilst ds)) :: (C.led (some (.ref tx)) (some (.int (hi : Nat))) (some (.int (lo : Nat))) (some (.int (u2 : Nat))) (some (.int (u1 : Nat))) (some (.int (w : Nat))) (some (.int (n + 1 : Nat))) (some (.ref dk)) ++ ((pl, MO.lst (ilst (ps.map fun p : Nat => (p : Int) + 1))) :: (tx, MO.lst (ilst txt)) :: (rowL rs ++ ((mk, MO.lst (mref B1.K.l)) :: bufL B1))))) → x ∈ M := fun h => e2 ▸ List.mem_append_right _ h
    have hr2 : (r.1, MO.lst (ilst r.2)) ∈ ((tx, MO.lst (ilst txt)) :: (rq, MO.lst (refs rs)) :: (rowL rs ++ [(mk, MO.lst (mref B1.K.l))])) := .tail _ (.tail _ (List.mem_append_left _ (rowL_mem (List.mem_of_getElem? hr))))
    have hr3 : (r.1, MO.lst (ilst r.2)) ∈ M := hm (.tail _ (List.mem_append_right _ (.tail _ (.tail _ (List.mem_append_left _ (rowL_mem (List.mem_of_getElem? hr)))))))
    have ht2 : (tx, MO.lst (ilst txt)) ∈ ((tx, MO.lst (ilst txt)) :: (rq, MO.lst (refs rs)) :: (rowL rs ++ [(mk, MO.lst (mref B1.K.l))])) := .head _
    have ht3 : (tx, MO.lst (ilst txt)) ∈ M := hm (.tail _ (List.mem_append_right _ (.tail _ (.head _))))
    refine i_two a2 0 1 (by kernel_rfl) (by kernel_rfl) ?_
    refine ev_ifexp ?_
    refine tb_chain2 rfl ?_
    refine r_cell a2 rfl (by kernel_rfl) (ca := C.p) rfl (hm (.tail _ (List.mem_append_left _ (by trivial)))) ?_
    refine r_loc a2 0 (by kernel_rfl) rfl ?_
    refine cmp_le ?_
    refine ⟨_, rfl, fun hb => ?_, fun hb => ?_⟩
    · replace hb := of_decide_eq_true hb
      have hb1 := hb
      refine r_cell a2 rfl (by kernel_rfl) (ca := C.b) rfl (hm (.tail _ (List.mem_append_left _ (by trivial)))) ?_
      refine cmp_le ?_
      refine ⟨_, rfl, fun hb => ?_, fun hb => ?_⟩
      · replace hb := of_decide_eq_true hb
        refine c_ref a2 691 (by kernel_rfl) rfl ?_
        refine a_cons rfl ?_
        refine r_loc a2 1 (by kernel_rfl) rfl ?_
        refine a_cons rfl ?_
        refine r_cell a2 rfl (by kernel_rfl) (ca := C.w) rfl (hm (.tail _ (List.mem_append_left _ (by trivial)))) ?_
        refine a_cons rfl ?_
        refine r_cell a2 rfl (by kernel_rfl) (ca := C.l) rfl (hm (.tail _ (List.mem_append_left _ (by trivial)))) ?_
        refine a_cons rfl ?_
        refine r_cell a2 rfl (by kernel_rfl) (ca := C.h) rfl (hm (.tail _ (List.mem_append_left _ (by trivial)))) ?_
        refine a_cons rfl ?_
        refine r_cell a2 rfl (by kernel_rfl) (ca := C.t) rfl (hm (.tail _ (List.mem_append_left _ (by trivial)))) ?_
        refine a_nil ?_
        refine k_row a2 (by lia) (fun S s1 s2 p q => (d_law_row (way := w) s1 s2 hz.1 (by lia) (by have := hg.1; lia) (by lia) p q).deeper (by lia)) hr3 ht3 fun q Z M' hL hq => ?_
        exact ⟨_, hL, Made.snoc hJ (lat_at hRn) hr2 ht2 (by rw [if_pos ⟨Int.ofNat_le.mp hb1, Int.ofNat_le.mp hb⟩]; exact hq)⟩
      · replace hb := of_decide_eq_false hb
        refine r_loc a2 1 (by kernel_rfl) rfl ?_
        exact ⟨_, .refl _, Made.snoc (q := r.1) (Z := []) hJ (lat_at hRn) hr2 hr2 (by rw [if_neg (fun h => hb (Int.ofNat_le.mpr h.2))]; exact .head _)⟩
    · replace hb := of_decide_eq_false hb
      refine ⟨nofun, fun _ => ?_⟩
      refine r_loc a2 1 (by kernel_rfl) rfl ?_
      exact ⟨_, .refl _, Made.snoc (q := r.1) (Z := []) hJ (lat_at hRn) hr2 hr2 (by rw [if_neg (fun h => hb (Int.ofNat_le.mpr h.1))]; exact .head _)⟩
  obtain ⟨ns, Y, rfl, rfl, e3, e4⟩ := hJ
  rw [List.map_id', List.take_of_length_le (by rw [enum_len]; unfold lat; rw [List.length_mapIdx]; lia)] at e3
  refine @Tf.less _ _ _ _ _ _ _ (.perm pm10) ?_
  refine @next la ns _ ⟨⟨List.mem_append_right _ (.head _), fun r hr => List.mem_append_right _ (.tail _ ?_)⟩, ?_, ?_, ?_, ?_⟩ e3
  · rcases List.mem_append.mp (e4 r hr) with h | h
    · exact List.mem_append_left _ h
    · exact List.mem_append_right _ (.tail _ (List.mem_append_right _ h))
  · exact ⟨List.mem_append_right _ (.tail _ (List.mem_append_right _ (.tail _ (List.mem_append_right _ (.tail _ (.head _)))))), fun r hr => List.mem_append_right _ (.tail _ (List.mem_append_right _ (.tail _ (List.mem_append_right _ (.tail _ (.tail _ (List.mem_append_left _ (rowL_mem hr))))))))⟩
  · exact fun x hx => List.mem_append_right _ (.tail _ (List.mem_append_right _ (.tail _ (List.mem_append_left _ hx))))
  · exact List.mem_append_right _ (.tail _ (List.mem_append_right _ (.tail _ (List.mem_append_right _ (.head _)))))
  · exact List.mem_append_right _ (.tail _ (List.mem_append_right _ (.tail _ (List.mem_append_right _ (.tail _ (.tail _ (List.mem_append_right _ (.head _))))))))
end
end Mine
end

section
open PySem PySem.W PySem.Calls PyProof.Rows
set_option Elab.async false
set_option maxRecDepth 100000
set_option linter.unusedVariables false
set_option linter.unusedSimpArgs false
namespace Mine
section
variable {c : Cx} {sc : Scope} {d : Nat} {lm : Loc} {M : Led} {k : MV → Led → Prop} {kN : Loc → Led → Prop} {kR : MV → Led → Prop}
theorem mem_mid {A X : Led} {p x : Addr × MO} (h : x ∈ A ++ X) : x ∈ A ++ (p :: X) := by
  rcases List.mem_append.mp h with h | h
  · exact List.mem_append_left _ h
  · exact List.mem_append_right _ (.tail _ h)
theorem HasRows.mono {M M' : Led} {q : Addr} {rs : Rows} (h : HasRows M q rs) (hm : ∀ x ∈ M, x ∈ M') : HasRows M' q rs := ⟨hm _ h.q, fun r hr => hm _ (h.r r hr)⟩
theorem ph15 (a : At c (sScope (fS 69)) d) (hd : 14 ≤ d) {C : LC} (hcs : c.env.cells = C.env) {z rq dk mk pl tx la : Addr} {ds txt : List Int} {ps : List Nat} {rs ns : Rows} {i j n w u1 u2 lo hi : Nat} {B1 : Buf} {Wr : List (List Int)} {X : Led} (ok : B1.Ok) (H : F15 C (bufL B1 ++ X) dk tx rq mk la txt rs ns B1.K.l n w u1 u2 lo hi) (hW : ns.map (·.2) = Wr) (few : Wr.length ≤ 10) (hWl : ∀ r ∈ Wr, r.length ≤ 100) (ht : B1.g.text = jn Wr)
    (next : Tf c (execs ((sBody (fS 69)).drop 16) c.env) [(Str.ofString "script", .ref z), (Str.ofString "rows", .ref rq), (Str.ofString "marks", .ref mk), (Str.ofString "buffer", .ref B1.b), (Str.ofString "one", .int ((i : Int) + 1)), (Str.ofString "other", .int ((j : Int) + 1)), (Str.ofString "places", .ref pl), (Str.ofString "later", .ref la)] (bufL B1 ++ ((pl, MO.lst (ilst (ps.map fun p : Nat => (p : Int) + 1))) :: X)) kN kR) : Tf c (execs ((sBody (fS 69)).drop 15) c.env) [(Str.ofString "script", .ref z), (Str.ofString "rows", .ref rq), (Str.ofString "marks", .ref mk), (Str.ofString "buffer", .ref B1.b), (Str.ofString "one", .int ((i : Int) + 1)), (Str.ofString "other", .int ((j : Int) + 1)), (Str.ofString "places", .ref pl), (Str.ofString "later", .ref la)] (bufL B1 ++ ((pl, MO.lst (ilst (ps.map fun p : Nat => (p : Int) + 1))) :: X)) kN kR := by
  have hlen : ns.length = Wr.length := by rw [← hW, List.length_map]
  refine st_cons ?_
  refine st_if ?_
  refine tb_compare1 rfl ?_
  refine c_meth a 661 623 rfl rfl (by kernel_rfl) ?_
  refine r_loc a 3 (by kernel_rfl) rfl ?_
  refine ⟨_, _, _, rfl, List.mem_append_left _ (.head _), List.mem_append_left _ (.tail _ (.head _)), by kernel_rfl, ?_⟩
  refine a_cons rfl ?_
  refine ev_int ?_
  refine a_cons rfl ?_
  refine ev_binop ?_
  refine c_meth a 661 609 rfl rfl (by kernel_rfl) ?_
  refine r_loc a 3 (by kernel_rfl) rfl ?_
  refine ⟨_, _, _, rfl, List.mem_append_left _ (.head _), List.mem_append_left _ (.tail _ (.head _)), by kernel_rfl, ?_⟩
  refine a_nil ?_
  refine k_bsize a (Nat.le_trans (Nat.le_of_ble_eq_true rfl) hd) ok (.refl _) ?_
  refine ev_int ?_
  refine bin_add ?_
  refine a_nil ?_
  refine (show TC c (.ref 623) [.ref B1.b, .int (((0 : Nat) : Int) + 1), .int ((B1.g.text.length : Int) + 1)] _ _ _ from k_bcodes a (Nat.le_trans (Nat.le_of_ble_eq_true rfl) hd) ok (Nat.zero_le _) (.refl _) fun q => ?_)
  rw [show seg B1.g.text 0 B1.g.text.length = B1.g.text by unfold seg; rw [List.drop_zero, Nat.sub_zero, List.take_length]]
  refine c_ref a 705 (by kernel_rfl) rfl ?_
  refine a_cons rfl ?_
  refine r_loc a 7 (by kernel_rfl) rfl ?_
  refine a_nil ?_
  refine use' a (fun p w => d_law_text (H.la.mono fun x hx => .tail _ (mem_mid hx)) (by lia) (fun r hr => hWl r.2 (hW ▸ List.mem_map_of_mem hr)) p w) (by lia) fun _ _ zz => ?_
  obtain ⟨u, e, e'⟩ := zz
  subst e e'
  rw [hW]
  refine cmp_ne_ints a.ok (ns := B1.g.text) (ms := jn Wr) (.tail _ (.head _)) (.head _) ?_
  refine ⟨_, rfl, fun hb => ?_, fun hb => ?_⟩
  · exact absurd ht (lne_true hb)
  · replace hb := lne_false hb
    refine st_nil ?_
    refine @Tf.less _ _ _ _ _ _ _ (.skip (.skip (.refl _))) ?_
    exact next
theorem mks_mem {b : Addr} {l : List Mk} {m : Mk} {x : Addr × MO} (hm : m ∈ l) (hx : x ∈ mkE b m) : x ∈ mksL b l := List.mem_flatMap.mpr ⟨m, hm, hx⟩
theorem mark_item {l : List Mk} {i : Nat} {iv : IV} (h : ((mref l).map IV.one)[i]? = some iv) : ∃ m : Mk, l[i]? = some m ∧ iv = .one (.ref m.a) := by
  unfold mref at h
  rw [List.map_map, List.getElem?_map] at h
  obtain ⟨r, hr, e⟩ := Option.map_eq_some_iff.mp h
  exact ⟨r, hr, e.symm⟩
theorem ph16 (a : At c (sScope (fS 69)) d) (hd : 14 ≤ d) {C : LC} (hcs : c.env.cells = C.env) {z rq dk mk pl tx la : Addr} {ds txt : List Int} {ps : List Nat} {rs ns : Rows} {i j n w u1 u2 lo hi : Nat} {B1 : Buf} {X : Led} (H : F15 C (bufL B1 ++ X) dk tx rq mk la txt rs ns B1.K.l n w u1 u2 lo hi) (few : B1.K.l.length = 5)
    (next : ∀ fo, Tf c (execs ((sBody (fS 69)).drop 17) c.env) [(Str.ofString "script", .ref z), (Str.ofString "rows", .ref rq), (Str.ofString "marks", .ref mk), (Str.ofString "buffer", .ref B1.b), (Str.ofString "one", .int ((i : Int) + 1)), (Str.ofString "other", .int ((j : Int) + 1)), (Str.ofString "places", .ref pl), (Str.ofString "later", .ref la), (Str.ofString "found", .ref fo)] ((fo, .lst (ilst (B1.pt :: B1.K.l.map (·.p)))) :: (bufL B1 ++ ((pl, MO.lst (ilst (ps.map fun p : Nat => (p : Int) + 1))) :: X))) kN kR) : Tf c (execs ((sBody (fS 69)).drop 16) c.env) [(Str.ofString "script", .ref z), (Str.ofString "rows", .ref rq), (Str.ofString "marks", .ref mk), (Str.ofString "buffer", .ref B1.b), (Str.ofString "one", .int ((i : Int) + 1)), (Str.ofString "other", .int ((j : Int) + 1)), (Str.ofString "places", .ref pl), (Str.ofString "later", .ref la)] (bufL B1 ++ ((pl, MO.lst (ilst (ps.map fun p : Nat => (p : Int) + 1))) :: X)) kN kR := by
  obtain ⟨M2, hM2⟩ := pick_of (mem_mid (p := (pl, MO.lst (ilst (ps.map fun p : Nat => (p : Int) + 1)))) H.m)
  refine st_cons ?_
  refine st_assign rfl rfl rfl ?_
  refine ev_binop ?_
  refine e_list ?_
  refine a_cons rfl ?_
  refine r_attr rfl ?_
  refine r_loc a 3 (by kernel_rfl) rfl ?_
  refine t_get a 661 4 (by kernel_rfl) (List.mem_append_left _ (.head _)) (List.mem_append_left _ (.tail _ (.head _))) rfl rfl ?_
  refine a_nil ?_
  refine ⟨Nat.le_of_ble_eq_true rfl, fun q1 => ?_⟩
  refine ev_comp a.ok (clo_ok hcs (cl := []) (by kernel_rfl)) (by decide +kernel) rfl (by decide +kernel) (fun _ => rfl) ?_
  refine ti_list a.ok ?_
  refine r_loc a 2 (by kernel_rfl) rfl ?_
  refine ⟨mk, mref B1.K.l, (q1, .lst (ilst [B1.pt])) :: M2, rfl, (Less.cons (.perm hM2)).trans (.perm (.swap _ _ _)), ?_⟩
  refine ⟨by rw [List.length_map]; unfold mref; rw [List.length_map]; exact szOk (by lia), fun y acc M' => acc = ilst ((B1.K.l.map (·.p)).take y) ∧ M' = (q1, .lst (ilst [B1.pt])) :: M2, ⟨_, .refl _, rfl, rfl⟩, fun C' h₀ y iv acc M okc hIt hJ => ?_, fun acc M hJ hl q3 => ?_⟩
  · have a2 := at_comp a okc
    obtain ⟨e1, e2⟩ := hJ
    subst e1 e2
    obtain ⟨m, hm, e⟩ := mark_item hIt
    subst e
    have hmm : ∀ {x : Addr × MO}, x ∈ mkE B1.K.b m → x ≠ (mk, .lst (mref B1.K.l)) → x ∈ (q1, MO.lst (ilst [B1.pt])) :: M2 := fun {x} hx hne => by
      have h1 : x ∈ bufL B1 ++ ((pl, MO.lst (ilst (ps.map fun p : Nat => (p : Int) + 1))) :: X) := List.mem_append_left _ (List.mem_append_right _ (List.mem_append_right _ (List.mem_append_right _ (mks_mem (List.mem_of_getElem? hm) hx))))
      rcases List.mem_cons.mp (hM2.mem_iff.mp h1) with h | h
      · exact absurd h hne
      · exact .tail _ h
    refine ti_one ?_
    refine s_loc a2 0 (by kernel_rfl) ?_
    refine r_attr rfl ?_
    refine r_loc a2 0 (by kernel_rfl) rfl ?_
    refine t_get a2 487 3 (by kernel_rfl) (hmm (.head _) nofun) (hmm (.tail _ (.head _)) nofun) rfl rfl ?_
    exact ⟨_, .refl _, by rw [List.take_add_one, List.getElem?_map, hm, ← ilst_app]; rfl, rfl⟩
  obtain ⟨e1, e2⟩ := hJ
  subst e1 e2
  rw [List.take_of_length_le (by rw [List.length_map, List.length_map]; unfold mref; rw [List.length_map]; exact Nat.le_refl _)]
  refine bin_cat [B1.pt] (B1.K.l.map (·.p)) (.tail _ (.tail _ (.head _))) (.head _) (by rw [List.length_map]; show 1 + _ ≤ _; lia) fun fo => ?_
  refine s_loc a 8 (by kernel_rfl) ?_
  refine @Tf.less _ _ _ _ _ _ _ (.cons (.skip ((Less.perm (.swap _ _ _)).trans (.skip (.perm hM2.symm))))) ?_
  exact @next fo
end
end Mine
end

section
open PySem PySem.W PySem.Calls PyProof.Rows
set_option Elab.async false
set_option maxRecDepth 100000
set_option linter.unusedVariables false
set_option linter.unusedSimpArgs false
namespace Mine
section
variable {c : Cx} {sc : Scope} {d : Nat} {lm : Loc} {M : Led} {k : MV → Led → Prop} {kN : Loc → Led → Prop} {kR : MV → Led → Prop}
theorem pm11 {α : Type} {A X : List α} {f p : α} : (f :: (A ++ (p :: X))).Perm (p :: f :: (A ++ X)) := perm_count fun f => by simp only [List.map_append, List.map_cons, List.map_nil, List.sum_append, List.sum_cons, List.sum_nil]; lia
theorem zip_of {α : Type} {ps : List α} {f g : α → Int} {i : Nat} {iv : IV} (h : (((ilst (ps.map f)).zip (ilst (ps.map g))).map fun p => IV.two p.1 p.2)[i]? = some iv) : ∃ p, ps[i]? = some p ∧ iv = .two (.int (f p)) (.int (g p)) := by
  unfold ilst at h
  rw [List.map_map, List.map_map, List.zip_map', List.map_map, List.getElem?_map] at h
  obtain ⟨p, hp, e⟩ := Option.map_eq_some_iff.mp h
  exact ⟨p, hp, e.symm⟩
theorem ph17 (a : At c (sScope (fS 69)) d) (hd : 14 ≤ d) {C : LC} (hcs : c.env.cells = C.env) {z rq dk mk pl tx la : Addr} {ds txt : List Int} {ps : List Nat} {rs ns : Rows} {i j n w u1 u2 lo hi : Nat} {B1 : Buf} {X : Led} {fo : Addr} {R Wr : List (List Int)} {F : Int → Int} (hR : LR rs R) (H : F15 C (bufL B1 ++ X) dk tx rq mk la txt rs ns B1.K.l n w u1 u2 lo hi) (hW : ns.map (·.2) = Wr) (few : ns.length ≤ 10) (hz : lo ≤ hi ∧ hi ≤ 6) (hzt : txt.length ≤ 6)
    (hfs : B1.pt :: B1.K.l.map (·.p) = ps.map (fun p : Nat => F ((p : Int) + 1)))
    (hPL : ∀ p ∈ ps, ∃ u v x p' v', Spot R p u v ∧ R[u]? = some x ∧ Spot Wr p' u v' ∧ F ((p : Int) + 1) = (p' : Int) + 1 ∧ (if u1 ≤ u ∧ u ≤ u2 then colL w x lo hi txt v else (v : Int)) = (v' : Int)) (hk : ∀ M', kR (.bool true) M') :
    Tf c (execs ((sBody (fS 69)).drop 17) c.env) [(Str.ofString "script", .ref z), (Str.ofString "rows", .ref rq), (Str.ofString "marks", .ref mk), (Str.ofString "buffer", .ref B1.b), (Str.ofString "one", .int ((i : Int) + 1)), (Str.ofString "other", .int ((j : Int) + 1)), (Str.ofString "places", .ref pl), (Str.ofString "later", .ref la), (Str.ofString "found", .ref fo)] ((fo, .lst (ilst (B1.pt :: B1.K.l.map (·.p)))) :: (bufL B1 ++ ((pl, MO.lst (ilst (ps.map fun p : Nat => (p : Int) + 1))) :: X))) kN kR := by
  have hlen := hR.len
  have hfew := hR.hi
  refine st_cons ?_
  -- FOR
  refine st_for (fun _ => rfl) ?_
  refine i_typ a "zip" (by kernel_rfl) rfl ?_
  refine a_cons rfl ?_
  refine r_loc a 6 (by kernel_rfl) rfl ?_
  refine a_cons rfl ?_
  refine r_loc a 8 (by kernel_rfl) rfl ?_
  refine a_nil ?_
  rw [hfs]
  refine tic_zip a.ok (M₂ := bufL B1 ++ X) (.perm pm11) ?_
  refine ⟨fun y lm' M' => lm' = [(Str.ofString "script", .ref z), (Str.ofString "rows", .ref rq), (Str.ofString "marks", .ref mk), (Str.ofString "buffer", .ref B1.b), (Str.ofString "one", .int ((i : Int) + 1)), (Str.ofString "other", .int ((j : Int) + 1)), (Str.ofString "places", .ref pl), (Str.ofString "later", .ref la), (Str.ofString "found", .ref fo)] ∧ M' = bufL B1 ++ X, ⟨_, _, Sub.refl _, .refl _, rfl, rfl⟩, fun y iv lm M hIt hJ => ?_, fun lm M hJ => ?_⟩
  · obtain ⟨e1, e2⟩ := hJ
    subst e1 e2
    obtain ⟨p, hp, e⟩ := zip_of hIt
    subst e
    obtain ⟨u, v, x, p', v', hs, hx, hs', hF, hD⟩ := hPL p (List.mem_of_getElem? hp)
    rw [hF]
    obtain ⟨r, hr, hr2⟩ : ∃ r, rs[u]? = some r ∧ r.2 = x := by
      rw [← hR.e, List.getElem?_map] at hx
      exact Option.map_eq_some_iff.mp hx
    subst hr2
    have hg := hR.g r.2 (List.mem_of_getElem? hx)
    have hul := (List.getElem?_eq_some_iff.mp hr).1
    have hre := (List.getElem?_eq_some_iff.mp hr).2
    have hvl : v ≤ r.2.length := by
      obtain ⟨⟨xs, h1, h2⟩, _⟩ := hs
      rw [hx] at h1; exact Option.some.inj h1 ▸ h2
    refine i_two a 9 10 (by kernel_rfl) (by kernel_rfl) ?_
    refine st_cons ?_
    refine st_assign rfl rfl rfl ?_
    refine c_ref a 684 (by kernel_rfl) rfl ?_
    refine a_cons rfl ?_
    refine r_loc a 1 (by kernel_rfl) rfl ?_
    refine a_cons rfl ?_
    refine r_loc a 9 (by kernel_rfl) rfl ?_
    refine a_nil ?_
    refine k_spotR a (Nat.le_trans (Nat.le_of_ble_eq_true rfl) hd) H.rq hR.e (by lia) hs rfl fun t1 => ?_
    refine ta_tuple a.ok rfl (.head _) rfl ?_
    refine tas_cons ?_
    refine s_loc a 11 (by kernel_rfl) ?_
    refine tas_cons ?_
    refine s_loc a 12 (by kernel_rfl) ?_
    refine tas_nil ?_
    refine st_cons ?_
    refine st_assign rfl rfl rfl ?_

    refine Tv.cut (fun q M3 => q = .int (if u1 ≤ u ∧ u ≤ u2 then colL w r.2 lo hi txt v else (v : Int)) ∧ M3 = (t1, MO.tup [.int u, .int v]) :: (bufL B1 ++ X)) (ev_ifexp ?_) (fun q M3 hq => ?_)
    rotate_left
    · obtain ⟨e1, e2⟩ := hq
      subst e1 e2
      rw [hD]
      refine s_loc a 13 (by kernel_rfl) ?_
      refine st_cons ?_
      refine st_if ?_
      refine tb_compare1 rfl ?_
      refine c_ref a 684 (by kernel_rfl) rfl ?_
      refine a_cons rfl ?_
      refine r_loc a 7 (by kernel_rfl) rfl ?_
      refine a_cons rfl ?_
      refine r_loc a 10 (by kernel_rfl) rfl ?_
      refine a_nil ?_
      refine k_spotR a (Nat.le_trans (Nat.le_of_ble_eq_true rfl) hd) (H.la.mono fun x hx => .tail _ hx) hW (by lia) hs' rfl fun t2 => ?_
      refine e_tuple ?_
      refine a_cons rfl ?_
      refine r_loc a 11 (by kernel_rfl) rfl ?_
      refine a_cons rfl ?_
      refine r_loc a 13 (by kernel_rfl) rfl ?_
      refine a_nil ?_
      refine ⟨Nat.le_of_ble_eq_true rfl, fun q1 => ?_⟩
      refine cmp_ne_pair a (.tail _ (.head _)) (.head _) ?_
      refine ⟨_, rfl, nofun, fun _ => ?_⟩
      refine st_nil ?_
      refine st_nil ?_
      exact ⟨_, _, (sub_cons 0 (by kernel_rfl) rfl (sub_cons 1 (by kernel_rfl) rfl (sub_cons 2 (by kernel_rfl) rfl (sub_cons 3 (by kernel_rfl) rfl (sub_cons 4 (by kernel_rfl) rfl (sub_cons 5 (by kernel_rfl) rfl (sub_cons 6 (by kernel_rfl) rfl (sub_cons 7 (by kernel_rfl) rfl (sub_cons 8 (by kernel_rfl) rfl sub_nil))))))))), .skip (.skip (.skip (.refl _))), rfl, rfl⟩

    refine tb_chain2 rfl ?_
    refine r_cell a hcs (by kernel_rfl) rfl (.tail _ (H.c _ (by trivial))) ?_
    refine r_loc a 11 (by kernel_rfl) rfl ?_
    refine cmp_le ?_
    refine ⟨_, rfl, fun hb => ?_, fun hb => ?_⟩
    · replace hb := of_decide_eq_true hb
      have hb1 := hb
      refine r_cell a hcs (by kernel_rfl) rfl (.tail _ (H.c _ (by trivial))) ?_
      refine cmp_le ?_
      refine ⟨_, rfl, fun hb => ?_, fun hb => ?_⟩
      · replace hb := of_decide_eq_true hb
        refine c_ref a 698 (by kernel_rfl) rfl ?_
        refine a_cons rfl ?_
        refine ev_index ?_
        refine r_loc a 1 (by kernel_rfl) rfl ?_
        refine r_loc a 11 (by kernel_rfl) rfl ?_
        refine sub_lst (.tail _ H.rq.q) (refs_at (k := u) rfl hul) ?_ (fun _ => rfl)
        refine a_cons rfl ?_
        refine r_cell a hcs (by kernel_rfl) rfl (.tail _ (H.c _ (by trivial))) ?_
        refine a_cons rfl ?_
        refine r_cell a hcs (by kernel_rfl) rfl (.tail _ (H.c _ (by trivial))) ?_
        refine a_cons rfl ?_
        refine r_cell a hcs (by kernel_rfl) rfl (.tail _ (H.c _ (by trivial))) ?_
        refine a_cons rfl ?_
        refine r_cell a hcs (by kernel_rfl) rfl (.tail _ (H.c _ (by trivial))) ?_
        refine a_cons rfl ?_
        refine r_loc a 12 (by kernel_rfl) rfl ?_
        refine a_nil ?_
        rw [hre]
        refine use' a (fun p w' => d_law_column (way := w) (.tail _ (H.rq.r r (List.mem_of_getElem? hr))) (.tail _ H.tx) hz.1 (by lia) (by have := hg.1; lia) (by lia) p w') (by lia) fun _ _ zz => ?_
        obtain ⟨e, e'⟩ := zz
        subst e e'
        exact ⟨by rw [if_pos ⟨Int.ofNat_le.mp hb1, Int.ofNat_le.mp hb⟩], rfl⟩
      · replace hb := of_decide_eq_false hb
        refine r_loc a 12 (by kernel_rfl) rfl ?_
        exact ⟨by rw [if_neg (fun h => hb (Int.ofNat_le.mpr h.2))], rfl⟩
    · replace hb := of_decide_eq_false hb
      refine ⟨nofun, fun _ => ?_⟩
      refine r_loc a 12 (by kernel_rfl) rfl ?_
      exact ⟨by rw [if_neg (fun h => hb (Int.ofNat_le.mpr h.1))], rfl⟩

  · refine st_cons ?_
    refine st_ret ?_
    refine ev_bool ?_
    exact hk _
end
end Mine
end

section
open PySem PySem.W PySem.Calls PyProof.Rows
set_option Elab.async false
set_option maxRecDepth 100000
set_option linter.unusedVariables false
namespace Mine
theorem cm_pre : ∀ (p a b : List Int), cm (p ++ a) (p ++ b) p.length = p.length
  | [], a, b => by cases a <;> cases b <;> rfl
  | x :: p, a, b => by show (if x = x then cm (p ++ a) (p ++ b) p.length + 1 else 0) = p.length + 1; rw [if_pos rfl, cm_pre p a b]
theorem drop_pre (p a : List Int) : (p ++ a).drop p.length = a := List.drop_left
theorem prL_pre (p m m' s : List Int) : prL (p ++ m ++ s) (p ++ m' ++ s) p.length s.length = s.length := by
  unfold prL
  rw [List.append_assoc, List.append_assoc, drop_pre, drop_pre, List.reverse_append, List.reverse_append]
  have := cm_pre s.reverse m.reverse m'.reverse
  rwa [List.length_reverse] at this
theorem seg_pre (p m s : List Int) : seg (p ++ m ++ s) p.length ((p ++ m ++ s).length - s.length) = m := by
  unfold seg
  rw [List.append_assoc, drop_pre, List.length_append, List.length_append, show p.length + (m.length + s.length) - s.length - p.length = m.length by lia, List.take_left]
/-- a row and what becomes of it: the front and the end stay -/
theorem shape {way lo hi : Nat} {xs txt : List Int} (h : lo ≤ hi) (hw : way ≤ 3) (hne : rowW way xs lo hi txt ≠ xs) : ∃ p m m' s : List Int, xs = p ++ m ++ s ∧ rowW way xs lo hi txt = p ++ m' ++ s ∧ p.length = min lo xs.length ∧ s.length = xs.length - colW way lo hi ∧
    ∀ c : Nat, c ≤ xs.length → fEd p.length ((p.length + m.length : Nat) : Int) m'.length c = colL way xs lo hi txt c := by
  by_cases hl : xs.length ≤ lo
  · by_cases h3 : way = 3
    · subst h3
      refine ⟨xs, [], List.replicate (lo - xs.length) 32 ++ txt, [], by simp, ?_, by lia, ?_, fun c hc => ?_⟩
      · rw [← rowW3, List.take_of_length_le hl, List.drop_of_length_le (by lia), List.append_assoc xs]
      · show 0 = xs.length - hi; lia
      · unfold colL fEd; rw [if_pos (Int.ofNat_le.mpr hc), if_pos (Or.inr (Or.inr hl))]
    · exact absurd (rowW_short (t := txt) (hi := hi) h3 hl).symm hne
  · have hp : (xs.take lo).length = lo := by rw [List.length_take]; lia
    by_cases h2 : way = 2
    · subst h2
      refine ⟨xs.take lo, [], List.replicate (hi - lo) 32, xs.drop lo, by rw [List.append_nil, List.take_append_drop], (rowW2 (by decide) (by decide) (by decide) hl).symm, by rw [hp]; lia, List.length_drop, fun c hc => ?_⟩
      rw [hp, List.length_replicate, List.length_nil, Nat.add_zero]
      unfold colL fEd
      by_cases hc1 : c ≤ lo
      · rw [if_pos (Int.ofNat_le.mpr hc1), if_pos (Or.inr (Or.inl hc1))]
      · rw [if_neg (fun e => hc1 (Int.ofNat_le.mp e)), if_pos (show (lo : Int) ≤ c by lia), if_neg (fun e => e.elim hne (·.elim hc1 hl)), if_pos rfl]
        lia
    · have hm : ((xs.drop lo).take (hi - lo)).length = min hi xs.length - lo := by rw [List.length_take, List.length_drop]; lia
      have hx : xs = xs.take lo ++ (xs.drop lo).take (hi - lo) ++ xs.drop hi := by
        have e : xs.drop hi = (xs.drop lo).drop (hi - lo) := by rw [List.drop_drop]; congr 1; lia
        rw [e, List.append_assoc, List.take_append_drop, List.take_append_drop]
      have hs : (xs.drop hi).length = xs.length - colW way lo hi := by unfold colW; rw [if_neg h2, List.length_drop]
      have key : ∀ m' : List Int, rowW way xs lo hi txt = xs.take lo ++ m' ++ xs.drop hi → ∃ p m m' s : List Int, xs = p ++ m ++ s ∧ rowW way xs lo hi txt = p ++ m' ++ s ∧ p.length = min lo xs.length ∧ s.length = xs.length - colW way lo hi ∧
          ∀ c : Nat, c ≤ xs.length → fEd p.length ((p.length + m.length : Nat) : Int) m'.length c = colL way xs lo hi txt c := fun m' e => by
        refine ⟨xs.take lo, (xs.drop lo).take (hi - lo), m', xs.drop hi, hx, e, by rw [hp]; lia, hs, fun c hc => ?_⟩
        have hy : (rowW way xs lo hi txt).length = lo + m'.length + (xs.length - hi) := by rw [e, List.length_append, List.length_append, hp, List.length_drop]
        rw [hp, hm]
        unfold colL fEd
        rw [hy]
        by_cases hc1 : c ≤ lo
        · rw [if_pos (Int.ofNat_le.mpr hc1), if_pos (Or.inr (Or.inl hc1))]
        · by_cases hc2 : c < min hi xs.length
          · rw [if_neg (fun e => hc1 (Int.ofNat_le.mp e)), if_neg (by lia), if_neg (fun e => e.elim hne (·.elim hc1 hl)), if_neg h2, if_pos hc2]
          · rw [if_neg (fun e => hc1 (Int.ofNat_le.mp e)), if_pos (by lia), if_neg (fun e => e.elim hne (·.elim hc1 hl)), if_neg h2, if_neg hc2]; lia
      by_cases h0 : way = 0
      · subst h0
        exact key [] (by rw [List.append_nil]; exact (rowW0 hl).symm)
      · by_cases h1 : way = 1
        · subst h1
          refine key (if xs.drop hi = [] then [] else List.replicate (hi - lo) 32) ((rowW1 hl).symm.trans ?_)
          by_cases e : xs.drop hi = []
          · simp [e]
          · rw [if_neg e, if_neg e, List.append_assoc]
        · obtain rfl : way = 3 := by lia
          refine key txt ((rowW3 xs txt lo hi).symm.trans ?_)
          rw [show lo - xs.length = 0 by lia, List.replicate_zero, List.append_nil]
/-- the law's column lies in its row -/
theorem colL_in {way lo hi : Nat} {xs txt : List Int} (h : lo ≤ hi) (hw : way ≤ 3) {c : Nat} (hc : c ≤ xs.length) : ∃ v : Nat, colL way xs lo hi txt c = v ∧ v ≤ (rowW way xs lo hi txt).length := by
  by_cases hne : rowW way xs lo hi txt = xs
  · refine ⟨c, ?_, by rw [hne]; exact hc⟩
    unfold colL; rw [if_pos (Or.inl hne)]
  · obtain ⟨p, m, m', s, e1, e2, e3, e4, e5⟩ := shape h hw hne
    have e6 := e5 c hc
    have hx : xs.length = p.length + m.length + s.length := by rw [e1, List.length_append, List.length_append]
    have hy : (rowW way xs lo hi txt).length = p.length + m'.length + s.length := by rw [e2, List.length_append, List.length_append]
    rw [hy]
    unfold fEd at e6
    split at e6
    · exact ⟨c, e6.symm, by lia⟩
    · split at e6
      · exact ⟨c + m'.length - m.length, e6.symm.trans (by lia), by lia⟩
      · exact ⟨p.length, e6.symm, by lia⟩
end Mine
end

section
open PySem PySem.W PySem.Calls PyProof.Rows
set_option Elab.async false
set_option maxRecDepth 100000
set_option linter.unusedVariables false
namespace Mine
/-! ### rows as one text: what stands ahead of a row, and behind it -/
noncomputable def jnA (P : List (List Int)) : List Int := P.flatMap fun r => r ++ [10]
noncomputable def jnC (Q : List (List Int)) : List Int := Q.flatMap fun r => 10 :: r
theorem jn_split (x : List Int) (Q : List (List Int)) : ∀ P : List (List Int), jn (P ++ x :: Q) = jnA P ++ (x ++ jnC Q)
  | [] => rfl
  | y :: P => by
    have ih := jn_split x Q P
    show y ++ (P ++ x :: Q).flatMap (fun r => 10 :: r) = (y ++ [10] ++ jnA P) ++ (x ++ jnC Q)
    rw [List.append_assoc, List.append_assoc, ← ih]
    congr 1
    cases P with
    | nil => rfl
    | cons z P => rfl
theorem off_app : ∀ (P Q : List (List Int)) (a : Nat), off (P ++ Q) (P.length + a) = off P P.length + off Q a
  | [], Q, a => by rw [List.nil_append]; show off Q (0 + a) = 0 + off Q a; rw [Nat.zero_add, Nat.zero_add]
  | x :: P, Q, a => by
    have := off_app P Q a
    rw [show (x :: P).length + a = (P.length + a) + 1 by simp only [List.length_cons]; lia]
    show x.length + 1 + off (P ++ Q) (P.length + a) = x.length + 1 + off P P.length + off Q a
    lia
theorem off_left : ∀ (P Q : List (List Int)) (a : Nat), a ≤ P.length → off (P ++ Q) a = off P a
  | P, Q, 0, _ => by rw [off_zero, off_zero]
  | x :: P, Q, a + 1, h => by
    have := off_left P Q a (Nat.le_of_succ_le_succ h)
    show x.length + 1 + off (P ++ Q) a = x.length + 1 + off P a
    lia
  | [], _, a + 1, h => absurd h (by simp)
theorem jnA_len (P : List (List Int)) : (jnA P).length = off P P.length := by
  induction P with
  | nil => rfl
  | cons x P ih => show (x ++ [10] ++ jnA P).length = x.length + 1 + off P P.length; rw [List.length_append, List.length_append, ih]; rfl
theorem jnC_len (Q : List (List Int)) : (jnC Q).length = off Q Q.length := by
  induction Q with
  | nil => rfl
  | cons x Q ih => show (10 :: x ++ jnC Q).length = x.length + 1 + off Q Q.length; rw [List.length_append, ih]; rfl
theorem split_at {R : List (List Int)} {u : Nat} {x : List Int} (h : R[u]? = some x) : R = R.take u ++ x :: R.drop (u + 1) ∧ (R.take u).length = u := by
  obtain ⟨h1, h2⟩ := List.getElem?_eq_some_iff.mp h
  refine ⟨?_, by rw [List.length_take]; lia⟩
  rw [← h2, List.getElem_cons_drop, List.take_append_drop]
/-- the text of the rows, cut at a row -/
theorem jn_at {R : List (List Int)} {u : Nat} {x : List Int} (h : R[u]? = some x) : ∃ A C : List Int, jn R = A ++ (x ++ C) ∧ A.length = off R u ∧ A = jnA (R.take u) ∧ C = jnC (R.drop (u + 1)) := by
  obtain ⟨e, hl⟩ := split_at h
  refine ⟨jnA (R.take u), jnC (R.drop (u + 1)), ?_, ?_, rfl, rfl⟩
  · rw [← jn_split, ← e]
  · rw [jnA_len, hl]
    have := off_left (R.take u) (R.drop u) u (by lia)
    rw [List.take_append_drop] at this
    exact this.symm
end Mine
end

section
open PySem PySem.W PySem.Calls PyProof.Rows
set_option Elab.async false
set_option maxRecDepth 100000
set_option linter.unusedVariables false
namespace Mine
theorem at_run {A x C : List Int} {c : Nat} (h : c < x.length) : (A ++ (x ++ C))[A.length + c]? = some x[c] := by
  rw [List.getElem?_append_right (Nat.le_add_right _ _), Nat.add_sub_cancel_left, List.getElem?_append_left h, List.getElem?_eq_getElem h]
theorem not_ten {x : List Int} {c : Nat} (h : c < x.length) (h10 : (10 : Int) ∉ x) : ¬ some x[c] = some 10 := fun e => h10 (by have := List.getElem_mem h; rw [Option.some.inj e] at this; exact this)
theorem ls_run {A x C : List Int} (h10 : (10 : Int) ∉ x) : ∀ c, c ≤ x.length → lsAt (A ++ (x ++ C)) (A.length + c) = lsAt (A ++ (x ++ C)) A.length
  | 0, _ => rfl
  | c + 1, h => by
    show (if (A ++ (x ++ C))[A.length + c]? = some 10 then A.length + c + 1 else lsAt (A ++ (x ++ C)) (A.length + c)) = _
    rw [at_run (show c < x.length from h), if_neg (not_ten (show c < x.length from h) h10)]
    exact ls_run h10 c (Nat.le_of_succ_le h)
theorem jnA_end : ∀ {P : List (List Int)}, P ≠ [] → ∃ A', jnA P = A' ++ [10]
  | [], h => absurd rfl h
  | [x], _ => ⟨x, by simp [jnA]⟩
  | x :: y :: P, _ => by
    obtain ⟨A', e⟩ := jnA_end (P := y :: P) (by simp)
    exact ⟨x ++ [10] ++ A', by show x ++ [10] ++ jnA (y :: P) = _; rw [e, List.append_assoc (x ++ [10])]⟩
theorem ls_begin (P : List (List Int)) (T : List Int) : lsAt (jnA P ++ T) (jnA P).length = (jnA P).length := by
  by_cases h : P = []
  · subst h; rfl
  · obtain ⟨A', e⟩ := jnA_end h
    rw [e, List.length_append]
    show (if (A' ++ [10] ++ T)[A'.length]? = some 10 then A'.length + 1 else _) = _
    rw [if_pos (by rw [List.append_assoc, List.getElem?_append_right (Nat.le_refl _), Nat.sub_self]; rfl)]; rfl
theorem le_run {A x C : List Int} (h10 : (10 : Int) ∉ x) (n' : Nat) : ∀ k c, c + k = x.length → leAt (A ++ (x ++ C)) (A.length + c) (k + n') = leAt (A ++ (x ++ C)) (A.length + x.length) n'
  | 0, c, h => by rw [Nat.zero_add, show c = x.length from h]
  | k + 1, c, h => by
    have hc : c < x.length := by lia
    rw [show k + 1 + n' = (k + n') + 1 by lia]
    show (if (A ++ (x ++ C))[A.length + c]? = some 10 then A.length + c else leAt (A ++ (x ++ C)) (A.length + c + 1) (k + n')) = _
    rw [at_run hc, if_neg (not_ten hc h10)]
    exact le_run h10 n' k (c + 1) (by lia)
theorem le_end (A x : List Int) (Q : List (List Int)) : leAt (A ++ (x ++ jnC Q)) (A.length + x.length) (jnC Q).length = A.length + x.length := by
  cases Q with
  | nil => rfl
  | cons y Q =>
    have e : (jnC (y :: Q)).length = (y ++ jnC Q).length + 1 := by show (10 :: (y ++ jnC Q)).length = _; rw [List.length_cons]
    rw [e]
    show (if (A ++ (x ++ jnC (y :: Q)))[A.length + x.length]? = some 10 then _ else _) = _
    rw [if_pos]
    rw [List.getElem?_append_right (Nat.le_add_right _ _), Nat.add_sub_cancel_left, List.getElem?_append_right (Nat.le_refl _), Nat.sub_self]; rfl
/-- a place of the text: where its line begins and ends -/
theorem spot_line {R : List (List Int)} {p a c : Nat} {x : List Int} (hx : R[a]? = some x) (hc : c ≤ x.length) (hp : p = off R a + c) (h10 : (10 : Int) ∉ x) : lsAt (jn R) p = off R a ∧ leAt (jn R) p ((jn R).length - p) = off R a + x.length := by
  obtain ⟨A, C, e, hA, eA, eC⟩ := jn_at hx
  subst hp
  rw [← hA]
  have e2 : (jn R).length = A.length + (x.length + C.length) := by rw [e, List.length_append, List.length_append]
  rw [e2, e]
  refine ⟨(ls_run h10 c hc).trans (by rw [eA]; exact ls_begin _ _), ?_⟩
  rw [show A.length + (x.length + C.length) - (A.length + c) = (x.length - c) + C.length by lia, le_run h10 _ (x.length - c) c (by lia), eC]
  exact le_end _ _ _
theorem jnC_app (P Q : List (List Int)) : jnC (P ++ Q) = jnC P ++ jnC Q := List.flatMap_append
theorem jn_mid (P M Q : List (List Int)) (h : M ≠ []) : jn (P ++ (M ++ Q)) = jnA P ++ (jn M ++ jnC Q) := by
  cases M with
  | nil => exact absurd rfl h
  | cons m M =>
    show jn (P ++ m :: (M ++ Q)) = jnA P ++ ((m ++ jnC M) ++ jnC Q)
    rw [jn_split, jnC_app, List.append_assoc]
theorem push_run : ∀ (x : List Int) (p : List (List Int)) (l : List Int), (10 : Int) ∉ x → x.foldl pushR (p, l) = (p, l ++ x)
  | [], p, l, _ => by simp
  | y :: x, p, l, h => by
    have hy : y ≠ 10 := fun e => h (e ▸ List.mem_cons_self)
    show x.foldl pushR (if y = 10 then _ else (p, l ++ [y])) = _
    rw [if_neg hy, push_run x p (l ++ [y]) (fun e => h (List.mem_cons_of_mem _ e)), List.append_assoc]; rfl
theorem push_rows : ∀ (M : List (List Int)) (p : List (List Int)) (l : List Int), (∀ x ∈ M, (10 : Int) ∉ x) → ((jnC M).foldl pushR (p, l)).1 ++ [((jnC M).foldl pushR (p, l)).2] = p ++ l :: M
  | [], p, l, _ => rfl
  | x :: M, p, l, h => by
    have e : (jnC (x :: M)).foldl pushR (p, l) = (jnC M).foldl pushR (p ++ [l], x) := by
      show ((10 :: x) ++ jnC M).foldl pushR (p, l) = _
      rw [List.foldl_append]
      show (jnC M).foldl pushR (x.foldl pushR (p ++ [l], [])) = _
      rw [push_run x _ _ (h x (.head _))]; rfl
    rw [e, push_rows M (p ++ [l]) x fun y hy => h y (.tail _ hy), List.append_assoc]; rfl
theorem allRows_jn {M : List (List Int)} (h : M ≠ []) (h10 : ∀ x ∈ M, (10 : Int) ∉ x) : allRows (jn M) = M := by
  cases M with
  | nil => exact absurd rfl h
  | cons m M =>
    unfold allRows rowsOf
    show ((m ++ jnC M).foldl pushR ([], [])).1 ++ [((m ++ jnC M).foldl pushR ([], [])).2] = _
    rw [List.foldl_append, push_run m _ _ (h10 m (.head _))]
    exact push_rows M [] m fun y hy => h10 y (.tail _ hy)
end Mine
end

section
open PySem PySem.W PySem.Calls PyProof.Rows
set_option Elab.async false
set_option maxRecDepth 100000
set_option linter.unusedVariables false
namespace Mine
/-- the rows while the work goes up: ahead of m the old ones, from m on the new ones -/
noncomputable def mix (R W : List (List Int)) (m : Nat) : List (List Int) := R.take m ++ W.drop m
theorem mix_at {R W : List (List Int)} {m : Nat} {y : List Int} (hR : m < R.length) (hy : W[m]? = some y) : mix R W m = R.take m ++ y :: W.drop (m + 1) := by
  obtain ⟨h1, h2⟩ := List.getElem?_eq_some_iff.mp hy
  unfold mix
  rw [← h2, List.getElem_cons_drop]
theorem mix_next {R W : List (List Int)} {m : Nat} {x : List Int} (hx : R[m]? = some x) : mix R W (m + 1) = R.take m ++ x :: W.drop (m + 1) := by
  unfold mix
  rw [List.take_add_one, hx, List.append_assoc]; rfl
theorem off_take {R : List (List Int)} {m a : Nat} (T : List (List Int)) (hm : m ≤ R.length) (ha : a ≤ m) : off (R.take m ++ T) a = off R a := by
  have hl : (R.take m).length = m := by rw [List.length_take]; lia
  rw [off_left _ _ _ (by lia)]
  have := off_left (R.take m) (R.drop m) a (by lia)
  rwa [List.take_append_drop, eq_comm] at this
theorem off_past {R : List (List Int)} {m b : Nat} {x : List Int} (T : List (List Int)) (hm : m ≤ R.length) : off (R.take m ++ x :: T) (m + 1 + b) = off R m + x.length + 1 + off T b := by
  have hl : (R.take m).length = m := by rw [List.length_take]; lia
  have h1 := off_app (R.take m) (x :: T) (b + 1)
  have h2 := off_take (R := R) (m := m) (a := m) (x :: T) hm (Nat.le_refl _)
  rw [off_left _ _ _ (by lia)] at h2
  rw [hl, h2] at h1
  rw [show m + 1 + b = m + (b + 1) by lia, h1]
  show off R m + (x.length + 1 + off T b) = _
  lia
/-- the column that the law looks for, in a row of the rectangle or not -/
noncomputable def due (u1 u2 w lo hi : Nat) (txt : List Int) (a : Nat) (x : List Int) (c : Nat) : Int := if u1 ≤ a ∧ a ≤ u2 then colL w x lo hi txt c else c
/-- what has come of the text and of the places when the rows from m on are done -/
noncomputable def GG (R : List (List Int)) (u1 u2 w lo hi : Nat) (txt : List Int) (m : Nat) (t : List Int) (F : Int → Int) : Prop :=
  t = jn (mix R (lat R u1 u2 w lo hi txt) m) ∧ ∀ a c x, R[a]? = some x → c ≤ x.length → F (((off R a + c : Nat) : Int) + 1) = (off (mix R (lat R u1 u2 w lo hi txt) m) a : Nat) + (if m ≤ a then due u1 u2 w lo hi txt a x c else c) + 1
section
variable {R : List (List Int)} {u1 u2 w lo hi : Nat} {txt : List Int}
theorem due_nat (h : lo ≤ hi) (hw : w ≤ 3) {a c : Nat} {x : List Int} (hc : c ≤ x.length) : ∃ v : Nat, due u1 u2 w lo hi txt a x c = v ∧ v ≤ (if u1 ≤ a ∧ a ≤ u2 then rowW w x lo hi txt else x).length := by
  unfold due
  by_cases e : u1 ≤ a ∧ a ≤ u2
  · rw [if_pos e, if_pos e]; exact colL_in h hw hc
  · rw [if_neg e, if_neg e]; exact ⟨c, rfl, hc⟩
theorem gg_step (h : lo ≤ hi) (hw : w ≤ 3) {m : Nat} (h1 : u1 ≤ m) (h2 : m ≤ u2) {t : List Int} {F : Int → Int} {xs : List Int} (hx : R[m]? = some xs) (G : GG R u1 u2 w lo hi txt (m + 1) t F) :
    off R m + xs.length ≤ t.length ∧ (rowW w xs lo hi txt = xs → GG R u1 u2 w lo hi txt m t F) ∧ (rowW w xs lo hi txt ≠ xs → ∀ f l, cm xs (rowW w xs lo hi txt) (min lo xs.length) = f → prL xs (rowW w xs lo hi txt) f (xs.length - colW w lo hi) = l →
      GG R u1 u2 w lo hi txt m (t.take (off R m + f) ++ seg (rowW w xs lo hi txt) f ((rowW w xs lo hi txt).length - l) ++ t.drop (off R m + (xs.length - l))) fun p => fEd (((off R m + f : Nat) : Int) + 1) (((off R m + (xs.length - l) : Nat) : Int) + 1) (seg (rowW w xs lo hi txt) f ((rowW w xs lo hi txt).length - l)).length (F p)) := by
  obtain ⟨ht, hF⟩ := G
  have hm : m < R.length := (List.getElem?_eq_some_iff.mp hx).1
  have hy : (lat R u1 u2 w lo hi txt)[m]? = some (rowW w xs lo hi txt) := by rw [lat_at hx, if_pos ⟨h1, h2⟩]
  have Z0 := mix_at hm hy
  have Z1 := mix_next (W := lat R u1 u2 w lo hi txt) hx
  generalize hT : (lat R u1 u2 w lo hi txt).drop (m + 1) = T at Z0 Z1
  have hA : (jnA (R.take m)).length = off R m := by
    rw [jnA_len]
    have := off_take (R := R) (m := m) (a := m) [] (by lia) (Nat.le_refl _)
    rw [List.append_nil] at this
    rw [show (R.take m).length = m by rw [List.length_take]; lia]; exact this
  have ht1 : t = jnA (R.take m) ++ (xs ++ jnC T) := by rw [ht, Z1, jn_split]
  refine ⟨by rw [ht1, List.length_append, List.length_append, hA]; lia, fun e => ?_, fun hne f l hf hl => ?_⟩
  · have ez : mix R (lat R u1 u2 w lo hi txt) m = mix R (lat R u1 u2 w lo hi txt) (m + 1) := by rw [Z0, Z1, e]
    refine ⟨by rw [ez]; exact ht, fun a c x ha hc => ?_⟩
    rw [hF a c x ha hc, ez]
    by_cases ea : a = m
    · subst ea
      rw [hx] at ha
      obtain rfl := Option.some.inj ha
      rw [if_neg (by lia), if_pos (Nat.le_refl _)]
      unfold due colL; rw [if_pos ⟨h1, h2⟩, if_pos (Or.inl e)]
    · by_cases eb : m + 1 ≤ a
      · rw [if_pos eb, if_pos (by lia)]
      · rw [if_neg eb, if_neg (by lia)]
  · obtain ⟨p, q, q', s, e1, e2, e3, e4, e5⟩ := shape h hw hne
    have hfp : f = p.length := by rw [← hf, ← e3, e2]; conv => lhs; arg 1; rw [e1]
                                  rw [List.append_assoc, List.append_assoc]; exact cm_pre p _ _
    have hls : l = s.length := by rw [← hl, hfp, ← e4, e2]; conv => lhs; arg 1; rw [e1]
                                  exact prL_pre p q q' s
    have hx2 : xs.length = p.length + q.length + s.length := by rw [e1, List.length_append, List.length_append]
    have hy2 : (rowW w xs lo hi txt).length = p.length + q'.length + s.length := by rw [e2, List.length_append, List.length_append]
    have hseg : seg (rowW w xs lo hi txt) f ((rowW w xs lo hi txt).length - l) = q' := by rw [hfp, hls, e2]; exact seg_pre p q' s
    rw [hseg, hfp, hls, show xs.length - s.length = p.length + q.length by lia]
    have e5' := e5
    refine ⟨?_, fun a c x ha hc => ?_⟩
    · rw [Z0, jn_split, e2, ht1, e1]
      have a1 : (jnA (List.take m R) ++ (p ++ q ++ s ++ jnC T)).take (off R m + p.length) = jnA (List.take m R) ++ p := by
        rw [← hA, ← List.length_append, show jnA (List.take m R) ++ (p ++ q ++ s ++ jnC T) = (jnA (List.take m R) ++ p) ++ (q ++ s ++ jnC T) by simp only [List.append_assoc], List.take_left]
      have a2 : (jnA (List.take m R) ++ (p ++ q ++ s ++ jnC T)).drop (off R m + (p.length + q.length)) = s ++ jnC T := by
        rw [← hA, ← List.length_append, ← List.length_append, show jnA (List.take m R) ++ (p ++ q ++ s ++ jnC T) = (jnA (List.take m R) ++ (p ++ q)) ++ (s ++ jnC T) by simp only [List.append_assoc], List.drop_left]
      rw [a1, a2]; simp only [List.append_assoc]
    · show fEd (((off R m + p.length : Nat) : Int) + 1) (((off R m + (p.length + q.length) : Nat) : Int) + 1) q'.length (F _) = _
      rw [hF a c x ha hc]
      by_cases ea : a = m
      · subst ea
        rw [hx] at ha
        obtain rfl := Option.some.inj ha
        rw [if_neg (by lia), if_pos (Nat.le_refl _), Z0, Z1, off_take _ (by lia) (Nat.le_refl _), off_take _ (by lia) (Nat.le_refl _)]
        have e6 := e5 c hc
        have : due u1 u2 w lo hi txt a xs c = colL w xs lo hi txt c := by unfold due; rw [if_pos ⟨h1, h2⟩]
        rw [this, ← e6]
        unfold fEd
        repeat' split
        all_goals lia
      · by_cases eb : m + 1 ≤ a
        · obtain ⟨b, rfl⟩ : ∃ b, a = m + 1 + b := ⟨a - (m + 1), by lia⟩
          obtain ⟨v, hv, _⟩ := due_nat (u1 := u1) (u2 := u2) (txt := txt) (a := m + 1 + b) h hw hc
          rw [if_pos eb, if_pos (by lia), Z0, Z1, off_past _ (by lia), off_past _ (by lia), hv, hx2, hy2]
          unfold fEd
          rw [if_neg (by lia), if_pos (by lia)]
          lia
        · rw [if_neg eb, if_neg (by lia), Z0, Z1, off_take _ (by lia) (by lia), off_take _ (by lia) (by lia)]
          have ho := off_succ ha
          have hmo := off_mono (l := R) (show a + 1 ≤ m by lia)
          unfold fEd
          rw [if_pos (by lia)]
end
end Mine
end

section
open PySem PySem.W PySem.Calls PyProof.Rows
set_option Elab.async false
set_option maxRecDepth 100000
set_option linter.unusedVariables false
namespace Mine
theorem pad_len (xs : List Int) (lo : Nat) : (xs.take lo ++ List.replicate (lo - xs.length) (32 : Int)).length ≤ lo := by
  rw [List.length_append, List.length_take, List.length_replicate]; lia
theorem rw_a (l t n h : Nat) : l + t + n ≤ l + n + h + t := by lia
theorem rw_b (l t n h : Nat) : n ≤ l + n + h + t := by lia
theorem rw_c (l t n h : Nat) : l + n ≤ l + n + h + t := by lia
theorem rw_d (l t n h : Nat) : l + (h + n) ≤ l + n + h + t := by lia
theorem rw_e (l t n h : Nat) : l + h + n ≤ l + n + h + t := by lia
theorem rowW_len {way lo hi : Nat} {xs txt : List Int} : (rowW way xs lo hi txt).length ≤ lo + xs.length + hi + txt.length := by
  have hk : (xs.take lo).length ≤ lo := by rw [List.length_take]; exact Nat.min_le_left _ _
  have hd : ∀ n, (xs.drop n).length ≤ xs.length := fun n => Ln.dr (Nat.le_refl _)
  have hW : (List.replicate (hi - lo) (32 : Int)).length ≤ hi := Ln.rp (Nat.sub_le _ _)
  unfold rowW
  split
  · exact Nat.le_trans (Ln.app (Ln.app (pad_len xs lo) (Nat.le_refl _)) (hd hi)) (rw_a _ _ _ _)
  split
  · exact rw_b _ _ _ _
  split
  · exact Nat.le_trans (Ln.app hk (hd hi)) (rw_c _ _ _ _)
  split
  · split
    · exact Nat.le_trans (Ln.app hk (Nat.zero_le _)) (rw_c _ _ _ _)
    · exact Nat.le_trans (Ln.app hk (Ln.app hW (hd hi))) (rw_d _ _ _ _)
  · exact Nat.le_trans (Ln.app (Ln.app hk hW) (hd lo)) (rw_e _ _ _ _)
theorem mem_jn {x : Int} : ∀ {R : List (List Int)}, x ∈ jn R → x = 10 ∨ ∃ r ∈ R, x ∈ r
  | [], h => nomatch h
  | r :: R, h => by
    rcases List.mem_append.mp h with h | h
    · exact .inr ⟨r, .head _, h⟩
    · obtain ⟨q, hq, hx⟩ := List.mem_flatMap.mp h
      rcases List.mem_cons.mp hx with e | e
      · exact .inl e
      · exact .inr ⟨q, .tail _ hq, e⟩
theorem GoodRow.no {r : List Int} (h : GoodRow r) {x : Int} (h1 : x ≠ 97) (h2 : x ≠ 98) (h3 : x ≠ 32) : x ∉ r := fun e => by
  rcases h.2 x e with e | e | e <;> contradiction
theorem lat_get (R : List (List Int)) (u1 u2 w lo hi : Nat) (txt : List Int) (a : Nat) : (lat R u1 u2 w lo hi txt)[a]? = R[a]?.map fun r => if u1 ≤ a ∧ a ≤ u2 then rowW w r lo hi txt else r := by
  unfold lat; rw [List.getElem?_mapIdx]
theorem lat_drop (R : List (List Int)) (u1 u2 w lo hi : Nat) (txt : List Int) : (lat R u1 u2 w lo hi txt).drop (u2 + 1) = R.drop (u2 + 1) := by
  apply List.ext_getElem?
  intro a
  rw [List.getElem?_drop, List.getElem?_drop, lat_get]
  cases R[u2 + 1 + a]? with
  | none => rfl
  | some r => show some (if _ then _ else _) = _; rw [if_neg (by lia)]
theorem lat_take (R : List (List Int)) (u1 u2 w lo hi : Nat) (txt : List Int) : (lat R u1 u2 w lo hi txt).take u1 = R.take u1 := by
  apply List.ext_getElem?
  intro a
  rw [List.getElem?_take, List.getElem?_take]
  split
  · rw [lat_get]
    cases R[a]? with
    | none => rfl
    | some r => show some (if _ then _ else _) = _; rw [if_neg (by lia)]
  · rfl
theorem lat_len (R : List (List Int)) (u1 u2 w lo hi : Nat) (txt : List Int) : (lat R u1 u2 w lo hi txt).length = R.length := by unfold lat; rw [List.length_mapIdx]
/-- the plain facts of a script: two places in rows -/
structure Pl (R : List (List Int)) (i j u1 v1 u2 v2 w lo hi : Nat) (txt : List Int) : Prop where
  lo1 : 1 ≤ R.length
  hi4 : R.length ≤ 4
  g : ∀ r ∈ R, GoodRow r
  n : (jn R).length + 1 = off R R.length ∧ (jn R).length ≤ 27
  ii : i ≤ (jn R).length
  jj : j ≤ (jn R).length
  s1 : Spot R (min i j) u1 v1
  s2 : Spot R (max i j) u2 v2
  el : lo = min v1 v2
  eh : hi = max v1 v2
  w3 : w ≤ 3
  t : txt.length ≤ 6
section
variable {R : List (List Int)} {i j u1 v1 u2 v2 w lo hi : Nat} {txt : List Int}
theorem Pl.up (P : Pl R i j u1 v1 u2 v2 w lo hi txt) : u1 ≤ u2 ∧ u2 < R.length ∧ lo ≤ hi ∧ hi ≤ 6 := by
  obtain ⟨⟨x1, a1, b1⟩, e1⟩ := P.s1
  obtain ⟨⟨x2, a2, b2⟩, e2⟩ := P.s2
  have g1 := (P.g x1 (List.mem_of_getElem? a1)).1
  have g2 := (P.g x2 (List.mem_of_getElem? a2)).1
  have el := P.el
  have eh := P.eh
  refine ⟨?_, (List.getElem?_eq_some_iff.mp a2).1, by lia, by lia⟩
  rcases Nat.lt_or_ge u2 u1 with h | h
  · have h1 := off_mono (l := R) (show u2 + 1 ≤ u1 by lia)
    rw [off_succ a2] at h1
    lia
  · exact h
theorem Pl.rect (P : Pl R i j u1 v1 u2 v2 w lo hi txt) {B : Buf} (hB : LB B R 5) : ∃ R2, RectOk B i j w txt R2 fun k => GG R u1 u2 w lo hi txt (u1 + k) := by
  obtain ⟨hu, hlt, hlh, hh6⟩ := P.up
  obtain ⟨⟨x1, a1, b1⟩, e1⟩ := P.s1
  obtain ⟨⟨x2, a2, b2⟩, e2⟩ := P.s2
  have n10 : ∀ r ∈ R, (10 : Int) ∉ r := fun r hr => (P.g r hr).no (by decide) (by decide) (by decide)
  have n9 : ∀ r ∈ R, (9 : Int) ∉ r := fun r hr => (P.g r hr).no (by decide) (by decide) (by decide)
  obtain ⟨L1, _⟩ := spot_line a1 b1 e1 (n10 _ (List.mem_of_getElem? a1))
  obtain ⟨L2, H2⟩ := spot_line a2 b2 e2 (n10 _ (List.mem_of_getElem? a2))
  have el := P.el
  have eh := P.eh
  have hL : spL B.g.text i j = off R u1 := by unfold spL; rw [hB.t]; exact L1
  have hH : spH B.g.text i j = off R u2 + x2.length := by unfold spH; rw [hB.t]; exact H2
  have hA : spA B.g.text i j = lo := by unfold spA; rw [hB.t, L1, L2]; lia
  have hZ : spZ B.g.text i j = hi := by unfold spZ; rw [hB.t, L1, L2]; lia
  have hP : (R.take u1).length = u1 := by rw [List.length_take]; lia
  generalize hM : (R.drop u1).take (u2 + 1 - u1) = M
  have hMl : M.length = u2 + 1 - u1 := by rw [← hM, List.length_take, List.length_drop]; lia
  have hR : R = R.take u1 ++ (M ++ R.drop (u2 + 1)) := by
    have e : R.drop (u2 + 1) = (R.drop u1).drop (u2 + 1 - u1) := by rw [List.drop_drop]; congr 1; lia
    rw [← hM, e, List.take_append_drop, List.take_append_drop]
  have hoff : ∀ k, k ≤ M.length → off R (u1 + k) = off R u1 + off M k := fun k hk => by
    have h1 := off_app (R.take u1) (M ++ R.drop (u2 + 1)) k
    rw [← hR, hP, off_left _ _ _ hk] at h1
    have h2 := off_left (R.take u1) (M ++ R.drop (u2 + 1)) u1 (by lia)
    rw [← hR] at h2
    rw [h1, h2]
  have hat : ∀ {k : Nat} {xs : List Int}, M[k]? = some xs → R[u1 + k]? = some xs ∧ u1 + k ≤ u2 := fun {k xs} h => by
    have hk := (List.getElem?_eq_some_iff.mp h).1
    rw [← hM, List.getElem?_take, if_pos (by lia), List.getElem?_drop] at h
    exact ⟨h, by lia⟩
  have hMR : ∀ xs ∈ M, xs ∈ R := fun xs hx => by rw [hR]; exact List.mem_append_right _ (List.mem_append_left _ hx)
  have hMn : M ≠ [] := fun e => by rw [e] at hMl; simp at hMl; lia
  have ho2 := off_succ a2
  have hoM := hoff M.length (Nat.le_refl _)
  rw [hMl, show u1 + (u2 + 1 - u1) = u2 + 1 by lia, ho2] at hoM
  have hn := P.n.2
  refine ⟨M, hB.ok, by rw [hB.t]; exact P.ii, by rw [hB.t]; exact P.jj, ?_, by rw [hB.t]; lia, ?_, by rw [hMl]; have := P.hi4; lia, fun xs hx => ?_, by rw [hZ]; lia, by have := hB.c; lia, by rw [hH, hL, hMl]; lia, ?_, ?_⟩
  · rw [hB.t]
    intro h
    rcases mem_jn h with e | ⟨r, hr, e⟩
    · exact absurd e (by decide)
    · exact n9 r hr e
  · rw [hL, hH, hB.t]
    have e : seg (jn R) (off R u1) (off R u2 + x2.length) = jn M := by
      have hj := jn_mid (R.take u1) M (R.drop (u2 + 1)) hMn
      rw [← hR] at hj
      have hAl : (jnA (R.take u1)).length = off R u1 := by
        rw [jnA_len, hP]
        have := off_take (R := R) (m := u1) (a := u1) [] (by lia) (Nat.le_refl _)
        rwa [List.append_nil] at this
      have hMlen := jn_off hMn
      rw [hMl] at hMlen
      unfold seg
      rw [hj, ← hAl, List.drop_left, show (jnA (R.take u1)).length = off R u1 from hAl, show off R u2 + x2.length - off R u1 = (jn M).length by lia, List.take_left]
    rw [e]
    exact allRows_jn hMn fun x hx => n10 x (hMR x hx)
  · refine ⟨n9 xs (hMR xs hx), by have := (P.g xs (hMR xs hx)).1; lia, ?_⟩
    rw [hA, hZ]
    have := rowW_len (way := w) (lo := lo) (hi := hi) (xs := xs) (txt := txt)
    have := (P.g xs (hMR xs hx)).1
    have := P.t
    lia
  · show GG R u1 u2 w lo hi txt (u1 + M.length) B.g.text fun p => p
    have hmix : mix R (lat R u1 u2 w lo hi txt) (u1 + M.length) = R := by
      rw [hMl, show u1 + (u2 + 1 - u1) = u2 + 1 by lia]; unfold mix; rw [lat_drop, List.take_append_drop]
    refine ⟨by rw [hmix, hB.t], fun a c x ha hc => ?_⟩
    show ((off R a + c : Nat) : Int) + 1 = _
    rw [hmix]
    have : (if u1 + M.length ≤ a then due u1 u2 w lo hi txt a x c else (c : Int)) = c := by
      split
      · unfold due; rw [if_neg (by lia)]
      · rfl
    rw [this]; lia
  · intro k t F xs hx G
    obtain ⟨hx2, hk⟩ := hat hx
    rw [hL, hA, hZ, ← hoff k (Nat.le_of_lt (List.getElem?_eq_some_iff.mp hx).1)]
    exact gg_step hlh P.w3 (Nat.le_add_right _ _) hk hx2 G
/-- what the end of the work says of the text and of the places -/
theorem Pl.fin (P : Pl R i j u1 v1 u2 v2 w lo hi txt) {t : List Int} {F : Int → Int} (G : GG R u1 u2 w lo hi txt (u1 + 0) t F) : t = jn (lat R u1 u2 w lo hi txt) ∧
    ∀ p, p ≤ (jn R).length → ∃ u v x p' v', Spot R p u v ∧ R[u]? = some x ∧ Spot (lat R u1 u2 w lo hi txt) p' u v' ∧ F ((p : Int) + 1) = (p' : Int) + 1 ∧ (if u1 ≤ u ∧ u ≤ u2 then colL w x lo hi txt v else (v : Int)) = (v' : Int) := by
  obtain ⟨hu, hlt, hlh, hh6⟩ := P.up
  have hmix : mix R (lat R u1 u2 w lo hi txt) (u1 + 0) = lat R u1 u2 w lo hi txt := by
    unfold mix; rw [Nat.add_zero, ← lat_take R u1 u2 w lo hi txt, List.take_append_drop]
  obtain ⟨h1, h2⟩ := G
  rw [hmix] at h1 h2
  refine ⟨h1, fun p hp => ?_⟩
  obtain ⟨u, v, hs⟩ := Spot.ex (R := R) (p := p) (by have := P.n.1; lia)
  obtain ⟨⟨x, hx, hv⟩, e⟩ := id hs
  obtain ⟨v', hv', hle⟩ := due_nat (u1 := u1) (u2 := u2) (txt := txt) (a := u) hlh P.w3 hv
  refine ⟨u, v, x, off (lat R u1 u2 w lo hi txt) u + v', v', hs, hx, ⟨⟨_, lat_at hx, hle⟩, rfl⟩, ?_, hv'⟩
  have := h2 u v x hx hv
  rw [← e] at this
  rw [this]
  have hd : (if u1 + 0 ≤ u then due u1 u2 w lo hi txt u x v else (v : Int)) = v' := by
    split
    · exact hv'
    · rw [← hv']; unfold due; rw [if_neg (by lia)]
  rw [hd]; lia
end
end Mine
end

section
open PySem PySem.W PySem.Calls PyProof.Rows
set_option Elab.async false
set_option maxRecDepth 100000
set_option linter.unusedVariables false
namespace Mine
theorem law_runs {prog : Program} {w : World} {A : Around} {s : Shared} {z : Addr} {vs : List Value} {ns : List Int} (hroom : Room A 15) (hg : Ground (KK w.params) s.heap) (hz : s.heap.get? z = some (listOf vs.toArray 0)) (hr : RVs (ilst ns) vs) (hl0 : ns.length ≤ 1048576) :
    codeAny (model prog w) A (.call (.ref 717) ⟨[.ref z], []⟩) (fun r s' => r = .ok (.ret (.bool true)) ∧ (∀ b o, s.heap.get? b = some o → s'.heap.get? b = some o) ∧ Same s s') s := by
  refine codeAny_mono (runs_fnC (w := w) (prog := prog) (as := [.ref z]) (M := []) (P := fun r _ => r = .bool true) 717 (fS 69) (cv := [(Str.ofString "text", none), (Str.ofString "high", none), (Str.ofString "low", none), (Str.ofString "bottom", none), (Str.ofString "top", none), (Str.ofString "way", none), (Str.ofString "size", none), (Str.ofString "deck", none)])
    rfl (by kernel_rfl) (fun vs hv => ?_) (by kernel_rfl) rfl rfl (h₀ := s.heap) (led := []) hroom hg (fun _ _ e => e) (Nat.le_refl _) ⟨.ref z, trivial⟩ trivial (fun _ h => nomatch h) List.nodup_nil fun c a _ _ hh cs hl hcs0 => ?_) fun r s' h => ?_
  rotate_left
  rotate_left
  · obtain ⟨v, b, M', led', e, hv, _, _, _, kept, same, hb⟩ := h
    subst hb
    cases hv
    exact ⟨e, fun b o h => kept b o h (fun q => nomatch q), same⟩
  · obtain ⟨v1, rfl⟩ := len1 hv
    kernel_rfl
  have hz' : c.h₀.get? z = some (listOf vs.toArray 0) := by rw [hh]; exact hz
  obtain ⟨c1, c2, c3, c4, c5, c6, c7, c8, rfl⟩ := len8 hl
  obtain ⟨C, hC⟩ : ∃ C : LC, C = ⟨c1, c2, c3, c4, c5, c6, c7, c8⟩ := ⟨_, rfl⟩
  have hcs : c.env.cells = C.env := by rw [hC]; exact hcs0
  show Tf c _ [(Str.ofString "script", .ref z)] ([(c1, .cell none), (c2, .cell none), (c3, .cell none), (c4, .cell none), (c5, .cell none), (c6, .cell none), (c7, .cell none), (c8, .cell none)] ++ []) _ _
  rw [show [(c1, MO.cell none), (c2, .cell none), (c3, .cell none), (c4, .cell none), (c5, .cell none), (c6, .cell none), (c7, .cell none), (c8, .cell none)] = C.led none none none none none none none none by rw [hC]; rfl, List.append_nil]
  refine @ph1 _ _ _ _ a (Nat.le_refl _) C hcs z vs ns hz' hr hl0 ?_
  intro dk ds
  refine @ph2 _ _ _ _ a (Nat.le_refl _) C hcs _ _ _ ?_
  intro rq rs ds h1 h4 hg
  have hR : LR rs (rs.map (·.2)) := ⟨rfl, by rw [List.length_map]; exact h1, by rw [List.length_map]; exact h4, fun r hr => by
    obtain ⟨x, hx, rfl⟩ := List.mem_map.mp hr
    exact hg x hx⟩
  generalize rs.map (·.2) = R at hR
  refine @Tf.less _ _ _ _ _ _ ((dk, .lst (ilst ds)) :: (C.deck dk ++ RL rq rs)) (.perm List.perm_middle) ?_
  refine @ph3 _ _ _ _ a (Nat.le_refl _) C hcs _ _ _ _ _ _ hR ?_
  intro mk B hB
  have hn := hR.jn
  refine @ph6 _ _ _ _ a (Nat.le_refl _) C hcs _ _ _ _ _ _ _ _ ?_
  intro i j w ds hi hj hw
  refine @ph7 _ _ _ _ a (Nat.le_refl _) C hcs _ _ _ _ _ _ _ _ _ _ _ _ _ hR (fun x hx => List.mem_append_left _ hx) (by lia) (by lia) ?_
  intro u1 v1 u2 v2 s1 s2
  refine @ph8 _ _ _ _ a (Nat.le_refl _) C hcs _ _ _ _ _ _ _ _ _ _ _ _ _ _ _ ?_
  intro lo hi' hlo hhi
  have P0 : Pl R i j u1 v1 u2 v2 w lo hi' [] := ⟨hR.lo, hR.hi, hR.g, hn, hi, hj, s1, s2, hlo, hhi, hw, Nat.zero_le _⟩
  obtain ⟨hu, hlt, hlh, hh6⟩ := P0.up
  refine @ph9 _ _ _ _ a (Nat.le_refl _) C hcs _ _ _ _ _ _ _ _ _ _ _ _ _ _ _ ⟨hlh, hh6⟩ ?_
  intro tx txt ds ht6
  have P : Pl R i j u1 v1 u2 v2 w lo hi' txt := ⟨hR.lo, hR.hi, hR.g, hn, hi, hj, s1, s2, hlo, hhi, hw, ht6⟩
  refine @ph10 _ _ _ _ a (Nat.le_refl _) C hcs _ _ _ _ _ _ _ _ _ _ _ _ _ _ _ _ ?_
  intro pl ps ds hps hpn
  refine @ph11 _ _ _ _ a (Nat.le_refl _) C hcs _ _ _ _ _ _ _ _ _ _ _ _ _ _ _ _ _ _ _ hB.ok (List.eq_nil_of_length_eq_zero hB.few) hps (fun p hp => by rw [hB.t]; exact hpn p hp) ?_
  intro l hl5 hlp okl
  refine @ph12 _ _ _ _ a (Nat.le_refl _) C hcs _ _ _ _ _ _ _ _ _ _ _ _ _ _ _ _ _ _ _ _ _ _ hB hl5 hlp okl hps hw ht6 (fun B hB => P.rect hB) ?_
  intro B1 F ok1 hb1 hG hfs
  rw [← hb1]
  obtain ⟨htxt, hPL⟩ := P.fin hG
  refine @ph14 _ _ _ _ a (Nat.le_refl _) C hcs _ _ _ _ _ _ _ _ _ _ _ _ _ _ _ _ _ _ _ _ hR ⟨hlh, hh6⟩ ht6 ?_
  intro la ns' X H hW
  have hWl := lat_len R u1 u2 w lo hi' txt
  have hWr : ∀ r ∈ lat R u1 u2 w lo hi' txt, r.length ≤ 100 := fun r hr => by
    obtain ⟨q, hq⟩ := List.getElem?_of_mem hr
    rw [lat_get] at hq
    obtain ⟨x, hx, e⟩ := Option.map_eq_some_iff.mp hq
    have hx6 := (hR.g x (List.mem_of_getElem? hx)).1
    have := rowW_len (way := w) (lo := lo) (hi := hi') (xs := x) (txt := txt)
    rw [← e]
    split <;> lia
  have hR4 := hR.hi
  have hns : ns'.length = (lat R u1 u2 w lo hi' txt).length := by rw [← hW, List.length_map]
  refine @ph15 _ _ _ _ a (Nat.le_refl _) C hcs _ _ _ _ _ _ _ ds _ _ _ _ _ _ _ _ _ _ _ _ _ _ _ ok1 H hW (by lia) hWr htxt ?_
  have hl1 : B1.K.l.length = 5 := by
    have := congrArg List.length hfs
    rw [List.length_cons, List.length_map, List.length_map, hps] at this
    lia
  refine @ph16 _ _ _ _ a (Nat.le_refl _) C hcs _ _ _ _ _ _ _ ds _ _ _ _ _ _ _ _ _ _ _ _ _ _ H hl1 ?_
  intro fo
  exact @ph17 _ _ _ _ a (Nat.le_refl _) C hcs _ _ _ _ _ _ _ ds _ _ _ _ _ _ _ _ _ _ _ _ _ _ _ _ _ _ hR H hW (by lia) ⟨hlh, hh6⟩ ht6 hfs (fun p hp => hPL p (hpn p hp)) fun M' => ⟨M', .refl _, rfl⟩
end Mine
end

section
open PySem PySem.W PySem.Calls PyProof.Rows
set_option Elab.async false
set_option maxRecDepth 1000000
set_option linter.unusedVariables false
namespace Mine
/-- the run of the top upon a tree of objects -/
noncomputable def runT (st : SharedT → Thread → Option (SharedT × Thread)) (ok : Thread → Bool) : Nat → SharedT → Thread → Option SharedT
  | 0, _, _ => none
  | n + 1, s, t => match through t with
    | true => some s
    | false => match ok t with
      | false => none
      | true => match st s t with
        | some (s', t') => runT st ok n s' t'
        | none => none
theorem runT_of {tb : String → Option Builtin} {p : Program} {w : World} {n₀ : Nat} {ann : Option Value} : ∀ {n : Nat} {s s' : SharedT} {t : Thread}, runT (stepT (denote tb) p w) (stepOk n₀ ann) n s t = some s' → topRun tb p w n₀ ann n s.abs t = some s'.abs
  | 0, _, _, _, h => by cases h
  | n + 1, s, s', t, h => by
    unfold runT at h
    unfold topRun
    cases he : through t with
    | true => rw [he] at h; cases h; rfl
    | false =>
      rw [he] at h
      cases hk : stepOk n₀ ann t with
      | false => rw [hk] at h; cases h
      | true =>
        rw [hk] at h
        cases hs : stepT (denote tb) p w s t with
        | none => rw [hs] at h; cases h
        | some r => obtain ⟨s₂, t₂⟩ := r; rw [hs] at h; rw [stepT_spec hs]; exact runT_of h
noncomputable def bootT (P : Params) (os : OsState) : SharedT :=
  ⟨((boot_heap P).objs.toList.foldl (fun (x : BT × Nat) o => (x.1.ins x.2 o, x.2 + 1)) (BT.nil, 0)).1, 11, {}, { toList := [] }, boot_drawn, boot_toks, os⟩
theorem boot_abs (P : Params) (os : OsState) : (bootT P os).abs = ⟨boot_heap P, { toList := [] }, boot_drawn, boot_toks, os⟩ := by kernel_rfl

theorem left_of {p q : Program} {loose : List Str} {Xt : Shared → Bool} {α : Type} {Yf : Shared → α} {Ya : World → α} {N : Nat} {g0 : Bool} {ann : Option Value}
    (boot : ∀ w : World, Option.map (fun s => (s.heap, s.gens, s.drawn, s.toks)) (fencedOpening treeTable p w N) = some (boot_heap w.params, { toList := [] }, boot_drawn, boot_toks))
    (hs : ∀ w : World, ((boot_heap w.params).isNs mainGlobals, (boot_heap w.params).objs.size, (boot_heap w.params).nsMap mainGlobals "__annotations__") = (true, 11, ann))
    (run : ∀ (w : World) (os : OsState), (runT (stepT (denote treeTable) p w) (stepOk 11 ann) N (bootT w.params os) (topStub p)).map (fun s => (staticsOk (importedModules p.main.body) (boot_heap w.params) s.abs.heap && namesBound p s.abs.heap && gensDone s.abs && laidKept (boot_heap w.params) s.abs.heap,
      openSeen q loose (importedModules p.main.body) Xt g0 s.abs, Yf s.abs)) = some (true, openGood q loose, Ya w)) : LeftO p q loose Xt Yf Ya N g0 := by
  intro w
  have hb := boot w
  have h1 := hs w
  unfold openEnds
  obtain ⟨s₀, e0, e1⟩ := Option.map_eq_some_iff.mp hb
  obtain ⟨H, g, d, k, os⟩ := s₀
  obtain ⟨rfl, rfl, rfl, rfl⟩ : H = boot_heap w.params ∧ g = ({ toList := [] } : Array GenState) ∧ d = boot_drawn ∧ k = boot_toks := by
    simp only [Prod.mk.injEq] at e1; exact e1
  simp only [Prod.mk.injEq] at h1
  obtain ⟨i1, i2, i3⟩ := h1
  obtain ⟨s₁, r1, r2⟩ := Option.map_eq_some_iff.mp (run w os)
  simp only [Prod.mk.injEq] at r2
  obtain ⟨c1, c2, c3⟩ := r2
  have hr := runT_of r1
  rw [boot_abs] at hr
  rw [e0, Option.bind_some]
  unfold topFrom
  dsimp only
  rw [i1, i2, i3, hr]
  show Option.map _ ((some s₁.abs).bind _) = _
  rw [Option.bind_some, c1]
  show some _ = some _
  rw [← c2, ← c3]

noncomputable def qq : Program := view PySem.Challenge.pw_pq0290_01 [69]
noncomputable def lsN : List Str := (["_wall", "LispSignal", "LONGEST", "need_writable", "need_room", "reached", "tell_ahead", "tell_behind", "text_out", "text_in", "hung_out", "hung_in", "put_in", "insert_at", "insert", "delete", "replace", "NEWLINE", "line_start", "line_end", "TAB", "BLANK", "column_behind", "column_at", "row_columns", "place_at", "opened", "padded", "cut_at", "cut_between", "erased", "cleared", "opened_up", "replaced", "ROW_END", "Span", "rows_in", "column_of", "span_of", "common_many", "put_row", "put_rows", "delete_rectangle", "clear_rectangle", "open_rectangle", "string_rectangle", "GapText", "Opaque", "Marker", "Markers", "Buffer", "set_marker", "_law_draw", "_law_spot", "_law_row", "_law_column", "_law_text", "_law_done"] : List String).map Str.ofString
noncomputable def xtN (s : Shared) : Bool := xlAt qq [] s && recOk (RowW.records PySem.Challenge.rw_pq0290_01.row.toRowW) s
theorem boot_hs : ∀ w : World, ((boot_heap w.params).isNs mainGlobals, (boot_heap w.params).objs.size, (boot_heap w.params).nsMap mainGlobals "__annotations__") = (true, 11, some (.ref 6)) := fun w => by kernel_rfl
theorem boot_is : ∀ w : World, Option.map (fun s => (s.heap, s.gens, s.drawn, s.toks)) (fencedOpening treeTable PySem.Challenge.pw_pq0290_01 w 9000) = some (boot_heap w.params, { toList := [] }, boot_drawn, boot_toks) :=
  boot_open (by kernel_rfl) (by decide) (fun s => by kernel_rfl)
end Mine
end

section
open PySem PySem.W PySem.Calls PyProof.Rows
set_option Elab.async false
set_option maxRecDepth 1000000
set_option linter.unusedVariables false
namespace Mine
theorem key : ∀ (w : World) (os : OsState), (runT (PySem.W.Fast.tw10156331382660048174 (PySem.W.Fast.tw11892475500146522536 PySem.W.Fast.tw14364793385576792824) PySem.Challenge.pw_pq0290_01 w) (PySem.W.Fast.tw6613529449190102663 11 (some (.ref 6))) 9000 (bootT w.params os) (topStub PySem.Challenge.pw_pq0290_01)).map (fun s => (staticsOk (importedModules PySem.Challenge.pw_pq0290_01.main.body) (boot_heap w.params) s.abs.heap && namesBound PySem.Challenge.pw_pq0290_01 s.abs.heap && gensDone s.abs && laidKept (boot_heap w.params) s.abs.heap,
      PySem.W.Fast.tw4187177175401517315 qq lsN (importedModules PySem.Challenge.pw_pq0290_01.main.body) xtN true s.abs, Hook.obs (kHook KK kAs kAs_ok) s.abs)) = some (true, openGood qq lsN, Hook.val (kHook KK kAs kAs_ok) w) := fun w os => by kernel_rfl
end Mine
end

section
open PySem PySem.W PySem.Calls PyProof.Rows
set_option Elab.async false
set_option maxRecDepth 1000000
set_option linter.unusedVariables false
namespace Mine
theorem said : PySem.Challenge.rw_pq0290_01.wellSaid = true := (congrFun PySem.W.Fast.te9446332074065402090 _).trans (by kernel_rfl)
theorem left : LeftO PySem.Challenge.rw_pq0290_01.row.prog qq lsN xtN (Hook.obs (kHook KK kAs kAs_ok)) (Hook.val (kHook KK kAs kAs_ok)) 9000 true :=
  left_of boot_is boot_hs fun w os => by
    rw [PySem.W.Fast.te10156331382660048174, PySem.W.Fast.te11892475500146522536, PySem.W.Fast.te14364793385576792824, PySem.W.Fast.te6613529449190102663, PySem.W.Fast.te4187177175401517315]
    exact key w os
noncomputable def sPos : Stmt → Pos
  | .FunctionDef (pos := p) .. => p
  | _ => default
noncomputable def dLaw : DefRec := { name := "law", params := sArgs (fS 69), body := sBody (fS 69), scope := sScope (fS 69), pos := sPos (fS 69) }
theorem hd (walk : WalkO qq lsN (XL qq []) (Hook.says (kHook KK kAs kAs_ok)) PySem.Challenge.rw_pq0290_01.row.toRowW dLaw [] fun f vs => PySem.call f vs) (hw : PySem.Challenge.rw_pq0290_01.row.promised) : PySem.Challenge.rw_pq0290_01.Holds :=
  holds_law said fun h1 => holds_open (q := qq) (loose := lsN) (Xt := xtN) (XP := XL qq []) (Yf := Hook.obs (kHook KK kAs kAs_ok)) (Ya := Hook.val (kHook KK kAs kAs_ok)) (YP := Hook.says (kHook KK kAs kAs_ok)) (N := 9000) (d := dLaw) (kwd := []) left
    (Hook.of (kHook KK kAs kAs_ok)) (Hook.keeps (kHook KK kAs kAs_ok)) (fun s e => xl_of s (Bool.and_eq_true_iff.mp e).1) XL.keeps (by kernel_rfl) (by kernel_rfl) (by kernel_rfl) (fun s e => recFacts_of (Bool.and_eq_true_iff.mp e).2) (by kernel_rfl) h1 (by decide +kernel) ⟨rfl, rfl, rfl, rfl, rfl, by decide +kernel⟩ hw walk
end Mine
end

section
open PySem PySem.W PySem.Calls PyProof.Rows
set_option Elab.async false
set_option maxRecDepth 1000000
set_option linter.unusedVariables false
namespace Mine
theorem ints_well {P : Params} {h : Heap} {R : WRecords} : ∀ {ds : List WData} {vs : List Value}, WShape.hasItems R ds .int = true → WellAll P h vs ds → ∃ ns, RVs (ilst ns) vs ∧ ns.length = ds.length
  | [], vs, _, hw => by cases hw; exact ⟨[], trivial, rfl⟩
  | d :: ds, vs, hi, hw => by
    rw [WShape.hasItems, Bool.and_eq_true] at hi
    obtain ⟨i, rfl⟩ := hasW_int hi.1
    cases hw with
    | cons h1 h2 =>
      obtain ⟨ns, hr, hl⟩ := ints_well hi.2 h2
      cases h1 with
      | int i t => exact ⟨i :: ns, ⟨.int i t, hr⟩, by simp [hl]⟩
theorem walk : WalkO qq lsN (XL qq []) (Hook.says (kHook KK kAs kAs_ok)) PySem.Challenge.rw_pq0290_01.row.toRowW dLaw [] fun f vs => PySem.call f vs := by
  intro w s₀ s₁ mg mb G Y a o pm cd doc dV kV ho hd hcd hD hg hgens args vals as hpre hlay hrd hwl hlo
  have X : (KK w.params).In s₁.heap := kIn_of Y
  have e1 := mg_of X G.T.g (show nsIn (KK w.params) mainGlobals (Str.ofString "law") = some (some (.ref 717)) by kernel_rfl)
  have e2 : mg (Str.ofString "law") = some (.ref a) := hg
  obtain rfl : 717 = a := by rw [e1] at e2; cases e2; rfl
  obtain ⟨hs, _⟩ := pre_splitW hpre
  obtain ⟨d, r, rfl, hd1, hd2⟩ := hasAllW_cons hs
  obtain rfl := hasAllW_nil hd2
  obtain ⟨ds, rfl, hit⟩ := hasW_list hd1
  have hlen : ds.length ≤ 1048576 := length_le_of_layableW (layW_cons hlay).1
  cases hwl with
  | cons h1 h2 =>
    cases h2
    cases h1 with
    | list hl hw =>
      obtain ⟨ns, hr, hn⟩ := ints_well hit hw
      refine wpAny_call (codeAny_mono (law_runs (prog := PySem.Challenge.rw_pq0290_01.row.toRowW.prog) (w := w) (A := callerA) (s := s₁) ⟨rfl, by decide +kernel, by decide +kernel⟩ ⟨X, _, _, _, _, topRead_of G.T⟩ hl hr (by rw [hn]; exact hlen)) fun r s' h => ?_)
      obtain ⟨rfl, kept, same⟩ := h
      refine ⟨.inl ⟨_, .bool true, [], rfl, ?_, .bool true, ?_, fun _ => ⟨List.nodup_nil, nofun⟩⟩, .of_keep kept, same.2.2, ?_⟩
      · exact fun cls => rfl
      · kernel_rfl
      · exact .of_eq (same.1.trans hgens)
end Mine
end
set_option maxRecDepth 100000 in
theorem PySem.Challenge.cw_pq0290_01_holds : PySem.Challenge.rw_pq0290_01.Holds := by
  exact Mine.hd Mine.walk ⟨[.list [.int 3, .int 1]], by decide +kernel, by decide +kernel⟩
