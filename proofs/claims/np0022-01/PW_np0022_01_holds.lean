import PyProof.Rows.All
import Wide.All
import OpenK.AllK
import Wide.FinOn
import PySem.Challenge.RW_np0022_01
open PySem PySem.W PyProof.Rows PySem.Calls
set_option Elab.async false
namespace Mine
-- KK
noncomputable def stA (i : Nat) : Stmt := match PySem.Challenge.rw_np0022_01.row.prog.main.body.drop i with
  | s :: _ => s
  | [] => .Pass default
noncomputable def mtA (i : Nat) : Stmt := match stA 21 with
  | .ClassDef _ _ _ b _ _ _ _ _ _ _ => match b.drop i with
    | s :: _ => s
    | [] => .Pass default
  | s => s
noncomputable def fnO (s : Stmt) (q : Str) (dflt mod : Value) (code : Addr) : Obj := match s with
  | .FunctionDef name args body _ _ _ scope _ _ _ => { cls := .type "function", data := .func { name := name, qualname := q, params := args, body := .stmts body, scope := scope, globals := 3, closure := [], defaults := dflt, kwdefaults := .none, pyModule := mod, code := .ref code } }
  | _ => { cls := .none }
noncomputable def tuO (vs : List Value) : Obj := { cls := .type "tuple", data := .seq vs.toArray }
noncomputable def coO (name q : Str) (t : Tok) (line n : Int) (a b : Addr) (x y : Value) (d : Addr) (k : Int) (u : Tok) : Obj :=
  { cls := .type "code", data := .fields #[.str name t, .str q (t + 1), .str (Str.ofString "/claim/cut.py") (t + 2), .int line 0, .int n 0, .int 0 0, .int 0 0, .int 3 0, .ref a, .bool true, .int 181 0, .ref b, .none, x, y, .ref d, .int k 0, .int line 0, .str (Str.ofString "/claim/cut.py") u] }
noncomputable def en (P : Params) (x : Str) (t : Tok) (v : Value) : DictEntry := { hash := PyData.keyHash P x, key := .str x t, val := v }
noncomputable def diO (es : List DictEntry) (n : Nat) : Obj := { cls := .type "dict", data := .dict es.toArray n }
noncomputable def topK (P : Params) : Frag :=
  (2, ({ cls := Value.none, data := Data.dict #[] } : Obj)) ::
  (3, diO (en P (Str.ofString "__name__") 165 (Value.str (Str.ofString "law_np0022_01") 392) :: en P (Str.ofString "__doc__") 166 (Value.none) :: en P (Str.ofString "__package__") 167 (Value.none) :: en P (Str.ofString "__loader__") 168 (Value.builtin "__main__.__loader__#opaque") :: en P (Str.ofString "__spec__") 169 (Value.none) :: en P (Str.ofString "__annotations__") 170 (Value.ref 6) :: en P (Str.ofString "__builtins__") 171 (Value.ref 4) :: en P (Str.ofString "__file__") 173 (Value.str (Str.ofString "/claim/cut.py") 172) :: en P (Str.ofString "__cached__") 174 (Value.none) :: en P (Str.ofString "NEWLINE") 190 (Value.int 10 189) :: en P (Str.ofString "SPACE") 192 (Value.int 32 191) :: en P (Str.ofString "TAB") 194 (Value.int 9 193) :: en P (Str.ofString "BLANKS") 195 (Value.ref 15) :: en P (Str.ofString "line_start") 204 (Value.ref 22) :: en P (Str.ofString "line_end") 213 (Value.ref 29) :: en P (Str.ofString "next_start") 222 (Value.ref 36) :: en P (Str.ofString "lines_target") 233 (Value.ref 43) :: en P (Str.ofString "beginning_target") 242 (Value.ref 50) :: en P (Str.ofString "ending_target") 251 (Value.ref 57) :: en P (Str.ofString "DELETE") 255 (Value.int 127 254) :: en P (Str.ofString "width_at") 264 (Value.ref 64) :: en P (Str.ofString "column_of_codes") 274 (Value.ref 71) :: en P (Str.ofString "column_at") 285 (Value.ref 78) :: en P (Str.ofString "place_at") 298 (Value.ref 85) :: en P (Str.ofString "indentation_at") 309 (Value.ref 92) :: en P (Str.ofString "blanks_to") 320 (Value.ref 99) :: en P (Str.ofString "forced_place") 335 (Value.ref 106) :: en P (Str.ofString "TextRow") 391 (Value.ref 145) :: en P (Str.ofString "_law_draw") 402 (Value.ref 156) :: en P (Str.ofString "_law_deck_of") 408 (Value.ref 161) :: en P (Str.ofString "_law_one") 416 (Value.ref 168) :: en P (Str.ofString "_law_some_codes") 422 (Value.ref 173) :: en P (Str.ofString "_law_wide") 431 (Value.ref 180) :: en P (Str.ofString "_law_columns") 441 (Value.ref 187) :: en P (Str.ofString "_law_moved") 447 (Value.ref 192) :: en P (Str.ofString "law") 453 (Value.ref 197) :: []) 36) ::
  (15, tuO [Value.int 32 191, Value.int 9 193]) ::
  (16, tuO []) ::
  (18, tuO [Value.str (Str.ofString "view") 199, Value.str (Str.ofString "place") 200, Value.str (Str.ofString "at") 201]) ::
  (19, tuO []) ::
  (21, coO (Str.ofString "line_start") (Str.ofString "line_start") 196 6 2 16 17 (Value.ref 18) (Value.ref 19) 20 202 203) ::
  (22, fnO (stA 5) (Str.ofString "line_start") (Value.none) (Value.str (Str.ofString "emacs.lines") 187) 21) ::
  (23, tuO []) ::
  (25, tuO [Value.str (Str.ofString "view") 208, Value.str (Str.ofString "place") 209, Value.str (Str.ofString "at") 210]) ::
  (26, tuO []) ::
  (28, coO (Str.ofString "line_end") (Str.ofString "line_end") 205 11 2 23 24 (Value.ref 25) (Value.ref 26) 27 211 212) ::
  (29, fnO (stA 6) (Str.ofString "line_end") (Value.none) (Value.str (Str.ofString "emacs.lines") 187) 28) ::
  (30, tuO []) ::
  (32, tuO [Value.str (Str.ofString "view") 217, Value.str (Str.ofString "place") 218, Value.str (Str.ofString "at") 219]) ::
  (33, tuO []) ::
  (35, coO (Str.ofString "next_start") (Str.ofString "next_start") 214 16 2 30 31 (Value.ref 32) (Value.ref 33) 34 220 221) ::
  (36, fnO (stA 7) (Str.ofString "next_start") (Value.none) (Value.str (Str.ofString "emacs.lines") 187) 35) ::
  (37, tuO []) ::
  (39, tuO [Value.str (Str.ofString "view") 226, Value.str (Str.ofString "place") 227, Value.str (Str.ofString "many") 228, Value.str (Str.ofString "at") 229, Value.str (Str.ofString "following") 230]) ::
  (40, tuO []) ::
  (42, coO (Str.ofString "lines_target") (Str.ofString "lines_target") 223 19 3 37 38 (Value.ref 39) (Value.ref 40) 41 231 232) ::
  (43, fnO (stA 8) (Str.ofString "lines_target") (Value.none) (Value.str (Str.ofString "emacs.lines") 187) 42) ::
  (44, tuO []) ::
  (46, tuO [Value.str (Str.ofString "view") 237, Value.str (Str.ofString "place") 238, Value.str (Str.ofString "many") 239]) ::
  (47, tuO []) ::
  (49, coO (Str.ofString "beginning_target") (Str.ofString "beginning_target") 234 34 3 44 45 (Value.ref 46) (Value.ref 47) 48 240 241) ::
  (50, fnO (stA 9) (Str.ofString "beginning_target") (Value.none) (Value.str (Str.ofString "emacs.lines") 187) 49) ::
  (51, tuO []) ::
  (53, tuO [Value.str (Str.ofString "view") 246, Value.str (Str.ofString "place") 247, Value.str (Str.ofString "many") 248]) ::
  (54, tuO []) ::
  (56, coO (Str.ofString "ending_target") (Str.ofString "ending_target") 243 36 3 51 52 (Value.ref 53) (Value.ref 54) 55 249 250) ::
  (57, fnO (stA 10) (Str.ofString "ending_target") (Value.none) (Value.str (Str.ofString "emacs.lines") 187) 56) ::
  (58, tuO []) ::
  (60, tuO [Value.str (Str.ofString "code") 259, Value.str (Str.ofString "column") 260, Value.str (Str.ofString "width") 261]) ::
  (61, tuO []) ::
  (63, coO (Str.ofString "width_at") (Str.ofString "width_at") 256 40 3 58 59 (Value.ref 60) (Value.ref 61) 62 262 263) ::
  (64, fnO (stA 13) (Str.ofString "width_at") (Value.none) (Value.str (Str.ofString "emacs.columns") 252) 63) ::
  (65, tuO []) ::
  (67, tuO [Value.str (Str.ofString "codes") 268, Value.str (Str.ofString "column") 269, Value.str (Str.ofString "width") 270, Value.str (Str.ofString "code") 271]) ::
  (68, tuO []) ::
  (70, coO (Str.ofString "column_of_codes") (Str.ofString "column_of_codes") 265 46 3 65 66 (Value.ref 67) (Value.ref 68) 69 272 273) ::
  (71, fnO (stA 14) (Str.ofString "column_of_codes") (Value.none) (Value.str (Str.ofString "emacs.columns") 252) 70) ::
  (72, tuO []) ::
  (74, tuO [Value.str (Str.ofString "view") 278, Value.str (Str.ofString "place") 279, Value.str (Str.ofString "width") 280, Value.str (Str.ofString "column") 281, Value.str (Str.ofString "at") 282]) ::
  (75, tuO []) ::
  (77, coO (Str.ofString "column_at") (Str.ofString "column_at") 275 50 3 72 73 (Value.ref 74) (Value.ref 75) 76 283 284) ::
  (78, fnO (stA 15) (Str.ofString "column_at") (Value.none) (Value.str (Str.ofString "emacs.columns") 252) 77) ::
  (79, tuO []) ::
  (81, tuO [Value.str (Str.ofString "view") 289, Value.str (Str.ofString "place") 290, Value.str (Str.ofString "column") 291, Value.str (Str.ofString "width") 292, Value.str (Str.ofString "at") 293, Value.str (Str.ofString "last") 294, Value.str (Str.ofString "reached") 295]) ::
  (82, tuO []) ::
  (84, coO (Str.ofString "place_at") (Str.ofString "place_at") 286 55 4 79 80 (Value.ref 81) (Value.ref 82) 83 296 297) ::
  (85, fnO (stA 16) (Str.ofString "place_at") (Value.none) (Value.str (Str.ofString "emacs.columns") 252) 84) ::
  (86, tuO []) ::
  (88, tuO [Value.str (Str.ofString "view") 302, Value.str (Str.ofString "place") 303, Value.str (Str.ofString "width") 304, Value.str (Str.ofString "at") 305, Value.str (Str.ofString "column") 306]) ::
  (89, tuO []) ::
  (91, coO (Str.ofString "indentation_at") (Str.ofString "indentation_at") 299 63 3 86 87 (Value.ref 88) (Value.ref 89) 90 307 308) ::
  (92, fnO (stA 17) (Str.ofString "indentation_at") (Value.none) (Value.str (Str.ofString "emacs.columns") 252) 91) ::
  (93, tuO []) ::
  (95, tuO [Value.str (Str.ofString "column") 313, Value.str (Str.ofString "wanted") 314, Value.str (Str.ofString "width") 315, Value.str (Str.ofString "has_tabs") 316, Value.str (Str.ofString "tabs") 317]) ::
  (96, tuO []) ::
  (98, coO (Str.ofString "blanks_to") (Str.ofString "blanks_to") 310 70 4 93 94 (Value.ref 95) (Value.ref 96) 97 318 319) ::
  (99, fnO (stA 18) (Str.ofString "blanks_to") (Value.none) (Value.str (Str.ofString "emacs.columns") 252) 98) ::
  (100, tuO []) ::
  (102, tuO [Value.str (Str.ofString "view") 324, Value.str (Str.ofString "place") 325, Value.str (Str.ofString "column") 326, Value.str (Str.ofString "width") 327, Value.str (Str.ofString "has_tabs") 328, Value.str (Str.ofString "at") 329, Value.str (Str.ofString "reached") 330, Value.str (Str.ofString "codes") 331, Value.str (Str.ofString "before") 332]) ::
  (103, tuO []) ::
  (105, coO (Str.ofString "forced_place") (Str.ofString "forced_place") 321 75 5 100 101 (Value.ref 102) (Value.ref 103) 104 333 334) ::
  (106, fnO (stA 19) (Str.ofString "forced_place") (Value.none) (Value.str (Str.ofString "emacs.columns") 252) 105) ::
  (114, tuO [Value.int 1 350]) ::
  (115, tuO []) ::
  (117, tuO [Value.str (Str.ofString "self") 354, Value.str (Str.ofString "codes") 355, Value.str (Str.ofString "place") 356]) ::
  (118, tuO []) ::
  (120, coO (Str.ofString "__init__") (Str.ofString "TextRow.__init__") 351 88 3 115 116 (Value.ref 117) (Value.ref 118) 119 357 358) ::
  (121, fnO (mtA 0) (Str.ofString "TextRow.__init__") (Value.ref 114) (Value.str (Str.ofString "emacs.textrow") 336) 120) ::
  (122, tuO []) ::
  (124, tuO [Value.str (Str.ofString "self") 363]) ::
  (125, tuO []) ::
  (127, coO (Str.ofString "begin") (Str.ofString "TextRow.begin") 360 92 1 122 123 (Value.ref 124) (Value.ref 125) 126 364 365) ::
  (128, fnO (mtA 1) (Str.ofString "TextRow.begin") (Value.none) (Value.str (Str.ofString "emacs.textrow") 336) 127) ::
  (129, tuO []) ::
  (131, tuO [Value.str (Str.ofString "self") 370]) ::
  (132, tuO []) ::
  (134, coO (Str.ofString "end") (Str.ofString "TextRow.end") 367 95 1 129 130 (Value.ref 131) (Value.ref 132) 133 371 372) ::
  (135, fnO (mtA 2) (Str.ofString "TextRow.end") (Value.none) (Value.str (Str.ofString "emacs.textrow") 336) 134) ::
  (136, tuO []) ::
  (138, tuO [Value.str (Str.ofString "self") 377, Value.str (Str.ofString "place") 378]) ::
  (139, tuO []) ::
  (141, coO (Str.ofString "code_at") (Str.ofString "TextRow.code_at") 374 98 2 136 137 (Value.ref 138) (Value.ref 139) 140 379 380) ::
  (142, fnO (mtA 3) (Str.ofString "TextRow.code_at") (Value.none) (Value.str (Str.ofString "emacs.textrow") 336) 141) ::
  (143, tuO [Value.str (Str.ofString "codes") 382, Value.str (Str.ofString "place") 383]) ::
  (144, diO (en P (Str.ofString "__module__") 345 (Value.str (Str.ofString "emacs.textrow") 336) :: en P (Str.ofString "__firstlineno__") 349 (Value.int 86 348) :: en P (Str.ofString "__init__") 359 (Value.ref 121) :: en P (Str.ofString "begin") 366 (Value.ref 128) :: en P (Str.ofString "end") 373 (Value.ref 135) :: en P (Str.ofString "code_at") 381 (Value.ref 142) :: en P (Str.ofString "__static_attributes__") 384 (Value.ref 143) :: en P (Str.ofString "__dict__") 386 (Value.ref 146) :: en P (Str.ofString "__weakref__") 388 (Value.ref 147) :: en P (Str.ofString "__doc__") 389 (Value.none) :: []) 4) ::
  (145, ({ cls := Value.type "type", data := Data.cls { name := Str.ofString "TextRow", bases := [Value.type "object"], mro := [Value.ref 145, Value.type "object"], ns := 144, qualname := Str.ofString "TextRow" }, slots := #[none, none, some (Value.str (Str.ofString "TextRow") 338), some (Value.str (Str.ofString "TextRow") 346), some (Value.builtin "object.__new__"), some (Value.bool true)] } : Obj)) ::
  (146, ({ cls := Value.type "getset_descriptor", data := Data.fields #[Value.str (Str.ofString "__dict__") 385, Value.ref 145, Value.builtin "function.__dict__", Value.builtin "function.__dict__#set"] } : Obj)) ::
  (147, ({ cls := Value.type "getset_descriptor", data := Data.fields #[Value.str (Str.ofString "__weakref__") 387, Value.ref 145, Value.builtin "ExceptionGroup.__weakref__", Value.none] } : Obj)) ::
  (150, tuO []) ::
  (152, tuO [Value.str (Str.ofString "_law_deck") 397, Value.str (Str.ofString "_law_many") 398, Value.str (Str.ofString "_law_found") 399]) ::
  (153, tuO []) ::
  (155, coO (Str.ofString "_law_draw") (Str.ofString "_law_draw") 394 103 2 150 151 (Value.ref 152) (Value.ref 153) 154 400 401) ::
  (156, fnO (stA 23) (Str.ofString "_law_draw") (Value.none) (Value.str (Str.ofString "law_np0022_01") 392) 155) ::
  (157, tuO []) ::
  (160, coO (Str.ofString "_law_deck_of") (Str.ofString "_law_deck_of") 403 112 1 157 158 (Value.none) (Value.none) 159 406 407) ::
  (161, fnO (stA 24) (Str.ofString "_law_deck_of") (Value.none) (Value.str (Str.ofString "law_np0022_01") 392) 160) ::
  (162, tuO []) ::
  (164, tuO [Value.str (Str.ofString "_law_deck") 412, Value.str (Str.ofString "_law_items") 413]) ::
  (165, tuO []) ::
  (167, coO (Str.ofString "_law_one") (Str.ofString "_law_one") 409 117 2 162 163 (Value.ref 164) (Value.ref 165) 166 414 415) ::
  (168, fnO (stA 25) (Str.ofString "_law_one") (Value.none) (Value.str (Str.ofString "law_np0022_01") 392) 167) ::
  (169, tuO []) ::
  (172, coO (Str.ofString "_law_some_codes") (Str.ofString "_law_some_codes") 417 119 3 169 170 (Value.none) (Value.none) 171 420 421) ::
  (173, fnO (stA 26) (Str.ofString "_law_some_codes") (Value.none) (Value.str (Str.ofString "law_np0022_01") 392) 172) ::
  (174, tuO []) ::
  (176, tuO [Value.str (Str.ofString "_law_code") 426, Value.str (Str.ofString "_law_column") 427, Value.str (Str.ofString "_law_width") 428]) ::
  (177, tuO []) ::
  (179, coO (Str.ofString "_law_wide") (Str.ofString "_law_wide") 423 121 3 174 175 (Value.ref 176) (Value.ref 177) 178 429 430) ::
  (180, fnO (stA 27) (Str.ofString "_law_wide") (Value.none) (Value.str (Str.ofString "law_np0022_01") 392) 179) ::
  (181, tuO []) ::
  (183, tuO [Value.str (Str.ofString "_law_line") 435, Value.str (Str.ofString "_law_width") 436, Value.str (Str.ofString "_law_found") 437, Value.str (Str.ofString "_law_sign") 438]) ::
  (184, tuO []) ::
  (186, coO (Str.ofString "_law_columns") (Str.ofString "_law_columns") 432 125 2 181 182 (Value.ref 183) (Value.ref 184) 185 439 440) ::
  (187, fnO (stA 28) (Str.ofString "_law_columns") (Value.none) (Value.str (Str.ofString "law_np0022_01") 392) 186) ::
  (188, tuO []) ::
  (191, coO (Str.ofString "_law_moved") (Str.ofString "_law_moved") 442 130 5 188 189 (Value.none) (Value.none) 190 445 446) ::
  (192, fnO (stA 29) (Str.ofString "_law_moved") (Value.none) (Value.str (Str.ofString "law_np0022_01") 392) 191) ::
  (193, tuO []) ::
  (196, coO (Str.ofString "law") (Str.ofString "law") 448 139 1 193 194 (Value.none) (Value.none) 195 451 452) ::
  (197, fnO (stA 30) (Str.ofString "law") (Value.none) (Value.str (Str.ofString "law_np0022_01") 392) 196) :: []
abbrev topA : List Addr := 2 :: 3 :: 15 :: 16 :: 18 :: 19 :: 21 :: 22 :: 23 :: 25 :: 26 :: 28 :: 29 :: 30 :: 32 :: 33 :: 35 :: 36 :: 37 :: 39 :: 40 :: 42 :: 43 :: 44 :: 46 :: 47 :: 49 :: 50 :: 51 :: 53 :: 54 :: 56 :: 57 :: 58 :: 60 :: 61 :: 63 :: 64 :: 65 :: 67 :: 68 :: 70 :: 71 :: 72 :: 74 :: 75 :: 77 :: 78 :: 79 :: 81 :: 82 :: 84 :: 85 :: 86 :: 88 :: 89 :: 91 :: 92 :: 93 :: 95 :: 96 :: 98 :: 99 :: 100 :: 102 :: 103 :: 105 :: 106 :: 114 :: 115 :: 117 :: 118 :: 120 :: 121 :: 122 :: 124 :: 125 :: 127 :: 128 :: 129 :: 131 :: 132 :: 134 :: 135 :: 136 :: 138 :: 139 :: 141 :: 142 :: 143 :: 144 :: 145 :: 146 :: 147 :: 150 :: 152 :: 153 :: 155 :: 156 :: 157 :: 160 :: 161 :: 162 :: 164 :: 165 :: 167 :: 168 :: 169 :: 172 :: 173 :: 174 :: 176 :: 177 :: 179 :: 180 :: 181 :: 183 :: 184 :: 186 :: 187 :: 188 :: 191 :: 192 :: 193 :: 196 :: 197 :: []

set_option maxRecDepth 100000

-- KH
theorem left_boot {p q : Program} {loose : List Str} {Xt : Shared → Bool} {α : Type} {Yf : Shared → α} {Ya : World → α} {N : Nat}
    (e : opening p = plainProg p.main.scope.names) (hN : Nat.ble 600 N = true) (f : ∀ s, fenceModules? p s = some s)
    (h : ∀ (w : World), (fun os => (topFrom treeTable p w N ⟨boot_heap w.params, Array.mk [], boot_drawn, boot_toks, os⟩).map (fun s => (openSeen q loose (importedModules p.main.body) Xt true s, Yf s))) = fun _ => some (openGood q loose, Ya w)) :
    LeftO p q loose Xt Yf Ya N := fun w => by
  obtain ⟨s₀, a, b⟩ := Option.map_eq_some_iff.mp (boot_open e hN f w)
  unfold openEnds
  rw [a]
  obtain ⟨h0, g0, d0, k0, os⟩ := s₀
  cases b
  exact congrFun (h w) os
noncomputable def q : Program := { PySem.Challenge.pw_np0022_01 with main := { PySem.Challenge.pw_np0022_01.main with body := [stA 30] } }
noncomputable abbrev hk : Hook := kHook topK topA (fun _ => by kernel_rfl)
abbrev loo : List Str := ["NEWLINE", "SPACE", "TAB", "BLANKS", "line_start", "line_end", "next_start", "lines_target", "beginning_target", "ending_target", "DELETE", "width_at", "column_of_codes", "column_at", "place_at", "indentation_at", "blanks_to", "forced_place", "TextRow", "_law_draw", "_law_deck_of", "_law_one", "_law_some_codes", "_law_wide", "_law_columns", "_law_moved"]
noncomputable abbrev xt : Shared → Bool := fun s => xlAt q [] s && recOk [] s
theorem top_ok : ∀ (w : World), (fun os => (topFrom treeTable PySem.Challenge.pw_np0022_01 w 2238 ⟨boot_heap w.params, Array.mk [], boot_drawn, boot_toks, os⟩).map (fun s => (openSeen q loo (importedModules PySem.Challenge.pw_np0022_01.main.body) xt true s, hk.obs s))) = fun _ => some (openGood q loo, hk.val w) := fun w => by
  unfold topFrom
  rewrite [PySem.W.Fast.te14082659384304107361, PySem.W.Fast.te14364793385576792824, PySem.W.Fast.te4187177175401517315, PySem.W.Fast.te5923862056798008813, PySem.W.Fast.te8920871248978507458]
  kernel_rfl
theorem opening_ok : opening PySem.Challenge.pw_np0022_01 = plainProg PySem.Challenge.pw_np0022_01.main.scope.names := by kernel_rfl
theorem fence_ok : ∀ s, fenceModules? PySem.Challenge.pw_np0022_01 s = some s := fun s => by kernel_rfl
theorem left_ok : LeftO PySem.Challenge.pw_np0022_01 q loo xt hk.obs hk.val 2238 := left_boot opening_ok (by decide +kernel) fence_ok top_ok

-- W1
/-! plain functions on lists of codes: what the defs compute -/
/-- the start of the line in which offset o lies -/
def lsN (cs : List Int) : Nat → Nat
  | 0 => 0
  | o + 1 => if cs[o]? = some 10 then o + 1 else lsN cs o
/-- its end -/
def leN (cs : List Int) (o : Nat) : Nat := o + ((cs.drop o).takeWhile (fun x => decide (x ≠ 10))).length

theorem lsN_le (cs : List Int) : ∀ o, lsN cs o ≤ o
  | 0 => Nat.le_refl _
  | o + 1 => by
    unfold lsN
    split
    · exact Nat.le_refl _
    · exact Nat.le_succ_of_le (lsN_le cs o)
theorem leN_ge (cs : List Int) (o : Nat) : o ≤ leN cs o := Nat.le_add_right _ _
theorem takeWhile_len_le (p : Int → Bool) : ∀ l : List Int, (l.takeWhile p).length ≤ l.length
  | [] => Nat.le_refl _
  | a :: r => by
    rw [List.takeWhile_cons]
    split
    · simp only [List.length_cons]; exact Nat.succ_le_succ (takeWhile_len_le p r)
    · exact Nat.zero_le _
theorem leN_le (cs : List Int) {o : Nat} (h : o ≤ cs.length) : leN cs o ≤ cs.length := by
  unfold leN
  have := takeWhile_len_le (fun x => decide (x ≠ 10)) (cs.drop o)
  rw [List.length_drop] at this
  (first | lia | omega)
theorem leN_step {cs : List Int} {o : Nat} {x : Int} (h : cs[o]? = some x) (hx : x ≠ 10) : leN cs o = leN cs (o + 1) := by
  unfold leN
  have ho : o < cs.length := by
    rcases Nat.lt_or_ge o cs.length with q | q
    · exact q
    · rw [List.getElem?_eq_none q] at h; cases h
  have : cs.drop o = x :: cs.drop (o + 1) := by
    rw [List.drop_eq_getElem_cons ho]
    congr 1
    rw [List.getElem?_eq_getElem ho] at h
    exact Option.some.inj h
  rw [this, List.takeWhile_cons, if_pos (by simpa using hx), List.length_cons]
  (first | lia | omega)
theorem leN_stop {cs : List Int} {o : Nat} (h : cs[o]? = some 10 ∨ cs.length ≤ o) : leN cs o = o := by
  unfold leN
  rcases h with h | h
  · have ho : o < cs.length := by
      rcases Nat.lt_or_ge o cs.length with q | q
      · exact q
      · rw [List.getElem?_eq_none q] at h; cases h
    have : cs.drop o = 10 :: cs.drop (o + 1) := by
      rw [List.drop_eq_getElem_cons ho]
      congr 1
      rw [List.getElem?_eq_getElem ho] at h
      exact Option.some.inj h
    rw [this, List.takeWhile_cons, if_neg (by decide)]
    rfl
  · rw [List.drop_eq_nil_of_le h]; rfl

/-- many lines back from the start o of a line -/
def goUp (cs : List Int) : Nat → Nat → Nat × Int
  | o, 0 => (o, 0)
  | o, n + 1 => if o = 0 then (0, -((n : Int) + 1)) else goUp cs (lsN cs (o - 1)) n
/-- many lines on from o -/
def goDown (cs : List Int) : Nat → Nat → Nat × Int
  | o, 0 => (o, 0)
  | o, n + 1 => if leN cs o < cs.length then goDown cs (leN cs o + 1) n else (cs.length, (n : Int) + 1 - (if o < cs.length then 1 else 0))
/-- lines_target, by offsets -/
def tgt (cs : List Int) (o : Nat) (many : Int) : Nat × Int := if many ≤ 0 then goUp cs (lsN cs o) (-many).toNat else goDown cs o many.toNat
theorem goUp_le (cs : List Int) : ∀ n o, (goUp cs o n).1 ≤ o
  | 0, _ => Nat.le_refl _
  | n + 1, o => by
    unfold goUp
    split
    · exact Nat.zero_le _
    · have := goUp_le cs n (lsN cs (o - 1))
      have := lsN_le cs (o - 1)
      (first | lia | omega)
theorem goDown_le (cs : List Int) : ∀ n o, o ≤ cs.length → (goDown cs o n).1 ≤ cs.length
  | 0, _, h => h
  | n + 1, o, h => by
    unfold goDown
    split
    · exact goDown_le cs n _ (by (first | lia | omega))
    · exact Nat.le_refl _
theorem tgt_le (cs : List Int) {o : Nat} (many : Int) (h : o ≤ cs.length) : (tgt cs o many).1 ≤ cs.length := by
  unfold tgt
  split
  · have := goUp_le cs (-many).toNat (lsN cs o)
    have := lsN_le cs o
    (first | lia | omega)
  · exact goDown_le cs _ o h

/-- how many columns a code takes -/
def wdt (x col w : Int) : Int := if x = 9 then w - col.fmod w else if x < 32 ∨ x = 127 then 2 else if 127 < x ∧ x < 160 then 4 else 1
def foldCol (l : List Int) (col w : Int) : Int := l.foldl (fun c x => c + wdt x c w) col
def foldColN (l : List Int) (col w : Int) : Int := l.foldl (fun c x => if x = 10 then 0 else c + wdt x c w) col
/-- how far in the line l, until the column -/
def reach : List Int → Int → Int → Int → Nat × Int
  | [], c, _, _ => (0, c)
  | x :: r, c, want, w => if c < want then ((reach r (c + wdt x c w) want w).1 + 1, (reach r (c + wdt x c w) want w).2) else (0, c)
def bareN (l : List Int) : List Int := l.takeWhile fun x => decide (x = 32 ∨ x = 9)
def blanksL (col wanted w : Int) (tabs : Bool) : List Int :=
  let t := if tabs = true ∧ col < wanted then wanted.fdiv w - col.fdiv w else 0
  if 0 < t then List.replicate t.toNat 9 ++ List.replicate (wanted.fmod w).toNat 32 else List.replicate (if wanted - col > 0 then wanted - col else 0).toNat 32

-- M1
/-- the program that the model runs -/
abbrev PR : Program := PySem.Challenge.rw_np0022_01.row.prog

/-- what stands at the call of law and never changes -/
structure Gd where
  w : World
  hb : Heap
  mg : Str → Option Value
  mb : Str → Option Value
  kin : (Mine.topK w.params).In hb
  g : hb.Ns mainGlobals mg
  b : hb.Ns builtinsNs mb
  nolimit : hb.NoLimit
  builtins : ∀ x : Str, x ≠ "__name__" → mb x = bootBuiltins x

/-- plain data -/
inductive V where
  | none
  | bool (b : Bool)
  | int (n : Int)
  | str (s : List Nat)
  | list (xs : List V)
  | tup (xs : List V)
  | view (xs : List V) (first : Int)
  | rng (a b : Int)
  | raw (w : Value)

/-- objects that are never changed again -/
abbrev Sto := Addr → Option Obj

/-- the class TextRow's address -/
abbrev CT : Addr := 145

mutual
inductive Rep (C : Addr) (F : Sto) : Value → V → Prop
  | none : Rep C F .none .none
  | bool (b : Bool) : Rep C F (.bool b) (.bool b)
  | int (n : Int) (t : Tok) : Rep C F (.int n t) (.int n)
  | str (s : List Nat) (t : Tok) : Rep C F (.str ⟨s.toArray⟩ t) (.str s)
  | raw (w : Value) : Rep C F w (.raw w)
  | list {a : Addr} {vs : List Value} {n : Nat} {xs : List V} : F a = some { cls := .type "list", data := .seq vs.toArray n } → Reps C F vs xs → Rep C F (.ref a) (.list xs)
  | tup {a : Addr} {vs : List Value} {n : Nat} {xs : List V} : F a = some { cls := .type "tuple", data := .seq vs.toArray n } → Reps C F vs xs → Rep C F (.ref a) (.tup xs)
  | view {x dx : Addr} {h1 h2 : Int} {t1 t2 t3 : Tok} {l : Value} {first : Int} {xs : List V} {n : Nat} : F x = some (instObj C dx) →
      F dx = some (dictOf [⟨h1, .str "codes" t1, l⟩, ⟨h2, .str "place" t2, .int first t3⟩] n) → Rep C F l (.list xs) → Rep C F (.ref x) (.view xs first)
  | rng {r : Addr} {a b : Int} {t u v : Tok} : F r = some { cls := .type "range", data := .fields #[.int a t, .int b u, .int 1 v] } → Rep C F (.ref r) (.rng a b)
inductive Reps (C : Addr) (F : Sto) : List Value → List V → Prop
  | nil : Reps C F [] []
  | cons {v : Value} {x : V} {vs : List Value} {xs : List V} : Rep C F v x → Reps C F vs xs → Reps C F (v :: vs) (x :: xs)
end

mutual
theorem Rep.mono {C : Addr} {F F' : Sto} (k : ∀ a o, F a = some o → F' a = some o) : ∀ {v : Value} {x : V}, Rep C F v x → Rep C F' v x
  | _, _, .none => .none
  | _, _, .bool b => .bool b
  | _, _, .int n t => .int n t
  | _, _, .str s t => .str s t
  | _, _, .raw w => .raw w
  | _, _, .list e r => .list (k _ _ e) (Reps.mono k r)
  | _, _, .tup e r => .tup (k _ _ e) (Reps.mono k r)
  | _, _, .view e e2 r => .view (k _ _ e) (k _ _ e2) (Rep.mono k r)
  | _, _, .rng e => .rng (k _ _ e)
theorem Reps.mono {C : Addr} {F F' : Sto} (k : ∀ a o, F a = some o → F' a = some o) : ∀ {v : List Value} {x : List V}, Reps C F v x → Reps C F' v x
  | _, _, .nil => .nil
  | _, _, .cons e r => .cons (Rep.mono k e) (Reps.mono k r)
end

theorem Reps.length {C : Addr} {F : Sto} : ∀ {vs : List Value} {xs : List V}, Reps C F vs xs → vs.length = xs.length
  | _, _, .nil => rfl
  | _, _, .cons _ r => by rw [List.length_cons, List.length_cons, r.length]
theorem Reps.get {C : Addr} {F : Sto} : ∀ {vs : List Value} {xs : List V}, Reps C F vs xs → ∀ {i : Nat} {x : V}, xs[i]? = some x → ∃ v, vs[i]? = some v ∧ Rep C F v x
  | _, _, .nil, _, _, e => by simp at e
  | _, _, .cons (v := v) h r, 0, _, e => by simp at e; subst e; exact ⟨v, rfl, h⟩
  | _, _, .cons h r, i + 1, _, e => by
    obtain ⟨v, e1, e2⟩ := r.get (i := i) (by simpa using e)
    exact ⟨v, by simpa using e1, e2⟩
theorem Reps.append {C : Addr} {F : Sto} {us : List Value} {ys : List V} (g : Reps C F us ys) : ∀ {vs : List Value} {xs : List V}, Reps C F vs xs → Reps C F (vs ++ us) (xs ++ ys)
  | _, _, .nil => g
  | _, _, .cons h r => .cons h (Reps.append g r)

/-- a frame in which code runs -/
structure Fc where
  g : Gd

  env : Env
  D : Option Addr
  own : List Addr
  kf : env.scope.kind = .function
  gl : env.globals = mainGlobals
  bl : env.builtins = builtinsNs

def Fc.Mut (c : Fc) (a : Addr) : Prop := a = c.env.locals ∨ c.D = some a ∨ a ∈ c.own

abbrev Rho := List (Str × V)

def VarAt (c : Fc) (F : Sto) (h : Heap) (m : Str → Option Value) (x : Str) (v : V) : Prop :=
  (c.env.kindOf x = some .local ∧ ∃ w, m x = some w ∧ Rep CT F w v) ∨
  (c.env.kindOf x = some .cell ∧ ∃ a o w, c.env.cells.lookup x = some a ∧ h.get? a = some o ∧ o.data = .cell (some w) ∧ Rep CT F w v)

structure Sta (c : Fc) (F : Sto) (ρ : Rho) (dk : List Int) (h : Heap) : Prop where
  base : ∀ a o, c.g.hb.get? a = some o → F a = some o
  sub : ∀ a o, F a = some o → h.get? a = some o
  mt : ∀ a, c.Mut a → F a = none ∧ ∃ o, h.get? a = some o
  deck : ∀ D, c.D = some D → ∃ vs n, h.get? D = some { cls := .type "list", data := .seq (List.toArray vs) n } ∧ IntsAre vs dk
  ns : ∃ m, h.Ns c.env.locals m ∧ ∀ x v, ρ.lookup x = some v → VarAt c F h m x v
  cel : ∀ a ∈ c.own, ∃ o u, h.get? a = some o ∧ o.data = .cell u

structure NxM (M : Addr → Prop) (F F' : Sto) (h h' : Heap) : Prop where
  sub : ∀ a o, F a = some o → F' a = some o
  out : ∀ a o, h.get? a = some o → F a = none → F' a = none
  keep : ∀ a o, h.get? a = some o → ¬ M a → h'.get? a = some o
  live : ∀ a o, h.get? a = some o → ∃ o', h'.get? a = some o'

theorem NxM.refl {M : Addr → Prop} {F : Sto} {h : Heap} : NxM M F F h h := ⟨fun _ _ e => e, fun _ _ _ e => e, fun _ _ e _ => e, fun _ o e => ⟨o, e⟩⟩
theorem NxM.trans {M : Addr → Prop} {F F' F'' : Sto} {h h' h'' : Heap} (x : NxM M F F' h h') (y : NxM M F' F'' h' h'') : NxM M F F'' h h'' where
  sub := fun a o e => y.sub a o (x.sub a o e)
  out := fun a o e n => by obtain ⟨o', e'⟩ := x.live a o e; exact y.out a o' e' (x.out a o e n)
  keep := fun a o e n => y.keep a o (x.keep a o e n) n
  live := fun a o e => by obtain ⟨o', e'⟩ := x.live a o e; exact y.live a o' e'
theorem NxM.weak {M M' : Addr → Prop} {F F' : Sto} {h h' : Heap} (x : NxM M F F' h h') (q : ∀ a, M a → M' a ∨ h.get? a = none) : NxM M' F F' h h' :=
  ⟨x.sub, x.out, fun a o e n => x.keep a o e fun z => (q a z).elim n fun z => (by rw [z] at e; cases e), x.live⟩
abbrev Nx (c : Fc) (F F' : Sto) (h h' : Heap) : Prop := NxM c.Mut F F' h h'
theorem Nx.refl {c : Fc} {F : Sto} {h : Heap} : Nx c F F h h := NxM.refl

structure Go (c : Fc) (F F' : Sto) (s s' : Shared) : Prop where
  st : ∃ h tk, s' = { s with heap := h, toks := tk }
  nx : Nx c F F' s.heap s'.heap
theorem Go.refl {c : Fc} {F : Sto} {s : Shared} : Go c F F s s := ⟨⟨s.heap, s.toks, rfl⟩, Nx.refl⟩
theorem Go.trans {c : Fc} {F F' F'' : Sto} {s s' s'' : Shared} (x : Go c F F' s s') (y : Go c F' F'' s' s'') : Go c F F'' s s'' := by
  refine ⟨?_, x.nx.trans y.nx⟩
  obtain ⟨h, t, rfl⟩ := x.st
  obtain ⟨h', t', rfl⟩ := y.st
  exact ⟨h', t', rfl⟩
theorem Go.of {c : Fc} {F F' : Sto} {s : Shared} {h : Heap} {tk : Nat} (x : Nx c F F' s.heap h) : Go c F F' s { s with heap := h, toks := tk } := ⟨⟨h, tk, rfl⟩, x⟩

/-- everything stays, F may grow -/
theorem Sta.grow {c : Fc} {F F' : Sto} {ρ : Rho} {dk : List Int} {h h' : Heap} (S : Sta c F ρ dk h) (k : ∀ a o, h.get? a = some o → h'.get? a = some o) (kF : ∀ a o, F a = some o → F' a = some o)
    (s' : ∀ a o, F' a = some o → h'.get? a = some o) (o' : ∀ a o, h.get? a = some o → F a = none → F' a = none) : Sta c F' ρ dk h' where
  base := fun a o e => kF a o (S.base a o e)
  sub := s'
  mt := fun a ha => by obtain ⟨e, o, ho⟩ := S.mt a ha; exact ⟨o' a o ho e, o, k a o ho⟩
  deck := fun D hD => by obtain ⟨vs, n, e, i⟩ := S.deck D hD; exact ⟨vs, n, k _ _ e, i⟩
  ns := by
    obtain ⟨m, hn, hv⟩ := S.ns
    refine ⟨m, hn.keeps k, fun x v e => ?_⟩
    rcases hv x v e with ⟨a, w, b, r⟩ | ⟨a, d, o, w, b1, b2, b3, r⟩
    · exact .inl ⟨a, w, b, r.mono kF⟩
    · exact .inr ⟨a, d, o, w, b1, k _ _ b2, b3, r.mono kF⟩
  cel := fun a ha => by obtain ⟨o, u, e, d⟩ := S.cel a ha; exact ⟨o, u, k _ _ e, d⟩
theorem Sta.mono {c : Fc} {F : Sto} {ρ : Rho} {dk : List Int} {h h' : Heap} (S : Sta c F ρ dk h) (k : ∀ a o, h.get? a = some o → h'.get? a = some o) : Sta c F ρ dk h' :=
  S.grow k (fun _ _ e => e) (fun a o e => k a o (S.sub a o e)) fun _ _ _ e => e
theorem Nx.mono {c : Fc} {F : Sto} {h h' : Heap} (k : ∀ a o, h.get? a = some o → h'.get? a = some o) : Nx c F F h h' := ⟨fun _ _ e => e, fun _ _ _ e => e, fun a o e _ => k a o e, fun a o e => ⟨o, k a o e⟩⟩

def ins (F : Sto) (n : Addr) (o : Obj) : Sto := fun a => if a = n then some o else F a
theorem ins_same {F : Sto} {n : Addr} {o : Obj} : ins F n o n = some o := by simp [ins]
theorem ins_ne {F : Sto} {n a : Addr} {o : Obj} (h : a ≠ n) : ins F n o a = F a := by simp [ins, h]

theorem get_none {h : Heap} {n : Addr} (hn : h.objs.size ≤ n) : h.get? n = none := by
  cases e : h.get? n with
  | none => rfl
  | some o => exact absurd (Heap.lt_size e) (Nat.not_lt.mpr hn)

/-- one new object enters F: the heap keeps all that was -/
theorem Sta.new {c : Fc} {F : Sto} {ρ : Rho} {dk : List Int} {h h' : Heap} {n : Addr} {o : Obj} (S : Sta c F ρ dk h) (k : ∀ a o, h.get? a = some o → h'.get? a = some o) (hn : h.get? n = none) (ho : h'.get? n = some o) :
    Sta c (ins F n o) ρ dk h' ∧ Nx c F (ins F n o) h h' := by
  have hF : F n = none := by
    cases e : F n with
    | none => rfl
    | some o' => rw [S.sub n o' e] at hn; cases hn
  have k1 : ∀ a o₁, F a = some o₁ → ins F n o a = some o₁ := fun a o₁ e => by
    rw [ins_ne]; exact e
    rintro rfl; rw [hF] at e; cases e
  have k2 : ∀ a o₁, h.get? a = some o₁ → F a = none → ins F n o a = none := fun a o₁ e e' => by
    rw [ins_ne]; exact e'
    rintro rfl; rw [hn] at e; cases e
  refine ⟨S.grow k k1 (fun a o₁ e => ?_) k2, k1, k2, fun a o₁ e _ => k a o₁ e, fun a o₁ e => ⟨o₁, k a o₁ e⟩⟩
  by_cases q : a = n
  · subst q; rw [ins_same] at e; cases e; exact ho
  · rw [ins_ne q] at e; exact k a o₁ (S.sub a o₁ e)

theorem Sta.push {c : Fc} {F : Sto} {ρ : Rho} {dk : List Int} {h : Heap} (S : Sta c F ρ dk h) (o : Obj) (hf : o.isFreed = false := by rfl) :
    Sta c (ins F h.objs.size o) ρ dk (h.push o) ∧ Nx c F (ins F h.objs.size o) h (h.push o) :=
  S.new (fun _ _ e => Heap.get?_push_of_some _ e) (get_none (Nat.le_refl _)) (Heap.get?_push_size _ hf)

structure Room (A : Around) (k : Nat) : Prop where
  hd : A.handled = none
  dp : A.depth + 2 * k < recursionLimit
  un : A.units + 20 * k < cLine
theorem Room.le {A : Around} {k j : Nat} (R : Room A k) (h : j ≤ k) : Room A j := ⟨R.hd, by have := R.dp; (first | lia | omega), by have := R.un; (first | lia | omega)⟩
theorem Room.deeper {A : Around} {k : Nat} {env : Env} (R : Room A (k + 1)) : Room (A.deeper env) k := ⟨R.hd, by have := R.dp; simp only [Around.deeper]; (first | lia | omega), by have := R.un; simp only [Around.deeper]; (first | lia | omega)⟩

/-- a tree of the frame's, told by a postcondition on plain data -/
def Wp (c : Fc) (k : Nat) {α β : Type} (R : Sto → α → β → Prop) (t : Sem α) (ρ : Rho) (dk : List Int) (P : β → List Int → Prop) : Prop :=
  ∀ (A : Around) (F : Sto) (s : Shared) (Q : α → Shared → Prop) (E : Value → Shared → Prop), Room A k → Sta c F ρ dk s.heap →
    (∀ F' s' x y dk', Go c F F' s s' → Sta c F' ρ dk' s'.heap → R F' x y → P y dk' → Q x s') → wpAny (model PR c.g.w) A t Q E s

abbrev WE (c : Fc) (k : Nat) (e : Expr) (ρ : Rho) (dk : List Int) (P : V → List Int → Prop) : Prop := Wp c k (Rep CT) (eval e c.env) ρ dk P
abbrev WT (c : Fc) (k : Nat) (e : Expr) (ρ : Rho) (dk : List Int) (P : Bool → List Int → Prop) : Prop := Wp c k (fun _ (b b' : Bool) => b = b') (isTrue e c.env (eval e c.env)) ρ dk P
/-- an operation on values -/
def OpN (c : Fc) (k : Nat) (t : List Value → Sem Value) (vs : List V) (dk : List Int) (P : V → List Int → Prop) : Prop :=
  ∀ (A : Around) (F : Sto) (ρ : Rho) (s : Shared) (Q : Value → Shared → Prop) (E : Value → Shared → Prop) (ws : List Value), Room A k → Sta c F ρ dk s.heap → Reps CT F ws vs →
    (∀ F' s' x y dk', Go c F F' s s' → Sta c F' ρ dk' s'.heap → Rep CT F' x y → P y dk' → Q x s') → wpAny (model PR c.g.w) A (t ws) Q E s
abbrev CallW (c : Fc) (k : Nat) (f : Value) (vs : List V) (dk : List Int) (P : V → List Int → Prop) : Prop := OpN c k (fun ws => call f ws) vs dk P
def Op2 (c : Fc) (k : Nat) (t : Value → Value → Sem Value) (v u : V) (dk : List Int) (P : V → List Int → Prop) : Prop :=
  ∀ (A : Around) (F : Sto) (ρ : Rho) (s : Shared) (Q : Value → Shared → Prop) (E : Value → Shared → Prop) (a b : Value), Room A k → Sta c F ρ dk s.heap → Rep CT F a v → Rep CT F b u →
    (∀ F' s' x y dk', Go c F F' s s' → Sta c F' ρ dk' s'.heap → Rep CT F' x y → P y dk' → Q x s') → wpAny (model PR c.g.w) A (t a b) Q E s

inductive Fl where
  | next | brk | cont
  | ret (v : V)
inductive FlRep (C : Addr) (F : Sto) : Flow → Fl → Prop
  | next : FlRep C F .next .next
  | brk : FlRep C F .brk .brk
  | cont : FlRep C F .cont .cont
  | ret {w : Value} {v : V} : Rep C F w v → FlRep C F (.ret w) (.ret v)

/-- statements -/
def Ws (c : Fc) (k : Nat) (t : Sem Flow) (ρ : Rho) (dk : List Int) (P : Fl → Rho → List Int → Prop) : Prop :=
  ∀ (A : Around) (F : Sto) (s : Shared) (Q : Flow → Shared → Prop) (E : Value → Shared → Prop), Room A k → Sta c F ρ dk s.heap →
    (∀ F' s' x y ρ' dk', Go c F F' s s' → Sta c F' ρ' dk' s'.heap → FlRep CT F' x y → P y ρ' dk' → Q x s') → wpAny (model PR c.g.w) A t Q E s
abbrev WS (c : Fc) (k : Nat) (ss : List Stmt) (ρ : Rho) (dk : List Int) (P : Fl → Rho → List Int → Prop) : Prop := Ws c k (execs ss c.env) ρ dk P
abbrev WX (c : Fc) (k : Nat) (st : Stmt) (ρ : Rho) (dk : List Int) (P : Fl → Rho → List Int → Prop) : Prop := Ws c k (exec st c.env) ρ dk P

-- M2
section
variable {c : Fc} {k : Nat} {ρ : Rho} {dk : List Int}

theorem Wp.mono {α β : Type} {R : Sto → α → β → Prop} {t : Sem α} {P P' : β → List Int → Prop} (h : Wp c k R t ρ dk P) (hp : ∀ y d, P y d → P' y d) : Wp c k R t ρ dk P' :=
  fun A F s Q E R S hQ => h A F s Q E R S fun F' s' x y dk' G S' r p => hQ F' s' x y dk' G S' r (hp _ _ p)
theorem Ws.mono {t : Sem Flow} {P P' : Fl → Rho → List Int → Prop} (h : Ws c k t ρ dk P) (hp : ∀ y r d, P y r d → P' y r d) : Ws c k t ρ dk P' :=
  fun A F s Q E R S hQ => h A F s Q E R S fun F' s' x y ρ' dk' G S' r p => hQ F' s' x y ρ' dk' G S' r (hp _ _ _ p)
theorem Sta.nsBase {F : Sto} {h : Heap} (S : Sta c F ρ dk h) : ∀ a o, c.g.hb.get? a = some o → h.get? a = some o := fun a o e => S.sub a o (S.base a o e)
theorem Sta.kin {F : Sto} {h : Heap} (S : Sta c F ρ dk h) : (Mine.topK c.g.w.params).In h := c.g.kin.keeps S.nsBase
theorem Go.tk {F : Sto} {s : Shared} {t : Nat} : Go c F F s { s with toks := t } := ⟨⟨s.heap, t, rfl⟩, Nx.refl⟩

-- names
theorem WE_var {x : Str} {pos : Pos} {v : V} {P : V → List Int → Prop} (hv : ρ.lookup x = some v) (h : P v dk) (hd : (x == ("__debug__" : Str)) = false := by decide) :
    WE c k (.Name x pos) ρ dk P := by
  intro A F s Q E R S hQ
  obtain ⟨m, hn, hm⟩ := S.ns
  rcases hm x v hv with ⟨hk, w, e, r⟩ | ⟨hk, a, o, w, e1, e2, e3, r⟩
  · exact wpAny_Name (wpAny_loadName_local c.kf hk hn e (hQ F s w v dk .refl S r h)) hd
  · exact wpAny_Name (wpAny_loadName_cell c.kf hk e1 ⟨o, e2, e3⟩ (hQ F s w v dk .refl S r h)) hd

/-- a name of the module's -/
theorem WE_glob {x : Str} {pos : Pos} {w : Value} {v : V} {P : V → List Int → Prop} (hx : c.env.kindOf x = some .globalImplicit) (e : c.g.mg x = some w) (r : ∀ F, (∀ a o, c.g.hb.get? a = some o → F a = some o) → Rep CT F w v) (h : P v dk)
    (hd : (x == ("__debug__" : Str)) = false := by decide) : WE c k (.Name x pos) ρ dk P := by
  intro A F s Q E R S hQ
  exact Name_function_global c.kf hx (loadGlobal_global (by rw [c.gl]; exact c.g.g.keeps S.nsBase) e (hQ F s w v dk .refl S (r F S.base) h)) hd
/-- a built-in name -/
theorem WE_blt {x : Str} {pos : Pos} {w : Value} {P : V → List Int → Prop} (hx : c.env.kindOf x = some .globalImplicit) (e : c.g.mg x = none) (hv : bootBuiltins x = some w) (hn : x ≠ "__name__") (h : P (.raw w) dk)
    (hd : (x == ("__debug__" : Str)) = false := by decide) : WE c k (.Name x pos) ρ dk P := by
  intro A F s Q E R S hQ
  exact Name_function_global c.kf hx (loadGlobal_builtin (by rw [c.gl]; exact c.g.g.keeps S.nsBase) e (by rw [c.bl]; exact c.g.b.keeps S.nsBase) ((c.g.builtins x hn).trans hv) (hQ F s w _ dk .refl S (.raw w) h)) hd

-- constants
theorem WE_int {i : Int} {kk : Nat} {pos : Pos} {P : V → List Int → Prop} (h : P (.int i) dk) : WE c k (.Constant (.int i) kk pos) ρ dk P := by
  intro A F s Q E R S hQ
  exact wpAny_Constant_int (hQ F _ _ _ dk .tk S (.int _ _) h)
theorem WE_str {x : Str} {kk : Nat} {pos : Pos} {P : V → List Int → Prop} (h : P (.str x.cps.toList) dk) : WE c k (.Constant (.str x) kk pos) ρ dk P := by
  intro A F s Q E R S hQ
  refine wpAny_Constant_str (hQ F _ _ _ dk .tk S ?_ h)
  exact .str x.cps.toList _
theorem WE_bool {b : Bool} {kk : Nat} {pos : Pos} {P : V → List Int → Prop} (h : P (.bool b) dk) : WE c k (.Constant (.bool b) kk pos) ρ dk P := by
  intro A F s Q E R S hQ
  exact wpAny_Constant_bool (hQ F _ _ _ dk .refl S (.bool _) h)

-- operators
theorem WE_bin {l r : Expr} {op : Operator} {pos : Pos} {P : V → List Int → Prop} (h : WE c k l ρ dk fun v d => WE c k r ρ d fun u d' => Op2 c k (binaryOp op) v u d' P) :
    WE c k (.BinOp l op r pos) ρ dk P := by
  intro A F s Q E R S hQ
  refine wpAny_BinOp (h A F s _ E R S fun F1 s1 a v d1 G1 S1 r1 p1 => p1 A F1 s1 _ E R S1 fun F2 s2 b u d2 G2 S2 r2 p2 => ?_)
  exact p2 A F2 ρ s2 Q E a b R S2 (r1.mono G2.nx.sub) r2 fun F3 s3 x y d3 G3 S3 r3 p3 => hQ F3 s3 x y d3 ((G1.trans G2).trans G3) S3 r3 p3
theorem WE_cmp {l r : Expr} {op : CmpOp} {pos : Pos} {P : V → List Int → Prop} (h : WE c k l ρ dk fun v d => WE c k r ρ d fun u d' => Op2 c k (compareOp op) v u d' P)
    (hm : behindInMarks op r = false := by with_unfolding_all rfl) : WE c k (.Compare l [op] [r] pos) ρ dk P := by
  intro A F s Q E R S hQ
  refine wpAny_Compare1 (h A F s _ E R S fun F1 s1 a v d1 G1 S1 r1 p1 => p1 A F1 s1 _ E R S1 fun F2 s2 b u d2 G2 S2 r2 p2 => ?_) hm
  exact p2 A F2 ρ s2 Q E a b R S2 (r1.mono G2.nx.sub) r2 fun F3 s3 x y d3 G3 S3 r3 p3 => hQ F3 s3 x y d3 ((G1.trans G2).trans G3) S3 r3 p3

variable {x y : Int} {P : V → List Int → Prop}
theorem op_add (h : P (.int (x + y)) dk) : Op2 c k (binaryOp .Add) (.int x) (.int y) dk P := by
  intro A F ρ s Q E a b R S r1 r2 hQ
  cases r1; cases r2; exact PyProof.Rows.add_int (hQ F _ _ _ dk .tk S (.int _ _) h)
theorem op_sub (h : P (.int (x - y)) dk) : Op2 c k (binaryOp .Sub) (.int x) (.int y) dk P := by
  intro A F ρ s Q E a b R S r1 r2 hQ
  cases r1; cases r2; exact PyProof.Rows.sub_int (hQ F _ _ _ dk .tk S (.int _ _) h)
theorem op_mul (hm : IntMulOk x y) (h : P (.int (x * y)) dk) : Op2 c k (binaryOp .Mult) (.int x) (.int y) dk P := by
  intro A F ρ s Q E a b R S r1 r2 hQ
  cases r1; cases r2; exact PyProof.Rows.mul_int (hQ F _ _ _ dk .tk S (.int _ _) h) hm
theorem op_mod (hb : y ≠ 0) (h : P (.int (x.fmod y)) dk) : Op2 c k (binaryOp .Mod) (.int x) (.int y) dk P := by
  intro A F ρ s Q E a b R S r1 r2 hQ
  cases r1; cases r2; exact PyProof.Rows.mod_int hb (hQ F _ _ _ dk .tk S (.int _ _) h)
theorem op_lt (h : P (.bool (decide (x < y))) dk) : Op2 c k (compareOp .Lt) (.int x) (.int y) dk P := by
  intro A F ρ s Q E a b R S r1 r2 hQ
  cases r1; cases r2; exact PyProof.Rows.lt_int (hQ F _ _ _ dk .refl S (.bool _) h)
theorem op_le (h : P (.bool (decide (x ≤ y))) dk) : Op2 c k (compareOp .LtE) (.int x) (.int y) dk P := by
  intro A F ρ s Q E a b R S r1 r2 hQ
  cases r1; cases r2; exact PyProof.Rows.le_int (hQ F _ _ _ dk .refl S (.bool _) h)
theorem op_gt (h : P (.bool (decide (y < x))) dk) : Op2 c k (compareOp .Gt) (.int x) (.int y) dk P := by
  intro A F ρ s Q E a b R S r1 r2 hQ
  cases r1; cases r2; exact PyProof.Rows.gt_int (hQ F _ _ _ dk .refl S (.bool _) h)
theorem op_ge (h : P (.bool (decide (y ≤ x))) dk) : Op2 c k (compareOp .GtE) (.int x) (.int y) dk P := by
  intro A F ρ s Q E a b R S r1 r2 hQ
  cases r1; cases r2; exact PyProof.Rows.ge_int (hQ F _ _ _ dk .refl S (.bool _) h)
theorem op_eq (h : P (.bool (x == y)) dk) : Op2 c k (compareOp .Eq) (.int x) (.int y) dk P := by
  intro A F ρ s Q E a b R S r1 r2 hQ
  cases r1; cases r2; exact PyProof.Rows.eq_int (hQ F _ _ _ dk .refl S (.bool _) h)
theorem op_ne (h : P (.bool (x != y)) dk) : Op2 c k (compareOp .NotEq) (.int x) (.int y) dk P := by
  intro A F ρ s Q E a b R S r1 r2 hQ
  cases r1; cases r2; exact PyProof.Rows.ne_int (hQ F _ _ _ dk .refl S (.bool _) h)
theorem op_eqs {x y : List Nat} (h : P (.bool (decide (x = y))) dk) : Op2 c k (compareOp .Eq) (.str x) (.str y) dk P := by
  intro A F ρ s Q E a b R S r1 r2 hQ
  cases r1; cases r2
  refine PyProof.Rows.eq_str (hQ F _ _ _ dk .refl S (.bool _) ?_)
  have e : ((⟨x.toArray⟩ : Str) == ⟨y.toArray⟩) = decide (x = y) := by
    by_cases q : x = y
    · subst q; simp
    · have : ¬ ((⟨x.toArray⟩ : Str) = ⟨y.toArray⟩) := fun z => q (by injection z with z; simpa using z)
      simp [q, this]
  rw [e]; exact h

-- unary, bool
theorem WE_neg {e : Expr} {pos : Pos} (h : WE c k e ρ dk fun v d => ∃ n, v = .int n ∧ P (.int (-n)) d) : WE c k (.UnaryOp .USub e pos) ρ dk P := by
  intro A F s Q E R S hQ
  refine wpAny_UnaryOp (h A F s _ E R S fun F1 s1 a v d1 G1 S1 r1 p1 => ?_)
  obtain ⟨n, rfl, p⟩ := p1
  cases r1
  exact PyProof.Rows.neg_int (hQ F1 _ _ _ d1 (G1.trans .tk) S1 (.int _ _) p)
theorem WE_if {t b o : Expr} {pos : Pos} (h : WT c k t ρ dk fun z d => (z = true → WE c k b ρ d P) ∧ (z = false → WE c k o ρ d P)) : WE c k (.IfExp t b o pos) ρ dk P := by
  intro A F s Q E R S hQ
  refine wpAny_IfExp (h A F s _ E R S fun F1 s1 a v d1 G1 S1 r1 p1 => ?_)
  subst r1
  cases a with
  | true => exact p1.1 rfl A F1 s1 Q E R S1 fun F2 s2 x y d2 G2 S2 r2 p2 => hQ F2 s2 x y d2 (G1.trans G2) S2 r2 p2
  | false => exact p1.2 rfl A F1 s1 Q E R S1 fun F2 s2 x y d2 G2 S2 r2 p2 => hQ F2 s2 x y d2 (G1.trans G2) S2 r2 p2

-- tests
theorem WT_cmp {l r : Expr} {op : CmpOp} {pos : Pos} {P : Bool → List Int → Prop} (h : WE c k l ρ dk fun v d => WE c k r ρ d fun u d' => Op2 c k (compareOp op) v u d' fun z d'' => ∃ b, z = .bool b ∧ P b d'')
    (hm : behindInMarks op r = false := by with_unfolding_all rfl) : WT c k (.Compare l [op] [r] pos) ρ dk P := by
  intro A F s Q E R S hQ
  refine wpAny_isTrue_Compare1 (h A F s _ E R S fun F1 s1 a v d1 G1 S1 r1 p1 => p1 A F1 s1 _ E R S1 fun F2 s2 b u d2 G2 S2 r2 p2 => ?_) hm
  refine p2 A F2 ρ s2 _ E a b R S2 (r1.mono G2.nx.sub) r2 fun F3 s3 x y d3 G3 S3 r3 p3 => ?_
  obtain ⟨z, rfl, p⟩ := p3
  cases r3
  exact wpAny_truthy_bool (hQ F3 s3 _ _ d3 ((G1.trans G2).trans G3) S3 rfl p)
theorem WT_not {e : Expr} {pos : Pos} {P : Bool → List Int → Prop} (h : WT c k e ρ dk fun b d => P (!b) d) : WT c k (.UnaryOp .Not e pos) ρ dk P := by
  intro A F s Q E R S hQ
  exact wpAny_isTrue_Not (h A F s _ E R S fun F1 s1 a v d1 G1 S1 r1 p1 => hQ F1 s1 _ _ d1 G1 S1 (by rw [r1]) p1)
theorem WT_and2 {a b : Expr} {pos : Pos} {P : Bool → List Int → Prop} (h : WT c k a ρ dk fun z d => (z = true → WT c k b ρ d P) ∧ (z = false → P false d)) : WT c k (.BoolOp .And [a, b] pos) ρ dk P := by
  intro A F s Q E R S hQ
  refine wpAny_isTrue_BoolOp (wpAny_allTrue_And_cons (h A F s _ E R S fun F1 s1 x v d1 G1 S1 r1 p1 => ?_))
  subst r1
  cases x with
  | true =>
    refine wpAny_allTrue_And_cons (p1.1 rfl A F1 s1 _ E R S1 fun F2 s2 x y d2 G2 S2 r2 p2 => ?_)
    subst r2
    cases x with
    | true => exact wpAny_allTrue_And_nil (hQ F2 s2 _ _ d2 (G1.trans G2) S2 rfl p2)
    | false => exact hQ F2 s2 _ _ d2 (G1.trans G2) S2 rfl p2
  | false => exact hQ F1 s1 _ _ d1 G1 S1 rfl (p1.2 rfl)
end

-- M3
section
variable {c : Fc} {k : Nat} {ρ : Rho} {dk : List Int}

/-- all that lives, but L, as a list -/
def allN (h : Heap) (L : Addr) : List (Addr × Obj) := (List.range h.objs.size).filterMap fun a => if a = L then none else (h.get? a).map fun o => (a, o)
theorem allN_mem {h : Heap} {L a : Addr} {o : Obj} (e : h.get? a = some o) (n : a ≠ L) : (a, o) ∈ allN h L :=
  List.mem_filterMap.mpr ⟨a, List.mem_range.mpr (Heap.lt_size e), by rw [if_neg n, e]; rfl⟩
theorem allN_of {h : Heap} {L : Addr} {p : Addr × Obj} (e : p ∈ allN h L) : h.get? p.1 = some p.2 ∧ p.1 ≠ L := by
  obtain ⟨a, _, e⟩ := List.mem_filterMap.mp e
  by_cases q : a = L
  · rw [if_pos q] at e; cases e
  · rw [if_neg q] at e
    cases g : h.get? a with
    | none => rw [g] at e; cases e
    | some o => rw [g] at e; cases e; exact ⟨g, q⟩
theorem emptyHeap_get (a : Addr) : ({} : Heap).get? a = none := by
  show (match (#[] : Array Obj)[a]? with | some ⟨_, _, .freed, _⟩ => none | o => o) = none
  simp
theorem allN_news {h : Heap} {L : Addr} : News ({} : Heap) L h (allN h L) := fun p hp => ⟨(allN_of hp).1, (allN_of hp).2, emptyHeap_get _⟩

theorem Sta.locals_obj {F : Sto} {h : Heap} (S : Sta c F ρ dk h) : ∃ o es ep, h.get? c.env.locals = some o ∧ o.data = .dict es ep := by
  obtain ⟨m, ⟨o, es, ep, ho, hd, _⟩, _⟩ := S.ns
  exact ⟨o, es, ep, ho, hd⟩
theorem Sta.deck_ne {F : Sto} {h : Heap} (S : Sta c F ρ dk h) {D : Addr} (hD : c.D = some D) : D ≠ c.env.locals := by
  rintro rfl
  obtain ⟨o, es, ep, ho, hd⟩ := S.locals_obj
  obtain ⟨vs, n, e, _⟩ := S.deck _ hD
  rw [e] at ho; cases ho; cases hd

/-- the locals' object may be another one of the same map; all else stays -/
theorem Sta.growL {F F' : Sto} {h h' : Heap} (S : Sta c F ρ dk h) (k : ∀ a o, a ≠ c.env.locals → h.get? a = some o → h'.get? a = some o) (kL : ∀ m, h.Ns c.env.locals m → h'.Ns c.env.locals m) (kF : ∀ a o, F a = some o → F' a = some o)
    (s' : ∀ a o, F' a = some o → h'.get? a = some o) (o' : ∀ a o, h.get? a = some o → F a = none → F' a = none) : Sta c F' ρ dk h' where
  base := fun a o e => kF a o (S.base a o e)
  sub := s'
  mt := fun a ha => by
    obtain ⟨e, o, ho⟩ := S.mt a ha
    refine ⟨o' a o ho e, ?_⟩
    by_cases q : a = c.env.locals
    · subst q
      obtain ⟨m, hn, _⟩ := S.ns
      obtain ⟨o, _, _, ho, _⟩ := kL m hn
      exact ⟨o, ho⟩
    · exact ⟨o, k a o q ho⟩
  deck := fun D hD => by obtain ⟨vs, n, e, i⟩ := S.deck D hD; exact ⟨vs, n, k _ _ (S.deck_ne hD) e, i⟩
  ns := by
    obtain ⟨oL, es, ep, hoL, hdL⟩ := S.locals_obj
    obtain ⟨m, hn, hv⟩ := S.ns
    refine ⟨m, kL m hn, fun x v e => ?_⟩
    rcases hv x v e with ⟨a, w, b, r⟩ | ⟨a, d, o, w, b1, b2, b3, r⟩
    · exact .inl ⟨a, w, b, r.mono kF⟩
    · refine .inr ⟨a, d, o, w, b1, k _ _ ?_ b2, b3, r.mono kF⟩
      rintro rfl
      rw [hoL] at b2; cases b2; rw [hdL] at b3; cases b3
  cel := fun a ha => by
    obtain ⟨oL, es, ep, hoL, hdL⟩ := S.locals_obj
    obtain ⟨o, u, e, d⟩ := S.cel a ha
    refine ⟨o, u, k _ _ ?_ e, d⟩
    rintro rfl
    rw [hoL] at e; cases e; rw [hdL] at d; cases d

/-- for a rule over a ledger: what it keeps is all -/
theorem Sta.led {F : Sto} {h : Heap} (S : Sta c F ρ dk h) : ∃ m, Fr ({} : Heap) c.env.locals h m ∧ News ({} : Heap) c.env.locals h (allN h c.env.locals) ∧
    ∀ h' news', Fr ({} : Heap) c.env.locals h' m → News ({} : Heap) c.env.locals h' news' → (∀ p ∈ allN h c.env.locals, p ∈ news') →
      Sta c F ρ dk h' ∧ Nx c F F h h' := by
  obtain ⟨m, hn, hv⟩ := S.ns
  refine ⟨m, ⟨hn, (fun b o e => by rw [emptyHeap_get] at e; cases e), Nat.zero_le _⟩, allN_news, fun h' news' F' N' hs => ?_⟩
  have k : ∀ a o, a ≠ c.env.locals → h.get? a = some o → h'.get? a = some o := fun a o q e => (N' _ (hs _ (allN_mem e q))).1
  have hL : ∀ m', h.Ns c.env.locals m' → h'.Ns c.env.locals m' := fun m' hn' => by
    have : m' = m := by
      obtain ⟨o, es, ep, e1, e2, _, e3⟩ := hn
      obtain ⟨o', es', ep', f1, f2, _, f3⟩ := hn'
      rw [e1] at f1; cases f1; rw [e2] at f2; cases f2
      funext x; rw [← e3, ← f3]
    subst this; exact F'.ns
  refine ⟨S.growL k hL (fun _ _ e => e) (fun a o e => ?_) (fun _ _ _ e => e), fun _ _ e => e, fun _ _ _ e => e, fun a o e n => k a o (fun q => n (.inl q)) e, fun a o e => ?_⟩
  · refine k a o ?_ (S.sub a o e)
    rintro rfl
    rw [(S.mt c.env.locals (.inl rfl)).1] at e; cases e
  · by_cases q : a = c.env.locals
    · subst q
      obtain ⟨o', _, _, ho, _⟩ := F'.ns
      exact ⟨o', ho⟩
    · exact ⟨o, k a o q e⟩

/-- a new object enters F behind such a rule -/
theorem Sta.adopt {F : Sto} {h h' : Heap} {n : Addr} {o : Obj} (S0 : Sta c F ρ dk h) (S : Sta c F ρ dk h') (N : Nx c F F h h') (hn : h.get? n = none) (ho : h'.get? n = some o) :
    Sta c (ins F n o) ρ dk h' ∧ Nx c F (ins F n o) h h' := by
  have hF : F n = none := by
    cases e : F n with
    | none => rfl
    | some o' => rw [S0.sub n o' e] at hn; cases hn
  have k1 : ∀ a o₁, F a = some o₁ → ins F n o a = some o₁ := fun a o₁ e => by
    rw [ins_ne]; exact e
    rintro rfl; rw [hF] at e; cases e
  have k2 : ∀ a o₁, h.get? a = some o₁ → F a = none → ins F n o a = none := fun a o₁ e e' => by
    rw [ins_ne]; exact e'
    rintro rfl; rw [hn] at e; cases e
  refine ⟨⟨fun a o e => k1 a o (S.base a o e), fun a o₁ e => ?_, fun a ha => ?_, S.deck, ?_, S.cel⟩, k1, k2, N.keep, N.live⟩
  · by_cases q : a = n
    · subst q; rw [ins_same] at e; cases e; exact ho
    · rw [ins_ne q] at e; exact S.sub a o₁ e
  · obtain ⟨o₁, e₁⟩ := (S0.mt a ha).2
    exact ⟨k2 a o₁ e₁ (S0.mt a ha).1, (S.mt a ha).2⟩
  · obtain ⟨m, hn, hv⟩ := S.ns
    refine ⟨m, hn, fun x v e => ?_⟩
    rcases hv x v e with ⟨a, w, b, r⟩ | ⟨a, d, o, w, b1, b2, b3, r⟩
    · exact .inl ⟨a, w, b, r.mono k1⟩
    · exact .inr ⟨a, d, o, w, b1, b2, b3, r.mono k1⟩

-- arguments
def NS (e : Expr) : Prop := ∀ env rest, starEach (e :: rest) env = (false, eval e env) :: starEach rest env
/-- arguments, left to right -/
def WA (c : Fc) (k : Nat) : List Expr → Rho → List Int → (List V → List Int → Prop) → Prop
  | [], _, dk, P => P [] dk
  | e :: r, ρ, dk, P => NS e ∧ WE c k e ρ dk fun v dk' => WA c k r ρ dk' fun vs dk'' => P (v :: vs) dk''
theorem WA_nil {P : List V → List Int → Prop} (h : P [] dk) : WA c k [] ρ dk P := h
theorem WA_cons {e : Expr} {r : List Expr} {P : List V → List Int → Prop} (h : WE c k e ρ dk fun v dk' => WA c k r ρ dk' fun vs dk'' => P (v :: vs) dk'') (hs : NS e := by intro _ _; rfl) : WA c k (e :: r) ρ dk P := ⟨hs, h⟩
theorem WA.spliced {pos : Pos} : ∀ {args : List Expr} {dk : List Int} {P : List V → List Int → Prop}, WA c k args ρ dk P → Wp c k (Reps CT) (spliced (backTo pos (starEach args c.env))) ρ dk P
  | [], dk, P, h => by
    intro A F s Q E R S hQ
    exact spliced_none (hQ F s [] [] dk .refl S .nil h)
  | e :: r, dk, P, ⟨hs, h⟩ => by
    intro A F s Q E R S hQ
    refine spliced_more (h A F s _ E R S fun F1 s1 a v d1 G1 S1 r1 p1 => ?_) (hs _ _)
    exact WA.spliced p1 A F1 s1 _ E R S1 fun F2 s2 as vs d2 G2 S2 r2 p2 => hQ F2 s2 _ _ d2 (G1.trans G2) S2 (.cons (r1.mono G2.nx.sub) r2) p2

theorem star_plain {pos : Pos} {env : Env} : ∀ {args : List Expr}, (∀ e ∈ args, NS e) → (backTo pos (starEach args env)).any (·.1) = false
  | [], _ => rfl
  | e :: r, h => by
    rw [h e (.head _) env r]
    show (false || (backTo pos (starEach r env)).any (·.1)) = false
    rw [star_plain fun x hx => h x (.tail _ hx)]; rfl
/-- a value that may be called -/
def Callee (c : Fc) (f : Value) : Prop := (∃ id, f = .builtin id) ∨ (∃ T, f = .type T) ∨ ∀ P, keepIn (Mine.topK P) f = true

theorem callWith_mine {f : Value} {first : List Value} {pos : Pos} {e : Expr} {rest : List Expr} {A : Around} {F : Sto} {s : Shared} {Q : Value → Shared → Prop} {E : Value → Shared → Prop} {P : List V → List Int → Prop}
    (hc : (∃ id, f = .builtin id) ∨ (first = [] ∧ ∃ T, f = .type T) ∨ ∀ P, keepIn (Mine.topK P) f = true) (R : Room A k) (S : Sta c F ρ dk s.heap) (he : NS e) (hp : ∀ env, (backTo pos (starEach rest env)).any (·.1) = false)
    (h : WA c k (e :: rest) ρ dk P) (hQ : ∀ F' s' ws vs dk', Go c F F' s s' → Sta c F' ρ dk' s'.heap → Reps CT F' ws vs → P vs dk' → wpAny (model PR c.g.w) A (call f (first ++ ws)) Q E s') :
    wpAny (model PR c.g.w) A (callWith pos f first (backTo pos (starEach (e :: rest) c.env)) []) Q E s := by
  have hw := h.spliced (pos := pos) A F s (fun vs s₁ => (Mine.topK c.g.w.params).In s₁.heap ∧ wpAny (model PR c.g.w) A (call f (first ++ vs)) Q E s₁) E R S fun F' s' ws vs dk' G S' r p => ⟨S'.kin, hQ F' s' ws vs dk' G S' r p⟩
  rcases hc with ⟨id, rfl⟩ | ⟨rfl, T, rfl⟩ | hk
  · exact callWith_method1 (wpAny_mono hw (fun _ _ x => x.2) fun _ _ x => x) (he _ _) (hp _)
  · exact PyProof.Rows.callWith_type1 (wpAny_mono hw (fun _ _ x => x.2) fun _ _ x => x) (he _ _) (hp _)
  · exact callWith_K S.kin (hk _) hw (he _ _) (hp _)

theorem WE_call {x : Str} {p pos : Pos} {e : Expr} {rest : List Expr} {P : V → List Int → Prop}
    (h : WE c k (.Name x p) ρ dk fun v d => ∃ w, v = .raw w ∧ Callee c w ∧ WA c k (e :: rest) ρ d fun vs d' => CallW c k w vs d' P)
    (hp : ∀ env, (backTo pos (starEach rest env)).any (·.1) = false := by intro _; rfl) :
    WE c k (.Call (.Name x p) (e :: rest) [] pos) ρ dk P := by
  intro A F s Q E R S hQ
  refine wpAny_Call_NameR (h A F s _ E R S fun F1 s1 a v d1 G1 S1 r1 p1 => ?_)
  obtain ⟨w, rfl, hc, ha⟩ := p1
  cases r1
  refine callWith_mine (first := []) (hc.imp id (.imp (fun x => ⟨rfl, x⟩) id)) R S1 ha.1 hp ha fun F2 s2 ws vs d2 G2 S2 r2 p2 => ?_
  exact p2 A F2 ρ s2 Q E ws R S2 r2 fun F3 s3 x y d3 G3 S3 r3 p3 => hQ F3 s3 x y d3 ((G1.trans G2).trans G3) S3 r3 p3

-- displays
theorem Go.push {F : Sto} {s : Shared} {o : Obj} (N : Nx c F (ins F s.heap.objs.size o) s.heap (s.heap.push o)) : Go c F (ins F s.heap.objs.size o) s { s with heap := s.heap.push o } := ⟨⟨_, s.toks, rfl⟩, N⟩
theorem WE_list {es : List Expr} {pos : Pos} {P : V → List Int → Prop} (h : WA c k es ρ dk fun vs d => vs.length ≤ 1000 ∧ P (.list vs) d) : WE c k (.List es pos) ρ dk P := by
  intro A F s Q E R S hQ
  refine wpAny_List_spliced (h.spliced A F s _ E R S fun F1 s1 ws vs d1 G1 S1 r1 p1 => ⟨?_, ?_⟩)
  · rw [r1.length, sizeLine]; have := p1.1; (first | lia | omega)
  · obtain ⟨S2, N2⟩ := S1.push { cls := .type "list", data := .seq ws.toArray }
    exact hQ _ _ _ _ d1 (G1.trans (.push N2)) S2 (.list ins_same (r1.mono N2.sub)) p1.2
theorem WE_tup {es : List Expr} {x1 : Nat} {pos : Pos} {P : V → List Int → Prop} (h : WA c k es ρ dk fun vs d => vs.length ≤ 1000 ∧ P (.tup vs) d) : WE c k (.Tuple es x1 pos) ρ dk P := by
  intro A F s Q E R S hQ
  refine wpAny_Tuple_spliced (h.spliced A F s _ E R S fun F1 s1 ws vs d1 G1 S1 r1 p1 => ⟨?_, ?_⟩)
  · rw [r1.length, sizeLine]; have := p1.1; (first | lia | omega)
  · obtain ⟨S2, N2⟩ := S1.push { cls := .type "tuple", data := .seq ws.toArray }
    exact hQ _ _ _ _ d1 (G1.trans (.push N2)) S2 (.tup ins_same (r1.mono N2.sub)) p1.2

-- built-ins on ints and texts
variable {P : V → List Int → Prop}
theorem c_abs {x : Int} (h : P (.int (if x < 0 then -x else x)) dk) : CallW c k (.builtin "abs") [.int x] dk P := by
  intro A F ρ s Q E ws R S r hQ
  cases r with | cons r1 r2 => cases r2; cases r1; exact call_abs_int fun u tk => hQ F _ _ _ dk .tk S (.int _ _) h
theorem c_max {x y : Int} (h : P (.int (if y > x then y else x)) dk) : CallW c k (.builtin "max") [.int x, .int y] dk P := by
  intro A F ρ s Q E ws R S r hQ
  cases r with | cons r1 r2 => cases r2 with | cons r2 r3 =>
    cases r3; cases r1; cases r2
    obtain ⟨m, Fm, N, kk⟩ := S.led
    refine max_two_N R.hd Fm N fun h' tk F' N' => ?_
    obtain ⟨S', N''⟩ := kk h' _ F' N' fun _ x => x
    exact hQ F _ _ _ dk (.of N'') S' (.int _ _) h
theorem c_min {x y : Int} (h : P (.int (if y < x then y else x)) dk) : CallW c k (.builtin "min") [.int x, .int y] dk P := by
  intro A F ρ s Q E ws R S r hQ
  cases r with | cons r1 r2 => cases r2 with | cons r2 r3 =>
    cases r3; cases r1; cases r2
    obtain ⟨m, Fm, N, kk⟩ := S.led
    refine min_two_N R.hd Fm N fun h' tk F' N' => ?_
    obtain ⟨S', N''⟩ := kk h' _ F' N' fun _ x => x
    exact hQ F _ _ _ dk (.of N'') S' (.int _ _) h
theorem c_int {b : Bool} (h : P (.int (if b then 1 else 0)) dk) : CallW c k (.type "int") [.bool b] dk P := by
  intro A F ρ s Q E ws R S r hQ
  cases r with | cons r1 r2 => cases r2; cases r1; exact call_int_bool (hQ F _ _ _ dk .tk S (.int _ _) h)
theorem c_chr {x : Int} (h0 : 0 ≤ x) (h1 : x ≤ 1114111) (h : P (.str [x.toNat]) dk) : CallW c k (.builtin "chr") [.int x] dk P := by
  intro A F ρ s Q E ws R S r hQ
  cases r with | cons r1 r2 => cases r2; cases r1; exact chr_of_range h0 h1 (hQ F _ _ _ dk .tk S (.str [x.toNat] _) h)
theorem c_ord {x : Nat} (h : P (.int x) dk) : CallW c k (.builtin "ord") [.str [x]] dk P := by
  intro A F ρ s Q E ws R S r hQ
  cases r with | cons r1 r2 => cases r2; cases r1; exact ord_of_one rfl (hQ F _ _ _ dk .tk S (.int _ _) h)
theorem c_lenL {xs : List V} (hn : xs.length < 2 ^ 62) (h : P (.int xs.length) dk) : CallW c k (.builtin "len") [.list xs] dk P := by
  intro A F ρ s Q E ws R S r hQ
  cases r with | cons r1 r2 =>
    cases r2
    cases r1 with | list e rr =>
      have e' := rr.length
      refine Calls.call_len_list ⟨_, S.sub _ _ e, rfl, _, rfl⟩ (by simp only [List.size_toArray]; (first | lia | omega)) ?_
      simp only [List.size_toArray, e']
      exact hQ F _ _ _ dk .tk S (.int _ _) h
theorem c_lenS {x : List Nat} (hn : x.length < 2 ^ 62) (h : P (.int x.length) dk) : CallW c k (.builtin "len") [.str x] dk P := by
  intro A F ρ s Q E ws R S r hQ
  cases r with | cons r1 r2 =>
    cases r2; cases r1
    have e : (Str.mk x.toArray).length = x.length := by show x.toArray.size = _; simp
    refine PyProof.Rows.len_str (by rw [e]; (first | lia | omega)) ?_
    rw [e]
    exact hQ F _ _ _ dk .tk S (.int _ _) h
end

-- M4
def Rho.set : Rho → Str → V → Rho
  | [], x, v => [(x, v)]
  | (y, u) :: r, x, v => if x = y then (y, v) :: r else (y, u) :: Rho.set r x v
theorem Rho.set_lookup {x y : Str} {v : V} : ∀ {ρ : Rho}, (ρ.set x v).lookup y = if y = x then some v else ρ.lookup y
  | [] => by
    by_cases h : y = x
    · subst h; simp [Rho.set]
    · have : (y == x) = false := by simpa using h
      simp [Rho.set, List.lookup, h, this]
  | (z, u) :: r => by
    by_cases h : x = z
    · subst h
      simp only [Rho.set, if_true]
      by_cases q : y = x
      · subst q; simp [List.lookup]
      · have : (y == x) = false := by simpa using q
        simp [List.lookup, q, this]
    · simp only [Rho.set, if_neg h]
      by_cases q : y = z
      · subst q
        have : ¬ y = x := fun e => h e.symm
        simp [List.lookup, this]
      · have : (y == z) = false := by simpa using q
        simp only [List.lookup, this]
        exact Rho.set_lookup

section
variable {c : Fc} {k : Nat} {ρ : Rho} {dk : List Int}

/-- one local is stored -/
theorem Sta.setL {F : Sto} {h h' : Heap} {x : Str} {w : Value} {v : V} (S : Sta c F ρ dk h) (hk : c.env.kindOf x = some .local) (r : Rep CT F w v)
    (hn : ∀ m, h.Ns c.env.locals m → h'.Ns c.env.locals (fun y => if y = x then some w else m y)) (hs : Heap.SameBut c.env.locals h h') :
    Sta c F (ρ.set x v) dk h' ∧ Nx c F F h h' := by
  have live : ∀ a o, h.get? a = some o → ∃ o', h'.get? a = some o' := fun a o e => by
    by_cases q : a = c.env.locals
    · subst q
      obtain ⟨m, hn', _⟩ := S.ns
      obtain ⟨o', _, _, e', _⟩ := hn m hn'
      exact ⟨o', e'⟩
    · exact ⟨o, (hs.2 a q).trans e⟩
  have hL := (S.mt c.env.locals (.inl rfl)).1
  refine ⟨⟨S.base, fun a o e => (hs.2 a ?_).trans (S.sub a o e), fun a ha => ⟨(S.mt a ha).1, ?_⟩, fun D hD => ?_, ?_, fun a ha => ?_⟩, fun _ _ e => e, fun _ _ _ e => e, fun a o e n => (hs.2 a fun q => n (.inl q)).trans e, live⟩
  · rintro rfl; rw [hL] at e; cases e
  · obtain ⟨o, e⟩ := (S.mt a ha).2; exact live a o e
  · obtain ⟨vs, n, e, i⟩ := S.deck D hD
    exact ⟨vs, n, (hs.2 D (S.deck_ne hD)).trans e, i⟩
  · obtain ⟨oL, esL, epL, hoL, hdL⟩ := S.locals_obj
    obtain ⟨m, hn', hv⟩ := S.ns
    refine ⟨_, hn m hn', fun y u e => ?_⟩
    rw [Rho.set_lookup] at e
    by_cases q : y = x
    · subst q
      rw [if_pos rfl] at e; cases e
      exact .inl ⟨hk, w, if_pos rfl, r⟩
    · rw [if_neg q] at e
      rcases hv y u e with ⟨a, w', b, r'⟩ | ⟨a, d, o, w', b1, b2, b3, r'⟩
      · exact .inl ⟨a, w', (if_neg q).trans b, r'⟩
      · refine .inr ⟨a, d, o, w', b1, (hs.2 d ?_).trans b2, b3, r'⟩
        rintro rfl
        rw [hoL] at b2; cases b2; rw [hdL] at b3; cases b3
  · obtain ⟨oL, es, ep, hoL, hdL⟩ := S.locals_obj
    obtain ⟨o, u, e, d⟩ := S.cel a ha
    refine ⟨o, u, (hs.2 a ?_).trans e, d⟩
    rintro rfl
    rw [hoL] at e; cases e; rw [hdL] at d; cases d

/-- one cell is stored: no other name has it -/
theorem Sta.setC {F : Sto} {h h' : Heap} {x : Str} {w : Value} {v : V} {a : Addr} (S : Sta c F ρ dk h) (hk : c.env.kindOf x = some .cell) (r : Rep CT F w v) (ha : c.env.cells.lookup x = some a) (ho : a ∈ c.own)
    (hu : ∀ y b, c.env.cells.lookup y = some b → y ≠ x → b ≠ a) (hc' : h'.IsCell a (some w)) (hs : Heap.SameBut a h h') :
    Sta c F (ρ.set x v) dk h' ∧ Nx c F F h h' := by
  have live : ∀ b o, h.get? b = some o → ∃ o', h'.get? b = some o' := fun b o e => by
    by_cases q : b = a
    · subst q
      obtain ⟨o', e', _⟩ := hc'
      exact ⟨o', e'⟩
    · exact ⟨o, (hs.2 b q).trans e⟩
  have hL := (S.mt a (.inr (.inr ho))).1
  obtain ⟨o0, u, e0, d0⟩ := S.cel a ho
  have hLa : c.env.locals ≠ a := by
    rintro rfl
    obtain ⟨o, es, ep, e, d⟩ := S.locals_obj
    rw [e] at e0; cases e0; rw [d] at d0; cases d0
  refine ⟨⟨S.base, fun b o e => (hs.2 b ?_).trans (S.sub b o e), fun b hb => ⟨(S.mt b hb).1, ?_⟩, fun D hD => ?_, ?_, fun b hb => ?_⟩, fun _ _ e => e, fun _ _ _ e => e, fun b o e n => (hs.2 b fun q => n (q ▸ .inr (.inr ho))).trans e, live⟩
  · rintro rfl; rw [hL] at e; cases e
  · obtain ⟨o, e⟩ := (S.mt b hb).2; exact live b o e
  · obtain ⟨vs, n, e, i⟩ := S.deck D hD
    refine ⟨vs, n, (hs.2 D ?_).trans e, i⟩
    rintro rfl
    rw [e] at e0; cases e0; cases d0
  · obtain ⟨m, hn', hv⟩ := S.ns
    refine ⟨m, hn'.sameBut hs hLa, fun y u e => ?_⟩
    rw [Rho.set_lookup] at e
    by_cases q : y = x
    · subst q
      rw [if_pos rfl] at e; cases e
      obtain ⟨o', e', d'⟩ := hc'
      exact .inr ⟨hk, a, o', w, ha, e', d', r⟩
    · rw [if_neg q] at e
      rcases hv y u e with ⟨b, w', b', r'⟩ | ⟨b, d, o, w', b1, b2, b3, r'⟩
      · exact .inl ⟨b, w', b', r'⟩
      · exact .inr ⟨b, d, o, w', b1, (hs.2 d (hu y d b1 q)).trans b2, b3, r'⟩
  · by_cases q : b = a
    · subst q
      obtain ⟨o', e', d'⟩ := hc'
      exact ⟨o', _, e', d'⟩
    · obtain ⟨o, u, e, d⟩ := S.cel b hb
      exact ⟨o, u, (hs.2 b q).trans e, d⟩

variable {P : Fl → Rho → List Int → Prop}
theorem store_local {x : Str} {w : Value} {v : V} {A : Around} {F : Sto} {s : Shared} {Q : Unit → Shared → Prop} {E : Value → Shared → Prop} (S : Sta c F ρ dk s.heap) (hk : c.env.kindOf x = some .local) (r : Rep CT F w v)
    (h : ∀ s', Go c F F s s' → Sta c F (ρ.set x v) dk s'.heap → Q () s') : wpAny (model PR c.g.w) A (storeName c.env x w) Q E s := by
  obtain ⟨m, hn, _⟩ := id S.ns
  refine wpAny_storeName_local hk hn (fun h' hn' hs' => ?_) (by rw [c.kf]; rfl)
  obtain ⟨S', N'⟩ := S.setL hk r (fun m' hm => by
    have : m' = m := by
      obtain ⟨o, es, ep, e1, e2, _, e3⟩ := hn
      obtain ⟨o', es', ep', f1, f2, _, f3⟩ := hm
      rw [e1] at f1; cases f1; rw [e2] at f2; cases f2
      funext x; rw [← e3, ← f3]
    subst this; exact hn') hs'
  exact h _ (.of N') S'

theorem WS_nil (h : P .next ρ dk) : WS c k [] ρ dk P := fun A F s Q E R S hQ => wpAny_execs_nil (hQ F s _ _ ρ dk .refl S .next h)
theorem WS_cons {st : Stmt} {rest : List Stmt} (h : WX c k st ρ dk fun fl ρ' d => match fl with | .next => WS c k rest ρ' d P | fl => P fl ρ' d) : WS c k (st :: rest) ρ dk P := by
  intro A F s Q E R S hQ
  refine wpAny_execs_cons (h A F s _ E R S fun F1 s1 x y ρ1 d1 G1 S1 r1 p1 => ?_)
  cases r1 with
  | next => exact p1 A F1 s1 Q E R S1 fun F2 s2 x y ρ2 d2 G2 S2 r2 p2 => hQ F2 s2 x y ρ2 d2 (G1.trans G2) S2 r2 p2
  | brk => exact hQ F1 s1 _ _ ρ1 d1 G1 S1 .brk p1
  | cont => exact hQ F1 s1 _ _ ρ1 d1 G1 S1 .cont p1
  | ret r => exact hQ F1 s1 _ _ ρ1 d1 G1 S1 (.ret r) p1
theorem WX_ret {e : Expr} {pos : Pos} (h : WE c k e ρ dk fun v d => P (.ret v) ρ d) : WX c k (.Return (some e) pos) ρ dk P := by
  intro A F s Q E R S hQ
  exact wpAny_Return_some (h A F s _ E R S fun F1 s1 w v d1 G1 S1 r1 p1 => hQ F1 s1 _ _ ρ d1 G1 S1 (.ret r1) p1)
theorem WX_if {t : Expr} {b o : List Stmt} {pos : Pos} (h : WT c k t ρ dk fun z d => (z = true → WS c k b ρ d P) ∧ (z = false → WS c k o ρ d P)) : WX c k (.If t b o pos) ρ dk P := by
  intro A F s Q E R S hQ
  refine wpAny_If (h A F s _ E R S fun F1 s1 a v d1 G1 S1 r1 p1 => ?_)
  subst r1
  cases a with
  | true => exact p1.1 rfl A F1 s1 Q E R S1 fun F2 s2 x y ρ2 d2 G2 S2 r2 p2 => hQ F2 s2 x y ρ2 d2 (G1.trans G2) S2 r2 p2
  | false => exact p1.2 rfl A F1 s1 Q E R S1 fun F2 s2 x y ρ2 d2 G2 S2 r2 p2 => hQ F2 s2 x y ρ2 d2 (G1.trans G2) S2 r2 p2
-- the call of a def
theorem lookup_none_of {x : Str} : ∀ {l : List (Str × Value)}, x ∉ l.map (·.1) → l.lookup x = none
  | [], _ => rfl
  | (y, u) :: r, h => by
    have h1 : (x == y) = false := by
      have : x ≠ y := fun e => h (by rw [e]; exact .head _)
      simpa using this
    simp only [List.lookup, h1]
    exact lookup_none_of fun q => h (.tail _ q)
theorem lookup_append_none {x : Str} : ∀ {l l' : List (Str × Value)}, (l ++ l').lookup x = (l.lookup x).or (l'.lookup x)
  | [], _ => rfl
  | (y, u) :: r, l' => by
    cases h : x == y with
    | true => simp [List.lookup, h]
    | false => simp only [List.cons_append, List.lookup, h]; exact lookup_append_none
theorem lookup_reverse {x : Str} : ∀ {l : List (Str × Value)}, (l.map (·.1)).Nodup → l.reverse.lookup x = l.lookup x
  | [], _ => rfl
  | (y, u) :: r, h => by
    have h' := List.nodup_cons.mp h
    rw [List.reverse_cons, lookup_append_none, lookup_reverse h'.2]
    cases q : x == y with
    | true =>
      have : x = y := by simpa using q
      subst this
      rw [lookup_none_of h'.1]; simp [List.lookup]
    | false => simp [List.lookup, q]
theorem zip_lookup {F : Sto} {x : Str} {v : V} : ∀ {ns : List Str} {ws : List Value} {vs : List V}, Reps CT F ws vs → (ns.zip vs).lookup x = some v → ∃ w, (ns.zip ws).lookup x = some w ∧ Rep CT F w v
  | [], _, _, _, e => by cases e
  | _ :: _, _, _, .nil, e => by cases e
  | n :: ns, _, _, .cons (v := w) r rr, e => by
    cases q : x == n with
    | true => simp only [List.zip_cons_cons, List.lookup, q] at e ⊢; cases e; exact ⟨w, rfl, r⟩
    | false => simp only [List.zip_cons_cons, List.lookup, q] at e ⊢; exact zip_lookup rr e

def Fl.val : Fl → V
  | .ret v => v
  | _ => .none

/-- what is asked of a def -/
def defOK (K : Frag) (fd : FuncData) (names : List Str) : Bool :=
  codeIn K fd.code fd.qualname && (fd.scope.names.all fun x => x.2 != .cell) && !fd.scope.isCoroutine && !fd.scope.isGenerator && fd.scope.kind == .function && fd.globals == mainGlobals && fd.builtins == builtinsNs &&
    (names.all fun n => fd.scope.names.lookup n == some .local)

theorem call_def (D' : Option Addr) {a : Addr} {o : Obj} {fd : FuncData} {body : List Stmt} {names : List Str} {vs : List V} {P : V → List Int → Prop}
    (ho : ∀ p, (Mine.topK p).lookup a = some o) (hd : o.data = .func fd) (hb : fd.body = .stmts body) (hok : ∀ p, defOK (Mine.topK p) fd names = true) (hnd : names.Nodup) (hlen : names.length = vs.length)
    (hbind : ∀ ws : List Value, ws.length = vs.length → bindArgs fd ⟨ws, []⟩ = pure (names.zip ws)) (hD : D' = none ∨ D' = c.D)
    (h : ∀ c' : Fc, c'.g = c.g → c'.D = D' → (∀ x, c'.env.kindOf x = fd.scope.names.lookup x) → WS c' k body (names.zip vs) dk fun fl _ d => P fl.val (if D' = none then dk else d)) :
    CallW c (k + 1) (.ref a) vs dk P := by
  intro A F ρ s Q E ws R S r hQ
  have hk := hok c.g.w.params
  simp only [defOK, Bool.and_eq_true, Bool.not_eq_true', beq_iff_eq] at hk
  obtain ⟨⟨⟨⟨⟨⟨⟨hcode, hcell⟩, hco⟩, hgen⟩, hkind⟩, hglob⟩, hblt⟩, hloc⟩ := hk
  have X := S.kin
  have hzip : (names.zip ws).map (·.1) = names := List.map_fst_zip (by rw [r.length, hlen]; exact Nat.le_refl _)
  have hnames : ((names.zip ws).map (·.1)).Nodup := by rw [hzip]; exact hnd
  refine wpAny_call (codeAny_call_def (fd := fd) (body := body) (binds := names.zip ws) (by have := R.dp; (first | lia | omega)) (X _ _ (ho _)) hd (c.g.nolimit.keeps S.nsBase) (codeRec_of X hcode) hb (.of_eq (hbind ws r.length)) (fun x hx => by
    have := List.all_eq_true.mp hcell x hx; simpa using this) (fun x hx => ?_) (fun h₀ hns hkeep => ?_) hco hgen hkind)
  · have := List.all_eq_true.mp hloc x.1 (List.of_mem_zip hx).1
    simpa using this
  let c' : Fc := { g := c.g, env := callEnv fd s.heap.objs.size a, D := D', own := [], kf := hkind, gl := hglob, bl := hblt }
  have hMut : ∀ b, c'.Mut b → c.Mut b ∨ s.heap.get? b = none := fun b hb => by
    rcases hb with e | e | e
    · right; rw [e]; exact get_none (Nat.le_refl _)
    · rcases hD with q | q
      · rw [show c'.D = D' from rfl, q] at e; cases e
      · left; right; left; rw [← q]; exact e
    · cases e
  have hout : ∀ b o', s.heap.get? b = some o' → b ≠ s.heap.objs.size := fun b o' e => Nat.ne_of_lt (Heap.lt_size e)
  have hF0 : F s.heap.objs.size = none := by
    cases q : F s.heap.objs.size with
    | none => rfl
    | some o'' => exact absurd rfl (hout _ _ (S.sub _ _ q))
  have S' : Sta c' F (names.zip vs) dk h₀ := by
    refine ⟨S.base, fun b o' e => hkeep _ _ (S.sub b o' e), fun b hb => ?_, fun D hDD => ?_, ?_, fun b hb => by cases hb⟩
    · rcases hb with e | e | e
      · subst e
        obtain ⟨o', _, _, e', _⟩ := hns
        exact ⟨hF0, o', e'⟩
      · rcases hD with q | q
        · rw [show c'.D = D' from rfl, q] at e; cases e
        · obtain ⟨e1, o', e2⟩ := S.mt b (.inr (.inl (q ▸ e)))
          exact ⟨e1, o', hkeep _ _ e2⟩
      · cases e
    · rcases hD with q | q
      · rw [show c'.D = D' from rfl, q] at hDD; cases hDD
      · obtain ⟨us, n, e, i⟩ := S.deck D (q ▸ hDD)
        exact ⟨us, n, hkeep _ _ e, i⟩
    · refine ⟨_, hns, fun x v e => ?_⟩
      obtain ⟨w, e', r'⟩ := zip_lookup r e
      refine .inl ⟨?_, w, (lookup_reverse hnames).trans e', r'⟩
      have hx : x ∈ names := by
        have : x ∈ (names.zip ws).map (·.1) := by
          by_cases q : x ∈ (names.zip ws).map (·.1)
          · exact q
          · rw [lookup_none_of q] at e'; cases e'
        rw [hzip] at this
        exact this
      have := List.all_eq_true.mp hloc x hx
      show fd.scope.names.lookup x = _
      simpa using this
  refine h c' rfl rfl (fun x => rfl) (A.deeper (callEnv fd s.heap.objs.size a)) F _ _ _ R.deeper S' fun F1 s1 fl fl' ρ1 d1 G1 S1 r1 p1 => ?_
  have N0 : NxM c'.Mut F F1 s.heap s1.heap := NxM.trans (F' := F) ⟨fun _ _ e => e, fun _ _ _ e => e, fun b o' e _ => hkeep b o' e, fun b o' e => ⟨o', hkeep b o' e⟩⟩ G1.nx
  have N1 : Nx c F F1 s.heap s1.heap := N0.weak hMut
  obtain ⟨h1, t1, rfl⟩ := G1.st
  have S2 : Sta c F1 ρ (if D' = none then dk else d1) h1 := by
    refine ⟨fun b o' e => N1.sub b o' (S.base b o' e), S1.sub, fun b hb => ?_, fun D hDD => ?_, ?_, fun b hb => ?_⟩
    · obtain ⟨e1, o', e2⟩ := S.mt b hb
      exact ⟨N1.out b o' e2 e1, N1.live b o' e2⟩
    · by_cases q : D' = none
      · rw [if_pos q]
        obtain ⟨us, n, e, i⟩ := S.deck D hDD
        refine ⟨us, n, N0.keep D _ e ?_, i⟩
        rintro (z | z | z)
        · exact hout D _ e z
        · rw [show c'.D = D' from rfl, q] at z; cases z
        · cases z
      · rw [if_neg q]
        exact S1.deck D ((hD.resolve_left q).trans hDD)
    · obtain ⟨m, hn, hv⟩ := S.ns
      have kp : ∀ b o', s.heap.get? b = some o' → (∀ us n, o' ≠ { cls := .type "list", data := .seq us n }) → h1.get? b = some o' := fun b o' e hne => by
        refine N0.keep b o' e ?_
        rintro (z | z | z)
        · exact hout b _ e z
        · rcases hD with q | q
          · rw [show c'.D = D' from rfl, q] at z; cases z
          · obtain ⟨us, n, e', _⟩ := S.deck b (q ▸ z)
            rw [e] at e'; cases e'; exact hne _ _ rfl
        · cases z
      refine ⟨m, ?_, fun x v e => ?_⟩
      · obtain ⟨o', es, ep, e1, e2, e3⟩ := hn
        refine ⟨o', es, ep, kp _ _ e1 (fun us n z => ?_), e2, e3⟩
        rw [z] at e2; cases e2
      · rcases hv x v e with ⟨b, w', b', r'⟩ | ⟨b, d, o', w', b1, b2, b3, r'⟩
        · exact .inl ⟨b, w', b', r'.mono N1.sub⟩
        · refine .inr ⟨b, d, o', w', b1, kp _ _ b2 (fun us n z => ?_), b3, r'.mono N1.sub⟩
          rw [z] at b3; cases b3
    · obtain ⟨o', u, e, d⟩ := S.cel b hb
      refine ⟨o', u, N0.keep b o' e ?_, d⟩
      rintro (z | z | z)
      · exact hout b _ e z
      · rcases hD with q | q
        · rw [show c'.D = D' from rfl, q] at z; cases z
        · obtain ⟨us, n, e', _⟩ := S.deck b (q ▸ z)
          rw [e] at e'; cases e'; cases d
      · cases z
  have fin : ∀ w, Rep CT F1 w fl'.val → Q w { s with heap := h1, toks := t1 } := fun w rw' => hQ F1 _ w _ _ (.of N1) S2 rw' p1
  cases r1 with
  | next => exact fin _ .none
  | brk => exact fin _ .none
  | cont => exact fin _ .none
  | ret r => exact fin _ r
end

-- M5
section
variable {c : Fc} {k : Nat} {ρ : Rho} {dk : List Int} {P : V → List Int → Prop}

-- more on ints
theorem op_fdiv {x y : Int} (hb : y ≠ 0) (hs : y.natAbs < 1073741824) (h : P (.int (x.fdiv y)) dk) : Op2 c k (binaryOp .FloorDiv) (.int x) (.int y) dk P := by
  intro A F ρ s Q E a b R S r1 r2 hQ
  cases r1; cases r2; exact PyProof.Rows.floordiv_int hb (hQ F _ _ _ dk .tk S (.int _ _) h) (.inl (PyProof.noPylong_small hs))
theorem op_pow {x n : Int} (hn : 0 ≤ n) (hs : (Builtin.Int.intBits x : Int) * n ≤ 2 ^ 27) (h : P (.int (x ^ n.toNat)) dk) : Op2 c k (binaryOp .Pow) (.int x) (.int n) dk P := by
  intro A F ρ s Q E a b R S r1 r2 hQ
  cases r1; cases r2; exact PyProof.Rows.pow_int hn hs (hQ F _ _ _ dk .tk S (.int _ _) h)

-- names of the module's
theorem WE_g {x : Str} {pos : Pos} {w : Value} (hx : c.env.kindOf x = some .globalImplicit) (e : ∀ p, nsIn (Mine.topK p) mainGlobals x = some (some w)) (h : P (.raw w) dk)
    (hd : (x == ("__debug__" : Str)) = false := by decide) : WE c k (.Name x pos) ρ dk P :=
  WE_glob hx (PySem.W.mg_of c.g.kin c.g.g (e _)) (fun _ _ => .raw _) h hd
theorem WE_b {x : Str} {pos : Pos} {w : Value} (hx : c.env.kindOf x = some .globalImplicit) (e : ∀ p, nsIn (Mine.topK p) mainGlobals x = some none) (hv : bootBuiltins x = some w) (h : P (.raw w) dk)
    (hn : x ≠ "__name__" := by decide) (hd : (x == ("__debug__" : Str)) = false := by decide) : WE c k (.Name x pos) ρ dk P :=
  WE_blt hx (PySem.W.mg_none_of c.g.kin c.g.g (e _)) hv hn h hd

-- tests
theorem WT_or2 {a b : Expr} {pos : Pos} {P : Bool → List Int → Prop} (h : WT c k a ρ dk fun z d => (z = true → P true d) ∧ (z = false → WT c k b ρ d P)) : WT c k (.BoolOp .Or [a, b] pos) ρ dk P := by
  intro A F s Q E R S hQ
  refine wpAny_isTrue_BoolOp (wpAny_allTrue_Or_cons (h A F s _ E R S fun F1 s1 x v d1 G1 S1 r1 p1 => ?_))
  subst r1
  cases x with
  | false =>
    refine wpAny_allTrue_Or_cons (p1.2 rfl A F1 s1 _ E R S1 fun F2 s2 x y d2 G2 S2 r2 p2 => ?_)
    subst r2
    cases x with
    | false => exact wpAny_allTrue_Or_nil (hQ F2 s2 _ _ d2 (G1.trans G2) S2 rfl p2)
    | true => exact hQ F2 s2 _ _ d2 (G1.trans G2) S2 rfl p2
  | true => exact hQ F1 s1 _ _ d1 G1 S1 rfl (p1.1 rfl)
theorem WT_or3 {a b e : Expr} {pos : Pos} {P : Bool → List Int → Prop} (h : WT c k a ρ dk fun z d => (z = true → P true d) ∧ (z = false → WT c k b ρ d fun z d => (z = true → P true d) ∧ (z = false → WT c k e ρ d P))) : WT c k (.BoolOp .Or [a, b, e] pos) ρ dk P := by
  intro A F s Q E R S hQ
  refine wpAny_isTrue_BoolOp (wpAny_allTrue_Or_cons (h A F s _ E R S fun F1 s1 x v d1 G1 S1 r1 p1 => ?_))
  subst r1
  cases x with
  | false =>
    refine wpAny_allTrue_Or_cons (p1.2 rfl A F1 s1 _ E R S1 fun F2 s2 x y d2 G2 S2 r2 p2 => ?_)
    subst r2
    cases x with
    | false =>
      refine wpAny_allTrue_Or_cons (p2.2 rfl A F2 s2 _ E R S2 fun F3 s3 x y d3 G3 S3 r3 p3 => ?_)
      subst r3
      cases x with
      | false => exact wpAny_allTrue_Or_nil (hQ F3 s3 _ _ d3 ((G1.trans G2).trans G3) S3 rfl p3)
      | true => exact hQ F3 s3 _ _ d3 ((G1.trans G2).trans G3) S3 rfl p3
    | true => exact hQ F2 s2 _ _ d2 (G1.trans G2) S2 rfl (p2.1 rfl)
  | true => exact hQ F1 s1 _ _ d1 G1 S1 rfl (p1.1 rfl)
/-- a value that is a bool, as a test -/
theorem WT_val {e : Expr} {P : Bool → List Int → Prop} (h : WE c k e ρ dk fun v d => ∃ b, v = .bool b ∧ P b d)
    (he : isTrue e c.env (eval e c.env) = (do let v ← eval e c.env; standAt e.pos; holding [v] (truthy v)) := by rfl) : WT c k e ρ dk P := by
  intro A F s Q E R S hQ
  refine PyProof.Rows.isTrue_plain (h A F s _ E R S fun F1 s1 a v d1 G1 S1 r1 p1 => ?_) he
  obtain ⟨b, rfl, p⟩ := p1
  cases r1
  exact wpAny_truthy_bool (hQ F1 s1 _ _ d1 G1 S1 rfl p)
/-- a chain of two comparisons, as a test -/
theorem WT_chain {l r1 r2 : Expr} {o1 o2 : CmpOp} {pos : Pos} {P : Bool → List Int → Prop}
    (h : WE c k l ρ dk fun v d => WE c k r1 ρ d fun u d' => Op2 c k (compareOp o1) v u d' fun z d'' => ∃ b, z = .bool b ∧ (b = true → WE c k r2 ρ d'' fun u2 d3 => Op2 c k (compareOp o2) u u2 d3 fun z d4 => ∃ b, z = .bool b ∧ P b d4) ∧ (b = false → P false d''))
    (hm : lastMarks [o1, o2] [r1, r2] = false := by with_unfolding_all rfl) : WT c k (.Compare l [o1, o2] [r1, r2] pos) ρ dk P := by
  intro A F s Q E R S hQ
  refine isTrue_chain (ops := []) (rs := []) (h A F s _ E R S fun F1 s1 a v d1 G1 S1 q1 p1 => ?_) hm
  show wpAny _ A (do
    let rv ← holding [a] (eval r1 c.env)
    standAt pos
    let c' ← holding [a, rv] (compareOp o1 a rv)
    release [a, rv] [c']
    if ← holding [c', rv] (truthy c') then testChain pos rv [o2] [eval r2 c.env] else pure false) Q E s1
  refine wpAny_bind (wpAny_holding (p1 A F1 s1 _ E R S1 fun F2 s2 b u d2 G2 S2 q2 p2 => wpAny_bind (wpAny_standAt (wpAny_bind (wpAny_holding ?_)))))
  refine p2 A F2 ρ s2 _ E a b R S2 (q1.mono G2.nx.sub) q2 fun F3 s3 x y d3 G3 S3 q3 p3 => ?_
  obtain ⟨z, rfl, pt, pf⟩ := p3
  cases q3
  refine wpAny_bind (wpAny_release (wpAny_bind (wpAny_holding (wpAny_truthy_bool ?_))))
  have G := (G1.trans G2).trans G3
  cases z with
  | false => exact wpAny_pure (hQ F3 s3 _ _ d3 G S3 rfl (pf rfl))
  | true =>
    show wpAny _ A (do
      let rv ← holding [b] (eval r2 c.env)
      standAt pos
      let c' ← operate [b, rv] (compareOp o2 b rv)
      holding [c'] (truthy c')) Q E s3
    refine wpAny_bind (wpAny_holding (pt rfl A F3 s3 _ E R S3 fun F4 s4 b2 u2 d4 G4 S4 q4 p4 => wpAny_bind (wpAny_standAt (wpAny_bind (wpAny_operateT ?_)))))
    refine p4 A F4 ρ s4 _ E b b2 R S4 ((q2.mono G3.nx.sub).mono G4.nx.sub) q4 fun F5 s5 x y d5 G5 S5 q5 p5 => ?_
    obtain ⟨z, rfl, p⟩ := p5
    cases q5
    exact wpAny_holding (wpAny_truthy_bool (hQ F5 s5 _ _ d5 ((G.trans G4).trans G5) S5 rfl p))

-- items
theorem Reps.arr {C : Addr} {F : Sto} {vs : List Value} {xs : List V} (r : Reps C F vs xs) {i : Nat} {x : V} (e : xs[i]? = some x) : ∃ v, vs.toArray[i]? = some v ∧ Rep C F v x := by
  obtain ⟨v, e, r⟩ := r.get e
  exact ⟨v, by simpa using e, r⟩
theorem WE_sub {e i : Expr} {pos : Pos} (h : WE c k e ρ dk fun v d => WE c k i ρ d fun u d' => Op2 c k (subscriptTail e i) v u d' P) : WE c k (.Subscript e i pos) ρ dk P := by
  intro A F s Q E R S hQ
  refine PyProof.Rows.Subscript_ (h A F s _ E R S fun F1 s1 a v d1 G1 S1 r1 p1 => p1 A F1 s1 _ E R S1 fun F2 s2 b u d2 G2 S2 r2 p2 => ?_)
  exact p2 A F2 ρ s2 Q E a b R S2 (r1.mono G2.nx.sub) r2 fun F3 s3 x y d3 G3 S3 r3 p3 => hQ F3 s3 x y d3 ((G1.trans G2).trans G3) S3 r3 p3
def SubPlain (i : Expr) : Prop := ∀ o v, subscripted i false o v = operate [o, v] (getItem o v)
theorem item_L {e i : Expr} {xs : List V} {n : Int} {x : V} (h0 : 0 ≤ n) (h1 : n < 2 ^ 63) (hx : xs[n.toNat]? = some x) (h : P x dk) (hi : SubPlain i := by intro _ _; rfl) : Op2 c k (subscriptTail e i) (.list xs) (.int n) dk P := by
  intro A F ρ s Q E a b R S r1 r2 hQ
  cases r2
  cases r1 with | list e rr =>
    obtain ⟨v, ev, rv⟩ := rr.arr hx
    have hl : s.heap.IsList _ _ := ⟨_, S.sub _ _ e, rfl, _, rfl⟩
    exact tail_any hl.typeIs list_getitem_lookup (wpAny_getItem_list hl h0 h1 ev (hQ F s _ _ dk .refl S rv h)) (hi _ _)
/-- the last item -/
theorem item_Lneg {e i : Expr} {xs : List V} {n : Int} {x : V} (h0 : n < 0) (h1 : -(xs.length : Int) ≤ n) (h2 : -(2 ^ 63) ≤ n) (hx : xs[(n + xs.length).toNat]? = some x) (h : P x dk) (hi : SubPlain i := by intro _ _; rfl) : Op2 c k (subscriptTail e i) (.list xs) (.int n) dk P := by
  intro A F ρ s Q E a b R S r1 r2 hQ
  cases r2
  cases r1 with | list e rr =>
    obtain ⟨v, ev, rv⟩ := rr.arr hx
    have hl : s.heap.IsList _ _ := ⟨_, S.sub _ _ e, rfl, _, rfl⟩
    have el := rr.length
    exact tail_any hl.typeIs list_getitem_lookup (wpAny_getItem_list_neg hl h0 (by simp only [List.size_toArray]; (first | lia | omega)) h2 (by simpa only [List.size_toArray, el] using ev) (hQ F s _ _ dk .refl S rv h)) (hi _ _)
theorem item_T {e i : Expr} {xs : List V} {n : Int} {x : V} (h0 : 0 ≤ n) (h1 : n < xs.length) (h2 : n < 2 ^ 63) (hx : xs[n.toNat]? = some x) (h : P x dk) (hi : SubPlain i := by intro _ _; rfl) : Op2 c k (subscriptTail e i) (.tup xs) (.int n) dk P := by
  intro A F ρ s Q E a b R S r1 r2 hQ
  cases r2
  cases r1 with | tup e rr =>
    obtain ⟨v, ev, rv⟩ := rr.arr hx
    have el := rr.length
    have hj : ∀ m : Nat, m = xs.length → seqIndex? n m = some n.toNat := fun m hm => by
      subst hm
      unfold seqIndex?
      have h3 : ¬ n < 0 := by (first | lia | omega)
      simp only [if_neg h3]
      rw [if_pos (by simp; (first | lia | omega))]
    exact item_tupleT ⟨_, S.sub _ _ e, rfl, _, rfl⟩ (by (first | lia | omega)) h2 (j := n.toNat) (hj _ el) (by simpa using ev) (hQ F s _ _ dk .refl S rv h) (hi _ _)
theorem item_S {e i : Expr} {x : List Nat} {n : Int} {a : Nat} (h0 : 0 ≤ n) (h1 : n < x.length) (h2 : x.length < 2 ^ 62) (hx : x[n.toNat]? = some a) (h : P (.str [a]) dk) (hi : SubPlain i := by intro _ _; rfl) :
    Op2 c k (subscriptTail e i) (.str x) (.int n) dk P := by
  intro A F ρ s Q E b b' R S r1 r2 hQ
  cases r2; cases r1
  have e1 : (Str.mk x.toArray).length = x.length := by show x.toArray.size = _; simp
  have e2 : Txt.item (Str.mk x.toArray) n = ⟨[a].toArray⟩ := by
    have hj : seqIndex? n (Str.mk x.toArray).length = some n.toNat := by
      rw [e1]
      unfold seqIndex?
      have h3 : ¬ n < 0 := by (first | lia | omega)
      simp only [if_neg h3]
      rw [if_pos (by simp; (first | lia | omega))]
    unfold Txt.item Txt.charAt
    rw [hj]
    show (⟨#[((x.toArray)[n.toNat]?).getD 0]⟩ : Str) = _
    have : x.toArray[n.toNat]? = some a := by simpa using hx
    rw [this]; rfl
  refine item_str (fitsSsize_of (N := 9223372036854775808) (by (first | lia | omega)) (by (first | lia | omega)) (Int.le_refl _)) (by (first | lia | omega)) (by (first | lia | omega)) (fun _ => ?_) (hi _ _) (fun r => ?_)
  · rw [e2]; exact hQ F _ _ _ dk .tk S (.str [a] _) h
  · cases e <;> rfl

-- lists
theorem Reps.take {C : Addr} {F : Sto} : ∀ {vs : List Value} {xs : List V}, Reps C F vs xs → ∀ n, Reps C F (vs.take n) (xs.take n)
  | _, _, _, 0 => by simpa using Reps.nil
  | _, _, .nil, n + 1 => .nil
  | _, _, .cons h r, n + 1 => .cons h (r.take n)
theorem Reps.drop {C : Addr} {F : Sto} : ∀ {vs : List Value} {xs : List V}, Reps C F vs xs → ∀ n, Reps C F (vs.drop n) (xs.drop n)
  | _, _, r, 0 => r
  | _, _, .nil, n + 1 => .nil
  | _, _, .cons _ r, n + 1 => r.drop n

/-- the part of a slice: none or an int -/
def WPart (c : Fc) (k : Nat) (e : Option Expr) (ρ : Rho) (dk : List Int) (P : Option Int → List Int → Prop) : Prop :=
  match e with
  | none => P none dk
  | some e => WE c k e ρ dk fun v d => ∃ n, v = .int n ∧ P (some n) d
theorem WPart.wp {e : Option Expr} {P : Option Int → List Int → Prop} (h : WPart c k e ρ dk P) : Wp c k (fun _ v o => IsPart v o) (evalPart e c.env) ρ dk P := by
  intro A F s Q E R S hQ
  cases e with
  | none => exact wpAny_pure (hQ F s _ none dk .refl S .none h)
  | some e =>
    refine h A F s _ E R S fun F1 s1 a v d1 G1 S1 r1 p1 => ?_
    obtain ⟨n, rfl, p⟩ := p1
    cases r1
    exact hQ F1 s1 _ _ d1 G1 S1 (.int _ _) p
/-- what a slice picks, for bounds that are not negative -/
def cutL (xs : List V) : Option Int → Option Int → List V
  | none, none => xs
  | some a, none => xs.drop a.toNat
  | none, some b => xs.take b.toNat
  | some a, some b => (xs.drop a.toNat).take (b.toNat - a.toNat)
def cutOk (n : Nat) : Option Int → Option Int → Prop
  | none, none => True
  | some a, none => 0 ≤ a
  | none, some b => 0 ≤ b
  | some a, some b => 0 ≤ a ∧ a ≤ b ∧ b ≤ n
theorem slicePick_cut {C : Addr} {F : Sto} {vs : List Value} {xs : List V} (r : Reps C F vs xs) {lo hi : Option Int} (h : cutOk xs.length lo hi) : ∃ us, slicePick vs.toArray lo hi none = us.toArray ∧ Reps C F us (cutL xs lo hi) := by
  cases lo with
  | none =>
    cases hi with
    | none => exact ⟨vs, slicePick_all _, r⟩
    | some b =>
      have hb : (0 : Int) ≤ b := h
      have e := slicePick_upto' vs.toArray b.toNat
      rw [Int.toNat_of_nonneg hb] at e
      exact ⟨vs.take b.toNat, by simpa using e, r.take _⟩
  | some a =>
    cases hi with
    | none =>
      have ha : (0 : Int) ≤ a := h
      have e := slicePick_from' vs.toArray a.toNat
      rw [Int.toNat_of_nonneg ha] at e
      exact ⟨vs.drop a.toNat, by simpa using e, r.drop _⟩
    | some b =>
      obtain ⟨ha, hab, hb⟩ := h
      have el := r.length
      have e := slicePick_run vs.toArray a.toNat b.toNat (by simp only [List.size_toArray]; (first | lia | omega)) (by (first | lia | omega))
      rw [Int.toNat_of_nonneg ha, Int.toNat_of_nonneg (by (first | lia | omega) : (0 : Int) ≤ b)] at e
      exact ⟨(vs.drop a.toNat).take (b.toNat - a.toNat), by simpa using e, (r.drop _).take _⟩
theorem WE_slice {e : Expr} {lower upper : Option Expr} {p pos : Pos}
    (h : WE c k e ρ dk fun v d => ∃ xs, v = .list xs ∧ xs.length ≤ 100000 ∧ WPart c k lower ρ d fun lo d' => WPart c k upper ρ d' fun hi d'' => cutOk xs.length lo hi ∧ P (.list (cutL xs lo hi)) d'')
    (ht : ∀ o r, letTemporaryGo e o r = pure () := by intro _ _; rfl) : WE c k (.Subscript e (.Slice lower upper none p) pos) ρ dk P := by
  intro A F s Q E R S hQ
  refine wpAny_Subscript_list_slice (h A F s _ E R S fun F1 s1 a v d1 G1 S1 r1 p1 => ?_) ht
  obtain ⟨xs, rfl, hx, p1⟩ := p1
  refine p1.wp A F1 s1 _ E R S1 fun F2 s2 vl lo d2 G2 S2 q2 p2 => p2.wp A F2 s2 _ E R S2 fun F3 s3 vu hi d3 G3 S3 q3 p3 => ?_
  cases r1 with | list e rr =>
    have el := rr.length
    have k3 : ∀ a o, F1 a = some o → F3 a = some o := fun a o e => G3.nx.sub a o (G2.nx.sub a o e)
    obtain ⟨us, eu, ru⟩ := slicePick_cut (rr.mono k3) p3.1
    refine ⟨_, _, lo, hi, rfl, ⟨_, S3.sub _ _ (k3 _ _ e), rfl, _, rfl⟩, by simp only [List.size_toArray, sizeLine]; (first | lia | omega), q2, q3, ?_⟩
    rw [eu]
    have S4 := S3.mono (h' := s3.heap.push { cls := .type "slice", data := .fields #[vl, vu, .none] }) fun _ _ e => Heap.get?_push_of_some _ e
    obtain ⟨S5, N5⟩ := S4.push { cls := .type "list", data := .seq us.toArray }
    rw [Heap.size_push] at S5 N5
    have N4 : Nx c F3 F3 s3.heap (s3.heap.push { cls := .type "slice", data := .fields #[vl, vu, .none] }) := Nx.mono fun _ _ e => Heap.get?_push_of_some _ e
    exact hQ _ _ _ _ d3 (((G1.trans G2).trans G3).trans ⟨⟨_, s3.toks, rfl⟩, N4.trans N5⟩) S5 (.list ins_same (ru.mono N5.sub)) p3.2

theorem op_cat {xs ys : List V} (hn : xs.length + ys.length ≤ 100000) (h : P (.list (xs ++ ys)) dk) : Op2 c k (binaryOp .Add) (.list xs) (.list ys) dk P := by
  intro A F ρ s Q E a b R S r1 r2 hQ
  cases r1 with | list e1 q1 => cases r2 with | list e2 q2 =>
    obtain ⟨m, Fm, N, kk⟩ := S.led
    refine add_lists Fm N ⟨_, S.sub _ _ e1, rfl, _, rfl⟩ ⟨_, S.sub _ _ e2, rfl, _, rfl⟩ (fun h' F' N' => ?_) (by rw [q1.length, q2.length, sizeLine]; (first | lia | omega))
    obtain ⟨S', N''⟩ := kk h' _ F' N' fun _ x => .tail _ x
    obtain ⟨S2, N2⟩ := S.adopt S' N'' (get_none (Nat.le_refl _)) (N' _ (.head _)).1
    exact hQ _ _ _ _ dk (.of N2) S2 (.list ins_same ((Reps.append q2 q1).mono N2.sub)) h
theorem foldl_rep (x : Value) : ∀ (n : Nat) (acc : List Value), List.foldl (fun x1 x2 => x1 ++ x2) acc.toArray (List.replicate n #[x]) = (acc ++ List.replicate n x).toArray
  | 0, acc => by simp
  | n + 1, acc => by
    rw [List.replicate_succ, List.foldl_cons]
    have : (acc.toArray ++ #[x]) = (acc ++ [x]).toArray := by simp
    rw [this, foldl_rep x n (acc ++ [x])]
    simp [List.replicate_succ]
theorem Reps.replicate {C : Addr} {F : Sto} {v : Value} {x : V} (r : Rep C F v x) : ∀ n, Reps C F (List.replicate n v) (List.replicate n x)
  | 0 => .nil
  | n + 1 => .cons r (Reps.replicate r n)
theorem op_rep {x : V} {n : Int} (h0 : -(2 ^ 63 : Int) ≤ n) (hn : n ≤ 100000) (h : P (.list (List.replicate n.toNat x)) dk) : Op2 c k (binaryOp .Mult) (.list [x]) (.int n) dk P := by
  intro A F ρ s Q E a b R S r1 r2 hQ
  cases r2
  cases r1 with | list e1 q1 =>
    cases q1 with | @cons v0 _ _ _ q qq =>
    cases qq
    obtain ⟨m, Fm, N, kk⟩ := S.led
    refine mul_list Fm N (S.sub _ _ e1) h0 (by (first | lia | omega)) (by simp; (first | lia | omega)) (fun h' F' N' => ?_)
    obtain ⟨S', N''⟩ := kk h' _ F' N' fun _ x => .tail _ x
    obtain ⟨S2, N2⟩ := S.adopt S' N'' (get_none (Nat.le_refl _)) (N' _ (.head _)).1
    have eq := foldl_rep v0 n.toNat []
    refine hQ _ _ _ _ dk (.of N2) S2 (.list (n := 0) (vs := List.replicate n.toNat v0) ?_ ((Reps.replicate q n.toNat).mono N2.sub)) h
    rw [ins_same, ← List.nil_append (List.replicate n.toNat v0), ← eq]
    rfl

-- comparisons of data
theorem ints_reads {F : Sto} {h : Heap} : ∀ {vs : List Value} {ns : List Int}, Reps CT F vs (ns.map .int) → ReadsAll h vs (ns.map PyData.int) []
  | _, [], .nil => .nil
  | v :: vs, n :: ns, .cons r rr => by
    have hr : Reads h v (.int n) [] := by cases r; exact .int _ _
    have : ReadsAll h (v :: vs) (PyData.int n :: ns.map PyData.int) ([] ++ []) := .cons hr (ints_reads rr)
    exact this
theorem eqvAll_ints : ∀ ns ms : List Int, PyData.eqvAll (ns.map PyData.int) (ms.map PyData.int) = decide (ns = ms) := PySem.W.ked_eqvAll
theorem ints_shaped {ns : List Int} : PySem.SeqAt.shaped (.list (ns.map PyData.int)) = true ∧ PySem.SeqAt.shaped (.tuple (ns.map PyData.int)) = true := by
  have h1 : PyData.canLayAll0 (ns.map PyData.int) = true := PySem.W.ke_canLayAll0 _
  constructor <;> simp [PySem.SeqAt.shaped, PyData.canLay0, PyData.depth, PySem.W.ke_depthAll, h1]
theorem op_neL {xs ys : List Int} (h : P (.bool (!decide (xs = ys))) dk) : Op2 c (k + 4) (compareOp .NotEq) (.list (xs.map .int)) (.list (ys.map .int)) dk P := by
  intro A F ρ s Q E a b R S r1 r2 hQ
  cases r1 with | list e1 q1 => cases r2 with | list e2 q2 =>
    refine ne_dataH (reads_list_at (S.sub _ _ e1) rfl rfl (ints_reads q1)) (reads_list_at (S.sub _ _ e2) rfl rfl (ints_reads q2)) ints_shaped.1 ints_shaped.1 (by have := R.un; (first | lia | omega)) ?_
    have : PyData.eqv (.list (xs.map PyData.int)) (.list (ys.map PyData.int)) = decide (xs = ys) := by simp only [PyData.eqv]; exact eqvAll_ints _ _
    rw [this]
    exact hQ F s _ _ dk .refl S (.bool _) h
theorem op_neT {xs ys : List Int} (h : P (.bool (!decide (xs = ys))) dk) : Op2 c (k + 4) (compareOp .NotEq) (.tup (xs.map .int)) (.tup (ys.map .int)) dk P := by
  intro A F ρ s Q E a b R S r1 r2 hQ
  cases r1 with | tup e1 q1 => cases r2 with | tup e2 q2 =>
    refine ne_dataH (reads_tuple_at (S.sub _ _ e1) rfl rfl (ints_reads q1)) (reads_tuple_at (S.sub _ _ e2) rfl rfl (ints_reads q2)) ints_shaped.2 ints_shaped.2 (by have := R.un; (first | lia | omega)) ?_
    have : PyData.eqv (.tuple (xs.map PyData.int)) (.tuple (ys.map PyData.int)) = decide (xs = ys) := by simp only [PyData.eqv]; exact eqvAll_ints _ _
    rw [this]
    exact hQ F s _ _ dk .refl S (.bool _) h
theorem op_eqT {xs ys : List Int} (h : P (.bool (decide (xs = ys))) dk) : Op2 c (k + 4) (compareOp .Eq) (.tup (xs.map .int)) (.tup (ys.map .int)) dk P := by
  intro A F ρ s Q E a b R S r1 r2 hQ
  cases r1 with | tup e1 q1 => cases r2 with | tup e2 q2 =>
    refine eq_dataH (reads_tuple_at (S.sub _ _ e1) rfl rfl (ints_reads q1)) (reads_tuple_at (S.sub _ _ e2) rfl rfl (ints_reads q2)) ints_shaped.2 ints_shaped.2 (by have := R.un; (first | lia | omega)) ?_
    have : PyData.eqv (.tuple (xs.map PyData.int)) (.tuple (ys.map PyData.int)) = decide (xs = ys) := by simp only [PyData.eqv]; exact eqvAll_ints _ _
    rw [this]
    exact hQ F s _ _ dk .refl S (.bool _) h

/-- an int in a list of ints, by the values' own test -/
def isI (x : Int) : Value → Bool
  | .int n _ => n == x
  | _ => false
theorem any_ints {F : Sto} {x : Int} : ∀ {vs : List Value} {ns : List Int}, Reps CT F vs (ns.map .int) → vs.any (isI x) = decide (x ∈ ns) ∧ ∀ y ∈ vs, ∃ n t, y = Value.int n t
  | _, [], .nil => ⟨by simp, fun _ h => nomatch h⟩
  | _, n :: ns, .cons r rr => by
    obtain ⟨h1, h2⟩ := any_ints (x := x) rr
    cases r with | int _ t =>
    refine ⟨?_, fun y hy => ?_⟩
    · rw [List.any_cons, h1]
      by_cases q : n = x
      · subst q; simp [isI]
      · have : ¬ x = n := fun e => q e.symm
        simp [isI, q, this]
    · rcases List.mem_cons.mp hy with e | e
      · exact ⟨n, t, e⟩
      · exact h2 y e
theorem op_inL {x : Int} {ns : List Int} (h : P (.bool (decide (x ∈ ns))) dk) : Op2 c k (compareOp .In) (.int x) (.list (ns.map .int)) dk P := by
  intro A F ρ s Q E a b R S r1 r2 hQ
  cases r1 with | int _ t => cases r2 with | list e2 q2 =>
    obtain ⟨h1, h2⟩ := any_ints (x := x) q2
    refine SeqRoads2.in_list (isI x) (fun y hy => ?_) (S.sub _ _ e2) ?_
    · obtain ⟨n, u, rfl⟩ := h2 y (by simpa using hy)
      exact MeetsSeq.EqGives.int n x u t
    · rw [List.any_toArray, h1]
      exact hQ F s _ _ dk .refl S (.bool _) h
theorem op_inT {x : Int} {ns : List Int} (h : P (.bool (decide (x ∈ ns))) dk) : Op2 c k (compareOp .In) (.int x) (.tup (ns.map .int)) dk P := by
  intro A F ρ s Q E a b R S r1 r2 hQ
  cases r1 with | int _ t => cases r2 with | tup e2 q2 =>
    obtain ⟨h1, h2⟩ := any_ints (x := x) q2
    refine SeqRoads2.in_tuple (isI x) (fun y hy => ?_) (S.sub _ _ e2) ?_
    · obtain ⟨n, u, rfl⟩ := h2 y (by simpa using hy)
      exact MeetsSeq.EqGives.int n x u t
    · rw [List.any_toArray, h1]
      exact hQ F s _ _ dk .refl S (.bool _) h
end

-- M6
section
variable {c : Fc} {k : Nat} {ρ : Rho} {dk : List Int} {P : V → List Int → Prop}

theorem kv_get (p : Params) : plainGet (Mine.topK p) CT "codes" = true := by rfl
theorem kv_dict (p : Params) : hasDictIn (Mine.topK p) CT = true := by rfl

theorem view_inst {F : Sto} {h : Heap} {x dx : Addr} {es : List DictEntry} {n : Nat} (k : ∀ a o, F a = some o → h.get? a = some o) (e : F x = some (instObj CT dx)) (e2 : F dx = some (dictOf es n)) :
    PySem.W.InstAt h x (instObj CT dx) CT (some (dictOf es n)) := ⟨k _ _ e, rfl, rfl, k _ _ e2⟩

/-- an attribute of a text row's -/
theorem WE_codes {x : Str} {p pos : Pos} (h : WE c k (.Name x p) ρ dk fun v d => ∃ xs f, v = .view xs f ∧ P (.list xs) d) : WE c k (.Attribute (.Name x p) "codes" pos) ρ dk P := by
  intro A F s Q E R S hQ
  refine Attribute_name (h A F s _ E R S fun F1 s1 a v d1 G1 S1 r1 p1 => ?_)
  obtain ⟨xs, f, rfl, p⟩ := p1
  cases r1 with
  | view e1 e2 r =>
    refine get_value S1.kin (view_inst S1.sub e1 e2) (plainGet_of (kv_get _)).1 (findObj_own (kv_dict _) (by rfl) (by rfl) (by rfl)) ?_ (hQ F1 _ _ _ d1 (G1.trans .tk) S1 r p)
    cases r; rfl
theorem WE_place {x : Str} {p pos : Pos} (h : WE c k (.Name x p) ρ dk fun v d => ∃ xs f, v = .view xs f ∧ P (.int f) d) : WE c k (.Attribute (.Name x p) "place" pos) ρ dk P := by
  intro A F s Q E R S hQ
  refine Attribute_name (h A F s _ E R S fun F1 s1 a v d1 G1 S1 r1 p1 => ?_)
  obtain ⟨xs, f, rfl, p⟩ := p1
  cases r1 with
  | view e1 e2 r =>
    exact get_value S1.kin (view_inst S1.sub e1 e2) (plainGet_of (kv_get _)).1 (findObj_own (kv_dict _) (by rfl) (by rfl) (by rfl)) rfl (hQ F1 _ _ _ d1 (G1.trans .tk) S1 (.int _ _) p)

/-- a method of a text row's: without arguments, with one -/
theorem WE_vm0 {o : Expr} {name : Str} {fa : Addr} {apos pos : Pos} {pl : Sem Bool} (hf : ∀ p, findIn (Mine.topK p) (.ref CT) name = some (some (.ref fa))) (ht : ∀ p, typeIn (Mine.topK p) (.ref fa) = some (.type "function"))
    (hk : ∀ p, keepIn (Mine.topK p) (.ref fa) = true) (hs : ∀ h1 h2 t1 t2 a b n, shadowIn (some (dictOf [⟨h1, .str "codes" t1, a⟩, ⟨h2, .str "place" t2, b⟩] n)) name = some false)
    (h : WE c k o ρ dk fun v d => ∃ xs f, v = .view xs f ∧ CallW c k (.ref fa) [.view xs f] d P)
    (he : eval (.Call (.Attribute o name apos) [] [] pos) c.env = (do
      let ov ← eval o c.env
      standAt apos.atName
      let (f, first) ← holding [ov] (getMethod ov name pl)
      callWith pos f first (backTo pos (starEach [] c.env)) []) := by rfl) : WE c k (.Call (.Attribute o name apos) [] [] pos) ρ dk P := by
  intro A F s Q E R S hQ
  refine MethodCall_ (h A F s _ E R S fun F1 s1 a v d1 G1 S1 r1 p1 => ?_) he
  obtain ⟨xs, f, rfl, p⟩ := p1
  cases r1 with
  | @view x _ _ _ _ _ _ _ _ _ _ e1 e2 r =>
    refine method_fn S1.kin (view_inst S1.sub e1 e2) (plainGet_of (kv_get _)).1 (plainGet_of (kv_get _)).2 (hf _) (ht _) (hs _ _ _ _ _ _ _) ?_
    refine callWith_K0 S1.kin (hk _) ?_
    exact p A F1 ρ s1 Q E [.ref x] R S1 (.cons (.view e1 e2 r) .nil) fun F2 s2 y z d2 G2 S2 r2 p2 => hQ F2 s2 y z d2 (G1.trans G2) S2 r2 p2
theorem WE_vm1 {o e : Expr} {name : Str} {fa : Addr} {apos pos : Pos} {pl : Sem Bool} (hf : ∀ p, findIn (Mine.topK p) (.ref CT) name = some (some (.ref fa))) (ht : ∀ p, typeIn (Mine.topK p) (.ref fa) = some (.type "function"))
    (hk : ∀ p, keepIn (Mine.topK p) (.ref fa) = true) (hs : ∀ h1 h2 t1 t2 a b n, shadowIn (some (dictOf [⟨h1, .str "codes" t1, a⟩, ⟨h2, .str "place" t2, b⟩] n)) name = some false)
    (h : WE c k o ρ dk fun v d => ∃ xs f, v = .view xs f ∧ WE c k e ρ d fun u d' => CallW c k (.ref fa) [.view xs f, u] d' P) (hn : NS e := by intro _ _; rfl)
    (he : eval (.Call (.Attribute o name apos) [e] [] pos) c.env = (do
      let ov ← eval o c.env
      standAt apos.atName
      let (f, first) ← holding [ov] (getMethod ov name pl)
      callWith pos f first (backTo pos (starEach [e] c.env)) []) := by rfl) : WE c k (.Call (.Attribute o name apos) [e] [] pos) ρ dk P := by
  intro A F s Q E R S hQ
  refine MethodCall_ (h A F s _ E R S fun F1 s1 a v d1 G1 S1 r1 p1 => ?_) he
  obtain ⟨xs, f, rfl, p⟩ := p1
  cases r1 with
  | @view x _ _ _ _ _ _ _ _ _ _ e1 e2 r =>
    refine method_fn S1.kin (view_inst S1.sub e1 e2) (plainGet_of (kv_get _)).1 (plainGet_of (kv_get _)).2 (hf _) (ht _) (hs _ _ _ _ _ _ _) ?_
    refine callWith_mine (P := fun vs d' => ∃ u, vs = [u] ∧ CallW c k (.ref fa) [.view xs f, u] d' P) (.inr (.inr hk)) R S1 hn (fun _ => rfl) (WA_cons (p.mono fun u d q => WA_nil ⟨u, rfl, q⟩) hn) fun F2 s2 ws vs d2 G2 S2 r2 p2 => ?_
    obtain ⟨u, rfl, q⟩ := p2
    exact q A F2 ρ s2 Q E (.ref x :: ws) R S2 (.cons ((Rep.view e1 e2 r).mono G2.nx.sub) r2) fun F3 s3 y z d3 G3 S3 r3 p3 => hQ F3 s3 y z d3 ((G1.trans G2).trans G3) S3 r3 p3
end

-- M7
/-- an iterator that stands at I and gives xs -/
structure Itr (w : World) (F : Sto) (I : Addr) (xs : List V) (St : Nat → Heap → Prop) : Prop where
  item : ∀ (A : Around) (i : Nat) (y : V) (F' : Sto) (s : Shared) (Q : Option Value → Shared → Prop) (E : Value → Shared → Prop), A.handled = none → xs[i]? = some y → St i s.heap → (∀ a o, F a = some o → F' a = some o) → (∀ a o, F' a = some o → s.heap.get? a = some o) →
    (∀ v h' tk, Rep CT F' v y → St (i + 1) h' → (∀ b o, b ≠ I → s.heap.get? b = some o → h'.get? b = some o) → Q (some v) { s with heap := h', toks := tk }) → wpAny (model PR w) A (pyNext (.ref I)) Q E s
  done : ∀ (A : Around) (s : Shared) (Q : Option Value → Shared → Prop) (E : Value → Shared → Prop), A.handled = none → St xs.length s.heap → (∀ a o, F a = some o → s.heap.get? a = some o) →
    (∀ h' tk, (∀ b o, b ≠ I → s.heap.get? b = some o → h'.get? b = some o) → Q none { s with heap := h', toks := tk }) → wpAny (model PR w) A (pyNext (.ref I)) Q E s
  self : ∀ (A : Around) (i : Nat) (s : Shared) (Q : Value → Shared → Prop) (E : Value → Shared → Prop), A.handled = none → St i s.heap → (∀ a o, F a = some o → s.heap.get? a = some o) → Q (.ref I) s → wpAny (model PR w) A (pyIter (.ref I)) Q E s
  frame : ∀ (i : Nat) (h h' : Heap), St i h → (∀ o, h.get? I = some o → h'.get? I = some o) → St i h'
  live : ∀ (i : Nat) (h : Heap), St i h → ∃ o, h.get? I = some o ∧ ∀ v, o.data ≠ .cell v

theorem Itr.list {w : World} {F : Sto} {I a : Addr} {vs : List Value} {n : Nat} {xs : List V} (e : F a = some { cls := .type "list", data := .seq vs.toArray n }) (r : Reps CT F vs xs) (hne : a ≠ I) : Itr w F I xs (fun i h => h.IsListIter I a i) where
  item := fun A i y F' s Q E hh hy st k k' hQ => by
    obtain ⟨v, ev, rv⟩ := r.arr hy
    refine wpAny_pyNext_list_item st ⟨_, k' _ _ (k _ _ e), rfl, _, rfl⟩ ev fun h' st' hs => ?_
    exact hQ v h' s.toks (rv.mono k) st' fun b o hb eb => (hs.2 b hb).trans eb
  done := fun A s Q E hh st k hQ => by
    refine wpAny_pyNext_list_end hh st ⟨_, k _ _ e, rfl, _, rfl⟩ (by simp [r.length]) fun h' hs => ?_
    exact hQ h' s.toks fun b o hb eb => hs b o hb eb
  self := fun A i s Q E hh st k hQ => wpAny_pyIter_listiter st hQ
  frame := fun i h h' st k => by obtain ⟨o, e1, e2⟩ := st; exact ⟨o, k o e1, e2⟩
  live := fun i h st => by
    obtain ⟨o, e1, e2, e3⟩ := st
    exact ⟨o, e1, fun v q => by rw [e3] at q; cases q⟩

def rangeL (a : Int) : Nat → List V
  | 0 => []
  | n + 1 => .int a :: rangeL (a + 1) n
theorem rangeL_len : ∀ {n : Nat} {a : Int}, (rangeL a n).length = n
  | 0, _ => rfl
  | n + 1, a => by rw [rangeL, List.length_cons, rangeL_len]
theorem rangeL_get : ∀ {n : Nat} {a : Int} {i : Nat}, (rangeL a n)[i]? = if i < n then some (.int (a + i)) else none
  | 0, _, _ => by simp [rangeL]
  | n + 1, a, 0 => by simp [rangeL]
  | n + 1, a, i + 1 => by
    rw [rangeL, List.getElem?_cons_succ, rangeL_get]
    by_cases h : i < n
    · rw [if_pos h, if_pos (by (first | lia | omega))]
      have : a + 1 + (i : Int) = a + ((i + 1 : Nat) : Int) := by (first | lia | omega)
      rw [this]
    · rw [if_neg h, if_neg (by (first | lia | omega))]
theorem Itr.range {w : World} {F : Sto} {I : Addr} {a : Int} {n : Nat} : Itr w F I (rangeL a n) (fun i h => IsRangeIter h I (a + (i : Nat)) ((n : Int) - (i : Nat)) 1) where
  item := fun A i y F' s Q E hh hy st k k' hQ => by
    rw [rangeL_get] at hy
    by_cases hi : i < n
    · rw [if_pos hi] at hy; cases hy
      refine wpAny_pyNext_range_item st (by (first | lia | omega)) fun h' st' hs => ?_
      refine hQ _ h' _ (.int _ _) ?_ fun b o hb eb => (hs.2 b hb).trans eb
      have e1 : a + (i : Int) + 1 = a + ((i + 1 : Nat) : Int) := by (first | lia | omega)
      have e2 : (n : Int) - (i : Int) - 1 = (n : Int) - ((i + 1 : Nat) : Int) := by (first | lia | omega)
      rw [← e1, ← e2]; exact st'
    · rw [if_neg hi] at hy; cases hy
  done := fun A s Q E hh st k hQ => by
    refine wpAny_pyNext_range_end hh st (by rw [rangeL_len]; (first | lia | omega)) fun h' hs => ?_
    exact hQ h' s.toks fun b o hb eb => hs b o hb eb
  self := fun A i s Q E hh st k hQ => by
    have W := Walks.range (prog := PR) (w := w) hh I a 1 n
    refine W.self i s Q E ?_ hQ
    rw [Int.mul_one]; exact st
  frame := fun i h h' st k => k _ st
  live := fun i h st => ⟨_, st, fun v q => by cases q⟩

/-- the signs of a text, each a text -/
def signsL (x : List Nat) : List V := x.map fun n => .str [n]
theorem Itr.ascii {w : World} {F : Sto} {I : Addr} {x : List Nat} {t : Tok} : Itr w F I (signsL x) (fun i h => h.IsStrIter I "str_ascii_iterator" ⟨x.toArray⟩ t i) where
  item := fun A i y F' s Q E hh hy st k k' hQ => by
    obtain ⟨n, hn, rfl⟩ : ∃ n, x[i]? = some n ∧ V.str [n] = y := by simpa [signsL] using hy
    exact wpAny_pyNext_ascii_item st (c := n) (by simpa using hn) fun h' st' hs => hQ _ h' _ (.str [n] _) st' fun b o hb eb => (hs.2 b hb).trans eb
  done := fun A s Q E hh st k hQ => wpAny_pyNext_ascii_end hh st (by simp [signsL]) fun h' hs => hQ h' s.toks fun b o hb eb => hs b o hb eb
  self := fun A i s Q E hh st k hQ => wpAny_pyIter_striter_ascii st hQ
  frame := fun i h h' st k => by obtain ⟨o, e1, e2⟩ := st; exact ⟨o, k o e1, e2⟩
  live := fun i h st => by
    obtain ⟨o, e1, e2, e3⟩ := st
    exact ⟨o, e1, fun v q => by rw [e3] at q; cases q⟩
theorem Itr.wide {w : World} {F : Sto} {I : Addr} {x : List Nat} {t : Tok} : Itr w F I (signsL x) (fun i h => h.IsStrIter I "str_iterator" ⟨x.toArray⟩ t i) where
  item := fun A i y F' s Q E hh hy st k k' hQ => by
    obtain ⟨n, hn, rfl⟩ : ∃ n, x[i]? = some n ∧ V.str [n] = y := by simpa [signsL] using hy
    exact wpAny_pyNext_wide_item st (c := n) (by simpa using hn) fun h' st' hs => hQ _ h' _ (.str [n] _) st' fun b o hb eb => (hs.2 b hb).trans eb
  done := fun A s Q E hh st k hQ => wpAny_pyNext_wide_end hh st (by simp [signsL]) fun h' hs => hQ h' s.toks fun b o hb eb => hs b o hb eb
  self := fun A i s Q E hh st k hQ => wpAny_pyIter_striter_wide st hQ
  frame := fun i h h' st k => by obtain ⟨o, e1, e2⟩ := st; exact ⟨o, k o e1, e2⟩
  live := fun i h st => by
    obtain ⟨o, e1, e2, e3⟩ := st
    exact ⟨o, e1, fun v q => by rw [e3] at q; cases q⟩

/-- what a value gives when it is walked -/
inductive SeqOf : V → List V → Prop
  | list (xs : List V) : SeqOf (.list xs) xs
  | str (x : List Nat) : SeqOf (.str x) (signsL x)
  | rng (a b : Int) : -(2 ^ 62) ≤ a → a < 2 ^ 62 → -(2 ^ 62) ≤ b → b < 2 ^ 62 → SeqOf (.rng a b) (rangeL a (b - a).toNat)

section
variable {c : Fc} {k : Nat} {ρ : Rho} {dk : List Int}

theorem iter_ok {w : Value} {v : V} {xs : List V} {A : Around} {F : Sto} {s : Shared} {Q : Value → Shared → Prop} {E : Value → Shared → Prop} (S : Sta c F ρ dk s.heap) (r : Rep CT F w v) (hs : SeqOf v xs)
    (hQ : ∀ (o : Obj) (St : Nat → Heap → Prop), o.isFreed = false → Itr c.g.w F s.heap.objs.size xs St → St 0 (s.heap.push o) → Q (.ref s.heap.objs.size) { s with heap := s.heap.push o }) :
    wpAny (model PR c.g.w) A (pyIter w) Q E s := by
  cases hs with
  | list =>
    cases r with | list e rr =>
      refine wpAny_pyIter_list ⟨_, S.sub _ _ e, rfl, _, rfl⟩ (hQ _ _ rfl (Itr.list e rr fun q => ?_) ⟨_, Heap.get?_push_size _ rfl, rfl, rfl⟩)
      subst q
      exact absurd (Heap.lt_size (S.sub _ _ e)) (Nat.lt_irrefl _)
  | str x =>
    cases r with | str _ t =>
      cases ha : (Str.mk x.toArray).cps.all (· < 128) with
      | false => exact wpAny_pyIter_wide ha (hQ _ _ rfl (Itr.wide (t := t)) ⟨_, Heap.get?_push_size _ rfl, rfl, rfl⟩)
      | true => exact wpAny_pyIter_ascii ha (hQ _ _ rfl (Itr.ascii (t := t)) ⟨_, Heap.get?_push_size _ rfl, rfl, rfl⟩)
  | rng a b h1 h2 h3 h4 =>
    cases r with | rng e =>
      refine wpAny_pyIter_range (S.sub _ _ e) (small_one h1 h2 h3 h4) (hQ _ _ rfl (Itr.range (a := a) (n := (b - a).toNat)) ?_)
      rw [rangeSize_nat]
      show IsRangeIter _ _ _ _ _
      have e1 : a + ((0 : Nat) : Int) = a := by (first | lia | omega)
      have e2 : ((b - a).toNat : Int) - ((0 : Nat) : Int) = ((b - a).toNat : Int) := by (first | lia | omega)
      rw [e1, e2]
      exact Heap.get?_push_size _ rfl

theorem c_range1 {n : Int} {P : V → List Int → Prop} (h : P (.rng 0 n) dk) : CallW c k (.type "range") [.int n] dk P := by
  intro A F ρ s Q E ws R S r hQ
  cases r with | cons r1 r2 =>
    cases r2; cases r1
    obtain ⟨m, Fm, N, kk⟩ := S.led
    refine range1_rows Fm N fun h' tk t u v hr F' N' hk => ?_
    obtain ⟨S2, N2⟩ := S.new hk (get_none (Nat.le_refl _)) hr
    exact hQ _ _ _ _ dk (.of N2) S2 (.rng ins_same) h
theorem c_range2 {a b : Int} {P : V → List Int → Prop} (h : P (.rng a b) dk) : CallW c k (.type "range") [.int a, .int b] dk P := by
  intro A F ρ s Q E ws R S r hQ
  cases r with | cons r1 r2 => cases r2 with | cons r2 r3 =>
    cases r3; cases r1; cases r2
    obtain ⟨m, Fm, N, kk⟩ := S.led
    refine range2_rows Fm N fun h' tk t u v hr F' N' hk => ?_
    obtain ⟨S2, N2⟩ := S.new hk (get_none (Nat.le_refl _)) hr
    exact hQ _ _ _ _ dk (.of N2) S2 (.rng ins_same) h
theorem c_list {xs : List V} {P : V → List Int → Prop} (hn : xs.length ≤ 100000) (h : P (.list xs) dk) : CallW c k (.type "list") [.list xs] dk P := by
  intro A F ρ s Q E ws R S r hQ
  cases r with | cons r1 r2 =>
    cases r2
    cases r1 with | list e rr =>
      obtain ⟨m, Fm, N, kk⟩ := S.led
      refine list_copyLP Fm N ⟨_, S.sub _ _ e, rfl, _, rfl⟩ (fun h' F' hk _ _ np => ?_) (by have := rr.length; simp only [List.size_toArray, sizeLine]; (first | lia | omega))
      obtain ⟨⟨n, e'⟩, _⟩ := np
      obtain ⟨S2, N2⟩ := S.new hk (get_none (Nat.le_refl _)) e'
      exact hQ _ _ _ _ dk ⟨⟨_, s.toks, rfl⟩, N2⟩ S2 (.list ins_same (rr.mono N2.sub)) h

/-- all but one private object stays -/
theorem Sta.but {F : Sto} {h h' : Heap} {I : Addr} (S : Sta c F ρ dk h) (kk : ∀ a o, a ≠ I → h.get? a = some o → h'.get? a = some o) (hF : F I = none) (hM : ¬ c.Mut I) (hl : ∃ o, h.get? I = some o ∧ ∀ v, o.data ≠ .cell v) : Sta c F ρ dk h' where
  base := S.base
  sub := fun a o e => kk a o (by rintro rfl; rw [hF] at e; cases e) (S.sub a o e)
  mt := fun a ha => by
    obtain ⟨e, o, ho⟩ := S.mt a ha
    exact ⟨e, o, kk a o (by rintro rfl; exact hM ha) ho⟩
  deck := fun D hD => by
    obtain ⟨vs, n, e, i⟩ := S.deck D hD
    exact ⟨vs, n, kk _ _ (by rintro rfl; exact hM (.inr (.inl hD))) e, i⟩
  ns := by
    obtain ⟨m, hn, hv⟩ := S.ns
    refine ⟨m, hn.at' fun o e => kk _ o (by rintro rfl; exact hM (.inl rfl)) e, fun x v e => ?_⟩
    rcases hv x v e with ⟨a, w, b, r⟩ | ⟨a, d, o, w, b1, b2, b3, r⟩
    · exact .inl ⟨a, w, b, r⟩
    · refine .inr ⟨a, d, o, w, b1, kk _ _ ?_ b2, b3, r⟩
      rintro rfl
      obtain ⟨o', e1, e2⟩ := hl
      rw [e1] at b2; cases b2; exact e2 _ b3
  cel := fun a ha => by
    obtain ⟨o, u, e, d⟩ := S.cel a ha
    exact ⟨o, u, kk _ _ (by rintro rfl; exact hM (.inr (.inr ha))) e, d⟩
theorem NxM.step {M : Addr → Prop} {F F' : Sto} {h0 h h' : Heap} {I : Addr} (x : NxM M F F' h0 h) (kk : ∀ a o, a ≠ I → h.get? a = some o → h'.get? a = some o) (hI : h0.get? I = none) : NxM M F F' h0 h' := by
  have ne : ∀ a o, h0.get? a = some o → a ≠ I := fun a o e q => by rw [q, hI] at e; cases e
  refine ⟨x.sub, x.out, fun a o e n => kk a o (ne a o e) (x.keep a o e n), fun a o e => ?_⟩
  obtain ⟨o', e'⟩ := x.live a o e
  exact ⟨o', kk a o' (ne a o e) e'⟩
theorem Sta.weak {ρ' : Rho} {F : Sto} {h : Heap} (S : Sta c F ρ dk h) (hw : ∀ x v, ρ'.lookup x = some v → ρ.lookup x = some v) : Sta c F ρ' dk h :=
  ⟨S.base, S.sub, S.mt, S.deck, by obtain ⟨m, hn, hv⟩ := S.ns; exact ⟨m, hn, fun x v e => hv x v (hw x v e)⟩, S.cel⟩

theorem Sta.fresh {F : Sto} {h : Heap} (S : Sta c F ρ dk h) {I : Addr} (hI : h.get? I = none) : F I = none ∧ ¬ c.Mut I := by
  constructor
  · cases e : F I with
    | none => rfl
    | some o => rw [S.sub _ _ e] at hI; cases hI
  · intro q
    obtain ⟨_, o, e⟩ := S.mt I q
    rw [e] at hI; cases hI

end

-- M8
/-- the cells that a comprehension takes along -/
def clOf (env : Env) : List (Str × NameKind) → List (Str × Addr) → List (Str × Addr)
  | [], acc => acc
  | (n, kd) :: r, acc => clOf env r (if kd == .free then (n, (env.cells.lookup n).getD 0) :: acc else acc)
theorem closureFor_clOf {scope : Scope} {env : Env} (h : ∀ n, (n, NameKind.free) ∈ scope.names → (env.cells.lookup n).isSome = true) : closureFor scope env = pure (clOf env scope.names []) := by
  unfold closureFor
  have : ∀ (l : List (Str × NameKind)) (acc : List (Str × Addr)), (∀ n, (n, NameKind.free) ∈ l → (env.cells.lookup n).isSome = true) →
      (forIn l acc fun (x : Str × NameKind) cs => (match x with | (name, kind) => if kind == .free then (do let a ← cellOf env name; pure (ForInStep.yield ((name, a) :: cs))) else pure (ForInStep.yield cs) : Sem (ForInStep (List (Str × Addr))))) = pure (clOf env l acc) := by
    intro l
    induction l with
    | nil => intro acc _; rfl
    | cons x r ih =>
      obtain ⟨n, kd⟩ := x
      intro acc hl
      rw [List.forIn_cons]
      by_cases hk : (kd == NameKind.free) = true
      · obtain ⟨a, ha⟩ := Option.isSome_iff_exists.mp (hl n (by rw [eq_of_beq hk]; exact .head _))
        simp only [hk, if_true, clOf, cellOf, ha, Option.getD_some]
        exact ih _ fun n hn => hl n (.tail _ hn)
      · simp only [if_neg hk, clOf]
        exact ih _ fun n hn => hl n (.tail _ hn)
  have h' := this scope.names [] h
  exact congrArg (fun t : Sem (List (Str × Addr)) => t >>= fun cs => pure cs) h'

section
variable {c : Fc} {k : Nat} {ρ : Rho} {dk : List Int}

/-- the frame of a comprehension in c -/
def Fc.comp (c : Fc) (scope : Scope) (C : Addr) (hk : scope.kind = .function) : Fc :=
  { g := c.g, env := compEnvC scope (clOf c.env scope.names []) C c.env, D := c.D, own := [], kf := hk, gl := c.gl, bl := c.bl }

/-- at most one test of a comprehension -/
def WIfs (c : Fc) (k : Nat) (ifs : List Expr) (ρ : Rho) (dk : List Int) (P : Bool → List Int → Prop) : Prop :=
  match ifs with
  | [] => P true dk
  | [t] => WT c k t ρ dk P
  | _ => False
theorem WIfs.wp {ifs : List Expr} {P : Bool → List Int → Prop} (h : WIfs c k ifs ρ dk P) :
    Wp c k (fun _ (b b' : Bool) => b = b') (forIn ifs true fun e r => if r = true then do let ok ← isTrue e c.env (eval e c.env); pure (ForInStep.yield ok) else pure (ForInStep.yield r)) ρ dk P := by
  intro A F s Q E R S hQ
  match ifs, h with
  | [], h => exact wpAny_pure (hQ F s true true dk .refl S rfl h)
  | [t], h =>
    rw [List.forIn_cons]
    refine wpAny_bind (wpAny_bind (h A F s _ E R S fun F1 s1 a v d1 G1 S1 r1 p1 => ?_))
    exact wpAny_pure (wpAny_pure (hQ F1 s1 a v d1 G1 S1 r1 p1))

/-- what is seen in a comprehension from without -/
def Seen (c : Fc) (scope : Scope) (ρ ρf : Rho) : Prop :=
  ∀ x v, ρf.lookup x = some v → ρ.lookup x = some v ∧ c.env.kindOf x = some .cell ∧ (relabel scope c.env).names.lookup x = some .cell ∧ (clOf c.env scope.names []).lookup x = c.env.cells.lookup x
theorem Seen.nil {scope : Scope} : Seen c scope ρ [] := fun _ _ e => by cases e

variable {F1 : Sto} {d1 : List Int} {s1 : Shared}
/-- a private object enters F -/
theorem Sta.adopt2 {M : Addr → Prop} {F0 F : Sto} {ρ0 : Rho} {d0 : List Int} {h0 h' : Heap} {n : Addr} {o : Obj} (S0 : Sta c F0 ρ0 d0 h0) (S : Sta c F ρ dk h') (N : NxM M F0 F h0 h') (hn : h0.get? n = none) (hF : F n = none) (ho : h'.get? n = some o) :
    Sta c (ins F n o) ρ dk h' ∧ NxM M F0 (ins F n o) h0 h' := by
  have k1 : ∀ a o₁, F a = some o₁ → ins F n o a = some o₁ := fun a o₁ e => by
    rw [ins_ne]; exact e
    rintro rfl; rw [hF] at e; cases e
  have k2 : ∀ a o₁, h0.get? a = some o₁ → F a = none → ins F n o a = none := fun a o₁ e e' => by
    rw [ins_ne]; exact e'
    rintro rfl; rw [hn] at e; cases e
  refine ⟨⟨fun a o e => k1 a o (S.base a o e), fun a o₁ e => ?_, fun a ha => ?_, S.deck, ?_, S.cel⟩, fun a o e => k1 a o (N.sub a o e), fun a o e n' => k2 a o e (N.out a o e n'), N.keep, N.live⟩
  · by_cases q : a = n
    · subst q; rw [ins_same] at e; cases e; exact ho
    · rw [ins_ne q] at e; exact S.sub a o₁ e
  · obtain ⟨o₁, e₁⟩ := (S0.mt a ha).2
    exact ⟨k2 a o₁ e₁ (S.mt a ha).1, (S.mt a ha).2⟩
  · obtain ⟨m, hn, hv⟩ := S.ns
    refine ⟨m, hn, fun x v e => ?_⟩
    rcases hv x v e with ⟨a, w, b, r⟩ | ⟨a, d, o, w, b1, b2, b3, r⟩
    · exact .inl ⟨a, w, b, r.mono k1⟩
    · exact .inr ⟨a, d, o, w, b1, b2, b3, r.mono k1⟩
theorem PlainList.live {h : Heap} {D : Addr} {ys : Array Value} (x : h.PlainList D ys) : ∃ o, h.get? D = some o ∧ ∀ v, o.data ≠ .cell v := by
  obtain ⟨n, e⟩ := x
  exact ⟨_, e, fun v q => by cases q⟩

theorem comp_core {elt iter : Expr} {x : Str} {px : Pos} {ifs : List Expr} {scope : Scope} {pos : Pos} {ρf : Rho} {xs : List V} {o : Obj} {St : Nat → Heap → Prop} {A : Around} {RR : Value → Addr → Result → Shared → Prop} {E : Value → Shared → Prop}
    (J : Nat → List V → List Int → Prop) (hkind : scope.kind = .function) (hcell : ∀ y ∈ scope.names, y.2 ≠ .cell) (hx : scope.names.lookup x = some .local) (hseen : Seen c scope ρ ρf) (hxf : ρf.lookup x = none)
    (R : Room A k) (S1 : Sta c F1 ρ d1 s1.heap) (IT : Itr c.g.w F1 s1.heap.objs.size xs St) (st0 : St 0 (s1.heap.push o)) (hn : xs.length ≤ 100000) (h0 : J 0 [] d1)
    (turn : ∀ C i acc d y, xs[i]? = some y → J i acc d → WIfs (c.comp scope C hkind) k ifs (ρf.set x y) d fun b d' =>
      (b = true → WE (c.comp scope C hkind) k elt (ρf.set x y) d' fun u d'' => J (i + 1) (acc ++ [u]) d'') ∧ (b = false → J (i + 1) acc d'))
    (hRR : ∀ D C F' h' t' d' acc, s1.heap.get? D = none → s1.heap.get? C = none → Nx c F1 F' s1.heap h' → Sta c F' ρ d' h' → Rep CT F' (.ref D) (.list acc) → F' C = none → (∃ m, h'.Ns C m) → J xs.length acc d' → RR (.ref D) C (.ok .next) { s1 with heap := h', toks := t' }) :
    wpAny (model PR c.g.w) A (newList []) (fun acc s₃ => wpAny (model PR c.g.w) A (newFunctionEnv scope c.env.globals (clOf c.env scope.names []) [] c.env.qual none .none (some c.env)) (fun cenv s₄ =>
      codeAny (model PR c.g.w) A (.compStart (.ListComp elt [⟨.Name x px, iter, ifs, 0⟩] scope pos) 0 (.ref s1.heap.objs.size) acc { cenv with scope := relabel scope c.env }) (RR acc cenv.locals) s₄) E s₃) E { s1 with heap := s1.heap.push o } := by
  refine wpAny_newObj_type (wpAny_newFunctionEnv hcell (by intro y hy; cases hy) (fun h₁ hns₁ hsb₁ => ?_) hkind)
  dsimp only at hns₁ hsb₁ ⊢
  generalize hH2 : (s1.heap.push o).push { cls := .type "list", dict := none, data := .seq ([] : List Value).toArray } = H2 at hns₁ hsb₁ ⊢
  have hD : (s1.heap.push o).objs.size = s1.heap.objs.size + 1 := Heap.size_push ..
  have hC : H2.objs.size = s1.heap.objs.size + 2 := by rw [← hH2, Heap.size_push, hD]
  rw [hD]
  generalize hI : s1.heap.objs.size = it at *
  have hIn : s1.heap.get? it = none := get_none (Nat.le_of_eq hI)
  have hDn : s1.heap.get? (it + 1) = none := get_none (by (first | lia | omega))
  have hCn : s1.heap.get? H2.objs.size = none := get_none (by (first | lia | omega))
  have old2 : ∀ a o', (s1.heap.push o).get? a = some o' → h₁.get? a = some o' := fun a o' e => hsb₁.extBut a o' (by
    have := Heap.lt_size e; rw [hD] at this
    exact Nat.ne_of_lt (Nat.lt_of_lt_of_le this (by (first | lia | omega)))) (Heap.get?_push_of_some _ (hH2 ▸ Heap.get?_push_of_some _ e))
  have old : ∀ a o', s1.heap.get? a = some o' → h₁.get? a = some o' := fun a o' e => old2 a o' (Heap.get?_push_of_some _ e)
  have e0 : H2.get? (it + 1) = some { cls := .type "list", dict := none, data := .seq ([] : List Value).toArray } := by rw [← hH2, ← hD]; exact Heap.get?_push_size _ rfl
  have hacc : h₁.PlainList (it + 1) #[] := ⟨_, hsb₁.extBut _ _ (Nat.ne_of_lt (by (first | lia | omega))) (Heap.get?_push_of_some _ e0)⟩
  have st1 : St 0 h₁ := IT.frame _ _ _ st0 fun o' e => old2 _ o' e
  have fI := S1.fresh hIn
  have fD := S1.fresh hDn
  have fC := S1.fresh hCn
  let c' : Fc := c.comp scope H2.objs.size hkind
  have hMut' : ∀ a, c'.Mut a → a = H2.objs.size ∨ c.D = some a := fun a ha => by
    rcases ha with e | e | e
    · exact .inl e
    · exact .inr e
    · cases e
  have nI' : ¬ c'.Mut it := fun q => (hMut' _ q).elim (fun e => absurd e (Nat.ne_of_lt (by (first | lia | omega)))) fun e => fI.2 (.inr (.inl e))
  have nD' : ¬ c'.Mut (it + 1) := fun q => (hMut' _ q).elim (fun e => absurd e (Nat.ne_of_lt (by (first | lia | omega)))) fun e => fD.2 (.inr (.inl e))
  have S' : Sta c' F1 ρf d1 h₁ := by
    refine ⟨S1.base, fun a o' e => old a o' (S1.sub a o' e), fun a ha => ?_, fun D hDD => ?_, ?_, fun a ha => by cases ha⟩
    · rcases hMut' a ha with e | e
      · subst e
        obtain ⟨o', _, _, e', _⟩ := hns₁
        exact ⟨fC.1, o', e'⟩
      · obtain ⟨e1, o', e2⟩ := S1.mt a (.inr (.inl e))
        exact ⟨e1, o', old _ _ e2⟩
    · obtain ⟨vs, n, e, i⟩ := S1.deck D hDD
      exact ⟨vs, n, old _ _ e, i⟩
    · refine ⟨_, hns₁, fun y v e => ?_⟩
      obtain ⟨e1, e2, e3, e4⟩ := hseen y v e
      obtain ⟨m, _, hv⟩ := S1.ns
      rcases hv y v e1 with ⟨a, _⟩ | ⟨_, a, o', w, b1, b2, b3, r⟩
      · rw [a] at e2; cases e2
      · exact .inr ⟨e3, a, o', w, e4.trans b1, old _ _ b2, b3, r⟩
  have hkx : c'.env.kindOf x = some .local := lookup_relabel_local hx
  let M0 : Addr → Prop := fun a => c.D = some a
  have N1 : NxM M0 F1 F1 s1.heap h₁ := ⟨fun _ _ e => e, fun _ _ _ e => e, fun a o e _ => old a o e, fun a o e => ⟨o, old a o e⟩⟩
  -- the state between the turns
  have key : ∀ R' : Result → Shared → Prop, (∀ F' h' t' d' acc, NxM M0 F1 F' s1.heap h' → Sta c' F' ρf d' h' → (∃ ys, h'.PlainList (it + 1) ys ∧ Reps CT F' ys.toList acc) → F' (it + 1) = none → J xs.length acc d' → R' (.ok .next) { s1 with heap := h', toks := t' }) →
      ∀ s₃ : Shared, s₃ = { s1 with heap := h₁, toks := s1.toks + ([] : List (Str × Value)).length } →
      codeAny (model PR c.g.w) A (.compLoop (.ListComp elt [⟨.Name x px, iter, ifs, 0⟩] scope pos) 0 (.ref it) (.ref (it + 1)) c'.env) R' s₃ := by
    rintro R' hR' s₃ rfl
    refine codeAny_compLoop_tests (fun n s' => ∃ i F' d' acc ys, n = xs.length - i ∧ i ≤ xs.length ∧ (∃ hh tt, s' = { s1 with heap := hh, toks := tt }) ∧ NxM M0 F1 F' s1.heap s'.heap ∧ Sta c' F' ρf d' s'.heap ∧ St i s'.heap ∧
      F' it = none ∧ F' (it + 1) = none ∧ s'.heap.PlainList (it + 1) ys ∧ Reps CT F' ys.toList acc ∧ acc.length ≤ i ∧ J i acc d') ?_ xs.length
      ⟨0, F1, d1, [], #[], rfl, Nat.zero_le _, ⟨_, _, rfl⟩, N1, S', st1, fI.1, fD.1, hacc, .nil, Nat.le_refl _, h0⟩
    rintro n s2 ⟨i, F2, d2, acc, ys, rfl, hi, ⟨h2, t2, rfl⟩, N2, S2, st2, hF2, hF2D, ha2, ra2, hla, j2⟩
    have kF : ∀ a o, F1 a = some o → F2 a = some o := N2.sub
    by_cases hlt : i < xs.length
    · obtain ⟨y, hy⟩ : ∃ y, xs[i]? = some y := ⟨xs[i], by simp [hlt]⟩
      refine IT.item A i y F2 _ _ _ R.hd hy st2 kF S2.sub fun v' h3 t3 rv st3 hk3 => ?_
      have S3 := S2.but (fun a o hne e => hk3 a o hne e) hF2 nI' (IT.live _ _ st2)
      have N3 := N2.step (fun a o hne e => hk3 a o hne e) hIn
      have ha3 : h3.PlainList (it + 1) ys := ha2.at fun o e => hk3 _ o (Nat.succ_ne_self _) e
      refine wpAny_assign_Name (store_local (c := c') (s := { s1 with heap := h3, toks := t3 }) S3 hkx rv fun s4 G4 S4 => ?_)
      obtain ⟨h4, t4, rfl⟩ := G4.st
      have st4 : St (i + 1) h4 := IT.frame _ _ _ st3 fun o' e => G4.nx.keep it o' e nI'
      have ha4 : h4.PlainList (it + 1) ys := ha3.at fun o e => G4.nx.keep _ o e nD'
      have up : ∀ {F F' : Sto} {ha hb : Heap}, NxM M0 F1 F s1.heap ha → NxM c'.Mut F F' ha hb → NxM M0 F1 F' s1.heap hb := fun {F F' ha hb} X Y => by
        refine ⟨fun a o' e => Y.sub a o' (X.sub a o' e), fun a o' e n => ?_, fun a o' e n => ?_, fun a o' e => ?_⟩
        · obtain ⟨o'', e''⟩ := X.live a o' e; exact Y.out a o'' e'' (X.out a o' e n)
        · refine Y.keep a o' (X.keep a o' e n) fun q => ?_
          rcases hMut' a q with z | z
          · rw [z, hCn] at e; cases e
          · exact n z
        · obtain ⟨o'', e''⟩ := X.live a o' e; exact Y.live a o'' e''
      have N4 := up N3 G4.nx
      refine (turn H2.objs.size i acc d2 y hy j2).wp A F2 _ _ _ R S4 fun F5 s5 b b' d5 G5 S5 r5 p5 => ?_
      subst r5
      obtain ⟨h5, t5, rfl⟩ := G5.st
      have N5 := up N4 G5.nx
      have st5 : St (i + 1) h5 := IT.frame _ _ _ st4 fun o' e => G5.nx.keep it o' e nI'
      have ha5 : h5.PlainList (it + 1) ys := ha4.at fun o e => G5.nx.keep _ o e nD'
      have hF5 : F5 it = none := by obtain ⟨o4, e4, _⟩ := IT.live _ _ st4; exact G5.nx.out it o4 e4 hF2
      have hF5D : F5 (it + 1) = none := by obtain ⟨o4, e4, _⟩ := PlainList.live ha4; exact G5.nx.out _ o4 e4 hF2D
      cases b with
      | false =>
        rw [if_neg (by decide)]
        refine ⟨xs.length - (i + 1), by (first | lia | omega), i + 1, F5, d5, acc, ys, rfl, hlt, ⟨h5, t5, rfl⟩, N5, S5.weak fun z v e => ?_, st5, hF5, hF5D, ha5, ra2.mono G5.nx.sub, by (first | lia | omega), p5.2 rfl⟩
        rw [Rho.set_lookup]
        by_cases q : z = x
        · subst q; rw [hxf] at e; cases e
        · rw [if_neg q]; exact e
      | true =>
        rw [if_pos rfl]
        refine p5.1 rfl A F5 _ _ _ R S5 fun F6 s6 u u' d6 G6 S6 r6 p6 => ?_
        obtain ⟨h6, t6, rfl⟩ := G6.st
        have N6 := up N5 G6.nx
        have st6 : St (i + 1) h6 := IT.frame _ _ _ st5 fun o' e => G6.nx.keep it o' e nI'
        have ha6 : h6.PlainList (it + 1) ys := ha5.at fun o e => G6.nx.keep _ o e nD'
        have hF6 : F6 it = none := by obtain ⟨o4, e4, _⟩ := IT.live _ _ st5; exact G6.nx.out it o4 e4 hF5
        have hF6D : F6 (it + 1) = none := by obtain ⟨o4, e4, _⟩ := PlainList.live ha5; exact G6.nx.out _ o4 e4 hF5D
        have ry := ra2.mono (fun a o e => G6.nx.sub a o (G5.nx.sub a o e))
        refine wpAny_list_append_plain ha6 (fun h7 ha7 hs7 => ?_) (by
          have := ry.length
          have e : ys.toList.length = ys.size := by simp
          rw [sizeLine]; (first | lia | omega))
        have k7 : ∀ a o', a ≠ it + 1 → h6.get? a = some o' → h7.get? a = some o' := fun a o' hne e => (hs7.2 a hne).trans e
        have S7 := S6.but k7 hF6D nD' (PlainList.live ha6)
        have N7 := N6.step k7 hDn
        refine ⟨xs.length - (i + 1), by (first | lia | omega), i + 1, F6, d6, acc ++ [u'], ys.push u, rfl, hlt, ⟨h7, t6, rfl⟩, N7, S7.weak fun z v e => ?_, IT.frame _ _ _ st6 fun o' e => k7 _ o' (Nat.ne_of_lt (Nat.lt_succ_self _)) e, hF6, hF6D, ha7, ?_, by rw [List.length_append]; simp; (first | lia | omega), p6⟩
        · rw [Rho.set_lookup]
          by_cases q : z = x
          · subst q; rw [hxf] at e; cases e
          · rw [if_neg q]; exact e
        · rw [Array.toList_push]
          exact Reps.append (.cons r6 .nil) ry
    · have hin : i = xs.length := by (first | lia | omega)
      subst hin
      refine IT.done A _ _ _ R.hd st2 (fun a o e => S2.sub a o (kF a o e)) fun h3 t3 hk3 => ?_
      have S3 := S2.but (fun a o hne e => hk3 a o hne e) hF2 nI' (IT.live _ _ st2)
      have N3 := N2.step (fun a o hne e => hk3 a o hne e) hIn
      exact hR' F2 h3 t3 d2 acc N3 S3 ⟨ys, ha2.at fun o e => hk3 _ o (Nat.succ_ne_self _) e, ra2⟩ hF2D j2
  have fin : ∀ F' h' t' d' acc, NxM M0 F1 F' s1.heap h' → Sta c' F' ρf d' h' → (∃ ys, h'.PlainList (it + 1) ys ∧ Reps CT F' ys.toList acc) → F' (it + 1) = none → J xs.length acc d' →
      RR (.ref (it + 1)) H2.objs.size (.ok .next) { s1 with heap := h', toks := t' } := by
    rintro F' h' t' d' acc N S ⟨ys, ⟨n, ey⟩, ry⟩ hFD j
    have SC : Sta c F' ρ d' h' := by
      refine ⟨S.base, S.sub, fun a ha => ?_, S.deck, ?_, fun a ha => ?_⟩
      · obtain ⟨e1, o', e2⟩ := S1.mt a ha
        exact ⟨N.out a o' e2 e1, N.live a o' e2⟩
      · obtain ⟨m, hn, hv⟩ := S1.ns
        have kp : ∀ a o', s1.heap.get? a = some o' → (∀ us n, o' ≠ { cls := .type "list", data := .seq us n }) → h'.get? a = some o' := fun a o' e hne => by
          refine N.keep a o' e fun q => ?_
          obtain ⟨us, n', e', _⟩ := S1.deck a q
          rw [e] at e'; cases e'; exact hne _ _ rfl
        refine ⟨m, ?_, fun y v e => ?_⟩
        · obtain ⟨o', es, ep, e1, e2, e3⟩ := hn
          exact ⟨o', es, ep, kp _ _ e1 (fun us n z => by rw [z] at e2; cases e2), e2, e3⟩
        · rcases hv y v e with ⟨a, w', b', r'⟩ | ⟨a, d, o', w', b1, b2, b3, r'⟩
          · exact .inl ⟨a, w', b', r'.mono N.sub⟩
          · exact .inr ⟨a, d, o', w', b1, kp _ _ b2 (fun us n z => by rw [z] at b3; cases b3), b3, r'.mono N.sub⟩
      · obtain ⟨o', u, e, dd⟩ := S1.cel a ha
        refine ⟨o', u, N.keep a o' e fun q => ?_, dd⟩
        obtain ⟨us, n', e', _⟩ := S1.deck a q
        rw [e] at e'; cases e'; cases dd
    obtain ⟨S2, N2⟩ := S1.adopt2 SC N hDn hFD ey
    have hFC : ins F' (it + 1) { cls := .type "list", data := .seq ys n } H2.objs.size = none := by
      rw [ins_ne (Nat.ne_of_gt (by (first | lia | omega)))]; exact (S.mt H2.objs.size (.inl rfl)).1
    obtain ⟨mC, hnC, _⟩ := S.ns
    refine hRR _ _ _ h' t' d' acc hDn hCn (N2.weak fun a q => .inl (.inr (.inl q))) S2 (.list (vs := ys.toList) (n := n) ?_ (ry.mono fun a o e => by rw [ins_ne (by rintro rfl; rw [hFD] at e; cases e)]; exact e)) hFC ⟨mC, hnC⟩ j
    rw [ins_same]
  exact codeAny_compStart_list (key _ (fun F' h' t' d' acc a b e f g => fin F' h' t' d' acc a b e f g) _ rfl) (IT.self A 0 _ _ _ R.hd st1 (fun a o' e => old a o' (S1.sub a o' e)) (key _ (fun F' h' t' d' acc a b e f g => fin F' h' t' d' acc a b e f g) _ rfl))

/-- a comprehension: J tells the items made -/
def CompAsk (c : Fc) (k : Nat) (elt : Expr) (x : Str) (ifs : List Expr) (scope : Scope) (hkind : scope.kind = .function) (ρ : Rho) (xs : List V) (d : List Int) (P : List V → List Int → Prop) : Prop :=
  ∃ (ρf : Rho) (J : Nat → List V → List Int → Prop), Seen c scope ρ ρf ∧ ρf.lookup x = none ∧ J 0 [] d ∧
    (∀ C i acc d y, xs[i]? = some y → J i acc d → WIfs (c.comp scope C hkind) k ifs (ρf.set x y) d fun b d' =>
      (b = true → WE (c.comp scope C hkind) k elt (ρf.set x y) d' fun u d'' => J (i + 1) (acc ++ [u]) d'') ∧ (b = false → J (i + 1) acc d')) ∧
    ∀ acc d', J xs.length acc d' → P acc d'
def compOK (scope : Scope) (x : Str) : Bool := (scope.names.all fun y => y.2 != .cell) && (scope.names.all fun y => y.2 != .local || scope.names.lookup y.1 == some .local) && scope.names.lookup x == some .local
theorem compOK_all {scope : Scope} {x : Str} (h : compOK scope x = true) : (∀ y ∈ scope.names, y.2 ≠ .cell) ∧ (∀ y ∈ scope.names, y.2 = .local → scope.names.lookup y.1 = some .local) ∧ scope.names.lookup x = some .local := by
  simp only [compOK, Bool.and_eq_true, beq_iff_eq] at h
  obtain ⟨⟨h1, h2⟩, h3⟩ := h
  refine ⟨fun y hy => ?_, fun y hy e => ?_, h3⟩
  · have := List.all_eq_true.mp h1 y hy; simpa using this
  · have := List.all_eq_true.mp h2 y hy
    rw [e] at this; simpa using this

theorem WE_comp {elt iter : Expr} {x : Str} {px : Pos} {ifs : List Expr} {scope : Scope} {pos : Pos} {P : V → List Int → Prop} (hkind : scope.kind = .function) (hok : compOK scope x = true)
    (hcl : ∀ n, (n, NameKind.free) ∈ scope.names → (c.env.cells.lookup n).isSome = true)
    (h : WE c k iter ρ dk fun v d => ∃ xs, SeqOf v xs ∧ xs.length ≤ 100000 ∧ CompAsk c k elt x ifs scope hkind ρ xs d fun acc d' => P (.list acc) d')
    (hs : ∀ x, foldedSetIterable iter c.env x = pure x := by intro _; rfl) : WE c k (.ListComp elt [⟨.Name x px, iter, ifs, 0⟩] scope pos) ρ dk P := by
  intro A F s Q E R S hQ
  obtain ⟨o1, o2, o3⟩ := compOK_all hok
  rw [eval_ListComp]
  refine wpAny_comprehension_free (use := none) rfl hs (closureFor_clOf hcl) hkind o2 (h A F s _ E R S fun F1 s1 a v d1 G1 S1 r1 p1 => ?_)
  obtain ⟨xs, hsq, hn, ρf, J, hseen, hxf, h0, turn, done⟩ := p1
  refine iter_ok S1 r1 hsq fun o St hfr IT st0 => ?_
  refine comp_core (RR := fun acc C => compPost (model PR c.g.w) A E none Q acc C) J hkind o1 o3 hseen hxf R S1 IT st0 hn h0 turn fun D C F' h' t' d' acc hD hC N' S' r' hFC hnC j => ?_
  obtain ⟨m, hnC⟩ := hnC
  refine ⟨m, hnC, fun h'' hs'' => ?_⟩
  have k2 : ∀ a o, a ≠ C → h'.get? a = some o → h''.get? a = some o := fun a o hne e => (hs''.2 a hne).trans e
  obtain ⟨oC, es, ep, eC, dC, _⟩ := id hnC
  have S2 := S'.but k2 hFC (S1.fresh hC).2 ⟨oC, eC, fun v q => by rw [dC] at q; cases q⟩
  have N2 := N'.step k2 hC
  exact hQ F' _ _ _ d' (G1.trans ⟨⟨h'', t', rfl⟩, N2⟩) S2 r' (done acc d' j)

theorem WX_compSet {elt iter : Expr} {x y : Str} {px py : Pos} {ifs : List Expr} {scope : Scope} {pos spos : Pos} {P : Fl → Rho → List Int → Prop} (hkind : scope.kind = .function) (hok : compOK scope x = true)
    (hcl : ∀ n, (n, NameKind.free) ∈ scope.names → (c.env.cells.lookup n).isSome = true)
    (hsw : swapsWith (.ListComp elt [⟨.Name x px, iter, ifs, 0⟩] scope pos) (some (.Name y py)) spos.line c.env = pure true) (hy : c.env.kindOf y = some .local)
    (h : WE c k iter ρ dk fun v d => ∃ xs, SeqOf v xs ∧ xs.length ≤ 100000 ∧ CompAsk c k elt x ifs scope hkind ρ xs d fun acc d' => P .next (ρ.set y (.list acc)) d')
    (hs : ∀ x, foldedSetIterable iter c.env x = pure x := by intro _; rfl) : WX c k (.Assign [.Name y py] (.ListComp elt [⟨.Name x px, iter, ifs, 0⟩] scope pos) spos) ρ dk P := by
  intro A F s Q E R S hQ
  obtain ⟨o1, o2, o3⟩ := compOK_all hok
  rw [exec_Assign_Name_used _ _ _ _ hsw]
  refine wpAny_bind (wpAny_standAt (wpAny_bind ?_))
  show wpAny _ A (do let _ ← comprehension (.ListComp elt [⟨.Name x px, iter, ifs, 0⟩] scope pos) scope c.env _ (newList []) false (eval iter c.env) (some (assign (.Name y py) c.env))) _ _ s
  refine wpAny_bind (wpAny_mono (wpAny_comprehension_free (use := some (assign (.Name y py) c.env)) (Q := fun _ s' => Q .next s') rfl hs (closureFor_clOf hcl) hkind o2 (h A F s _ E R S fun F1 s1 a v d1 G1 S1 r1 p1 => ?_))
    (fun _ s' hq => wpAny_pure (wpAny_pure hq)) fun _ _ e => e)
  obtain ⟨xs, hsq, hn, ρf, J, hseen, hxf, h0, turn, done⟩ := p1
  refine iter_ok S1 r1 hsq fun o St hfr IT st0 => ?_
  refine comp_core (RR := fun acc C => compPost (model PR c.g.w) A E (some (assign (.Name y py) c.env)) (fun _ s' => Q .next s') acc C) J hkind o1 o3 hseen hxf R S1 IT st0 hn h0 turn fun D C F' h' t' d' acc hD hC N' S' r' hFC hnC j => ?_
  obtain ⟨m, hnC⟩ := hnC
  refine wpAny_assign_Name (store_local (s := { s1 with heap := h', toks := t' }) S' hy r' fun s2 G2 S2 => ?_)
  obtain ⟨h2, t2, rfl⟩ := G2.st
  obtain ⟨oC, es, ep, eC, dC, _⟩ := id hnC
  have nC := (S1.fresh hC).2
  have eC2 := G2.nx.keep C oC eC nC
  refine ⟨m, hnC.at' fun o e => G2.nx.keep C o e nC, fun h'' hs'' => ?_⟩
  have k2 : ∀ a o, a ≠ C → h2.get? a = some o → h''.get? a = some o := fun a o hne e => (hs''.2 a hne).trans e
  have S3 := S2.but k2 hFC nC ⟨oC, eC2, fun v q => by rw [dC] at q; cases q⟩
  have N3 := (N'.trans G2.nx).step k2 hC
  exact hQ F' _ _ _ _ d' (G1.trans ⟨⟨h'', t2, rfl⟩, N3⟩) S3 .next (done acc d' j)
end

-- M9
section
variable {c : Fc} {k : Nat} {ρ : Rho} {dk : List Int} {P : V → List Int → Prop}

-- methods of texts, with one argument
theorem WE_smeth {o e : Expr} {name : Str} {id : String} {apos pos : Pos} {pl : Sem Bool}
    (gm : ∀ (A : Around) (x : Str) (t : Tok) (Q : Value × List Value → Shared → Prop) (E : Value → Shared → Prop) (s : Shared), Q (.builtin id, [.str x t]) s → wpAny (model PR c.g.w) A (getMethod (.str x t) name pl) Q E s)
    (h : WE c k o ρ dk fun v d => ∃ x, v = .str x ∧ WE c k e ρ d fun u d' => CallW c k (.builtin id) [.str x, u] d' P) (hn : NS e := by intro _ _; rfl)
    (he : eval (.Call (.Attribute o name apos) [e] [] pos) c.env = (do
      let ov ← eval o c.env
      standAt apos.atName
      let (f, first) ← holding [ov] (getMethod ov name pl)
      callWith pos f first (backTo pos (starEach [e] c.env)) []) := by rfl) : WE c k (.Call (.Attribute o name apos) [e] [] pos) ρ dk P := by
  intro A F s Q E R S hQ
  refine MethodCall_ (h A F s _ E R S fun F1 s1 a v d1 G1 S1 r1 p1 => ?_) he
  obtain ⟨x, rfl, p⟩ := p1
  cases r1 with | str _ t =>
    with_reducible refine gm A _ t _ E s1 ?_
    refine callWith_mine (P := fun vs d' => ∃ u, vs = [u] ∧ CallW c k (.builtin id) [.str x, u] d' P) (.inl ⟨_, rfl⟩) R S1 hn (fun _ => rfl) (WA_cons (p.mono fun u d q => WA_nil ⟨u, rfl, q⟩) hn) fun F2 s2 ws vs d2 G2 S2 r2 p2 => ?_
    obtain ⟨u, rfl, q⟩ := p2
    exact q A F2 ρ s2 Q E (_ :: ws) R S2 (.cons (.str x t) r2) fun F3 s3 y z d3 G3 S3 r3 p3 => hQ F3 s3 y z d3 ((G1.trans G2).trans G3) S3 r3 p3
theorem WE_join {o e : Expr} {apos pos : Pos} {pl : Sem Bool} (h : WE c k o ρ dk fun v d => ∃ x, v = .str x ∧ WE c k e ρ d fun u d' => CallW c k (.builtin "str.join") [.str x, u] d' P) (hn : NS e := by intro _ _; rfl)
    (he : eval (.Call (.Attribute o "join" apos) [e] [] pos) c.env = (do
      let ov ← eval o c.env
      standAt apos.atName
      let (f, first) ← holding [ov] (getMethod ov "join" pl)
      callWith pos f first (backTo pos (starEach [e] c.env)) []) := by rfl) : WE c k (.Call (.Attribute o "join" apos) [e] [] pos) ρ dk P := by
  refine WE_smeth (fun _ _ _ _ _ _ q => ?_) h hn he
  with_reducible exact GM.join q
theorem WE_split {o e : Expr} {apos pos : Pos} {pl : Sem Bool} (h : WE c k o ρ dk fun v d => ∃ x, v = .str x ∧ WE c k e ρ d fun u d' => CallW c k (.builtin "str.split") [.str x, u] d' P) (hn : NS e := by intro _ _; rfl)
    (he : eval (.Call (.Attribute o "split" apos) [e] [] pos) c.env = (do
      let ov ← eval o c.env
      standAt apos.atName
      let (f, first) ← holding [ov] (getMethod ov "split" pl)
      callWith pos f first (backTo pos (starEach [e] c.env)) []) := by rfl) : WE c k (.Call (.Attribute o "split" apos) [e] [] pos) ρ dk P := by
  refine WE_smeth (fun _ _ _ _ _ _ q => ?_) h hn he
  with_reducible exact GM.split q
theorem WE_lstrip {o e : Expr} {apos pos : Pos} {pl : Sem Bool} (h : WE c k o ρ dk fun v d => ∃ x, v = .str x ∧ WE c k e ρ d fun u d' => CallW c k (.builtin "str.lstrip") [.str x, u] d' P) (hn : NS e := by intro _ _; rfl)
    (he : eval (.Call (.Attribute o "lstrip" apos) [e] [] pos) c.env = (do
      let ov ← eval o c.env
      standAt apos.atName
      let (f, first) ← holding [ov] (getMethod ov "lstrip" pl)
      callWith pos f first (backTo pos (starEach [e] c.env)) []) := by rfl) : WE c k (.Call (.Attribute o "lstrip" apos) [e] [] pos) ρ dk P := by
  refine WE_smeth (fun _ _ _ _ _ _ q => ?_) h hn he
  with_reducible exact GM.lstrip q

def toStr (x : List Nat) : Str := ⟨x.toArray⟩
theorem strs_reps {F : Sto} : ∀ {vs : List Value} {xs : List (List Nat)}, Reps CT F vs (xs.map .str) → ∃ l : List (Str × Tok), vs = strValues l ∧ l.map (·.1) = xs.map toStr
  | _, [], .nil => ⟨[], rfl, rfl⟩
  | _, x :: xs, .cons r rr => by
    obtain ⟨l, e1, e2⟩ := strs_reps rr
    cases r with | str _ t => exact ⟨(toStr x, t) :: l, by rw [e1]; rfl, by rw [List.map_cons, e2]; rfl⟩
theorem reps_strs {F : Sto} : ∀ {l : List (Str × Tok)}, Reps CT F (strValues l) (l.map fun p => .str p.1.cps.toList)
  | [] => .nil
  | (x, t) :: l => .cons (.str x.cps.toList t) reps_strs

theorem glued_empty : ∀ (parts : List (List Nat)), PySem.Builtin.Str.glued ⟨#[]⟩ (parts.map toStr) = toStr parts.flatten
  | [] => rfl
  | p :: r => by
    have key : ∀ (r : List (List Nat)) (acc : List Nat), (r.map toStr).foldl (fun (acc : Array Nat) (p : Str) => acc ++ (#[] : Array Nat) ++ p.cps) acc.toArray = (acc ++ r.flatten).toArray := by
      intro r
      induction r with
      | nil => intro acc; simp
      | cons q r ih =>
        intro acc
        rw [List.map_cons, List.foldl_cons]
        have : (acc.toArray ++ (#[] : Array Nat) ++ (toStr q).cps) = (acc ++ q).toArray := by simp [toStr]
        rw [this, ih]; simp
    show (⟨((r.map toStr)).foldl (fun acc p => acc ++ #[] ++ p.cps) (toStr p).cps⟩ : Str) = _
    have := key r p
    show Str.mk _ = _
    rw [show (toStr p).cps = p.toArray from rfl, this]
    rfl
theorem joinOk_small {xs : List (List Nat)} (h : (xs.map List.length).sum ≤ 100000) : JoinOk ⟨#[]⟩ (xs.map toStr) = true := by
  have key : ∀ (l : List (List Nat)) (a : Nat), (l.map toStr).foldl (fun (n : Nat) (p : Str) => n + p.length + 0) a = a + (l.map List.length).sum := by
    intro l
    induction l with
    | nil => intro a; simp
    | cons x r ih =>
      intro a
      rw [List.map_cons, List.foldl_cons, ih]
      have : (toStr x).length = x.length := by show x.toArray.size = _; simp
      rw [this]; simp; (first | lia | omega)
  unfold JoinOk
  have e : (xs.map toStr).toArray.foldl (fun (n : Nat) (p : Str) => n + p.length + (Str.mk #[]).length) 0 = (xs.map List.length).sum := by
    rw [List.foldl_toArray]
    have := key xs 0
    rw [Nat.zero_add] at this
    exact this
  rw [e]
  simp [PySem.Builtin.Str.tooLong, sizeLine]; (first | lia | omega)

theorem c_join {xs : List (List Nat)} (hn : (xs.map List.length).sum ≤ 100000) (h : P (.str xs.flatten) dk) : CallW c k (.builtin "str.join") [.str [], .list (xs.map .str)] dk P := by
  intro A F ρ s Q E ws R S r hQ
  cases r with | cons r1 r2 => cases r2 with | cons r2 r3 =>
    cases r3
    cases r1 with | str _ t => cases r2 with | list e rr =>
      obtain ⟨l, rfl, e2⟩ := strs_reps rr
      refine SC.join ⟨_, S.sub _ _ e, rfl, _, rfl⟩ e2 (joinOk_small hn) fun t' kk => ?_
      have eq : Txt.join ⟨([] : List Nat).toArray⟩ (xs.map toStr) = ⟨xs.flatten.toArray⟩ := glued_empty xs
      rw [eq]
      exact hQ F _ _ _ dk .tk S (.str _ _) h

/-- the parts of a text at the newlines -/
def parts (x : List Nat) : List (List Nat) := (Txt.split (toStr x) ⟨#[10]⟩).map fun p => p.cps.toList
theorem c_split {x : List Nat} (hn : x.length ≤ 100000) (h : P (.list ((parts x).map .str)) dk) : CallW c k (.builtin "str.split") [.str x, .str [10]] dk P := by
  intro A F ρ s Q E ws R S r hQ
  cases r with | cons r1 r2 => cases r2 with | cons r2 r3 =>
    cases r3
    cases r1 with | str _ t => cases r2 with | str _ u =>
      obtain ⟨m, Fm, N, kk⟩ := S.led
      have ex : (Str.mk x.toArray).length = x.length := by show x.toArray.size = _; simp
      refine splitN1 Fm N (y := ⟨#[10]⟩) rfl (fun l h' k' el F' N' => ?_) (by rw [ex, sizeLine]; (first | lia | omega))
      obtain ⟨S', N''⟩ := kk h' _ F' N' fun _ x => .tail _ x
      obtain ⟨S2, N2⟩ := S.adopt S' N'' (get_none (Nat.le_refl _)) (N' _ (.head _)).1
      have e3 : (parts x).map V.str = l.map fun p => .str p.1.cps.toList := by
        unfold parts toStr
        rw [← el]; simp
      refine hQ _ _ _ _ dk (.of N2) S2 (.list ins_same ?_) h
      rw [e3]; exact reps_strs.mono N2.sub

theorem drop_takeWhile (p : Nat → Bool) : ∀ x : List Nat, x.drop (x.takeWhile p).length = x.dropWhile p
  | [] => rfl
  | a :: r => by
    by_cases q : p a = true
    · simp only [List.takeWhile_cons, q, if_true, List.length_cons, List.drop_succ_cons, List.dropWhile_cons]
      exact drop_takeWhile p r
    · simp [List.takeWhile_cons, q, List.dropWhile_cons]
/-- the text without the signs of y at its start -/
theorem c_lstrip {x y : List Nat} (hn : x.length ≤ 100000) (h : P (.str (x.dropWhile fun n => decide (n ∈ y))) dk) : CallW c k (.builtin "str.lstrip") [.str x, .str y] dk P := by
  intro A F ρ s Q E ws R S r hQ
  cases r with | cons r1 r2 => cases r2 with | cons r2 r3 =>
    cases r3
    cases r1 with | str _ t => cases r2 with | str _ u =>
      have ex : (Str.mk x.toArray).length = x.length := by show x.toArray.size = _; simp
      refine SC.lstripChars (fun t' k' => ?_) (by rw [ex, sizeLine]; (first | lia | omega))
      have e : Txt.lstripChars ⟨x.toArray⟩ ⟨y.toArray⟩ = ⟨(x.dropWhile fun n => decide (n ∈ y)).toArray⟩ := by
        unfold Txt.lstripChars
        rw [PyProof.Rows.stripBy_eq, PyProof.Rows.strSub_mk]
        have hp : (fun n => (y.toArray).contains n) = fun n => decide (n ∈ y) := by
          funext n
          simp
        have h1 : stripLo (y.toArray).contains true ⟨x.toArray⟩ = (x.takeWhile fun n => decide (n ∈ y)).length := by
          unfold stripLo
          rw [if_pos rfl, ← hp]
        have h2 : ∀ lo, stripHi (y.toArray).contains false ⟨x.toArray⟩ lo = x.length := fun lo => by
          unfold stripHi
          rw [if_neg (by decide)]; exact ex
        rw [h1, h2]
        congr 2
        show List.take _ (List.drop _ x) = _
        rw [List.take_of_length_le (by rw [List.length_drop]; exact Nat.le_refl _)]
        exact drop_takeWhile _ x
      rw [e]
      exact hQ F _ _ _ dk .tk S (.str _ _) h

theorem preSum_take : ∀ (ns : List Int) (j : Nat), j ≤ ns.length → PySem.preSum (fun i => ns.getD i 0) j = (ns.take j).sum
  | _, 0, _ => by simp [PySem.preSum]
  | ns, j + 1, h => by
    rw [PySem.preSum, preSum_take ns j (by (first | lia | omega))]
    have hj : j < ns.length := h
    rw [List.take_add_one, List.sum_append]
    simp [List.getD, hj]
theorem c_sum {ns : List Int} (hb : ∀ n ∈ ns, 0 ≤ n) (hs : ns.sum < 2 ^ 62) (hn : ns.length ≤ 100000) (h : P (.int ns.sum) dk) : CallW c k (.builtin "sum") [.list (ns.map .int)] dk P := by
  intro A F ρ s Q E ws R S r hQ
  cases r with | cons r1 r2 =>
    cases r2
    cases r1 with | @list a vs n _ e rr =>
      have el := rr.length
      rw [List.length_map] at el
      refine call_sum_walk ?_
      have ha := Heap.lt_size (S.sub _ _ e)
      have hne : a ≠ s.heap.objs.size := Nat.ne_of_lt ha
      refine wpAny_pyIter_list ⟨_, S.sub _ _ e, rfl, _, rfl⟩ ⟨s.heap.objs.size, _, _, _, _, _, fun i => ns.getD i 0, rfl, Walks.list (A := A.in1) R.hd _ a hne vs.toArray, ⟨⟨_, Heap.get?_push_size _ rfl, rfl, rfl⟩, ⟨_, Heap.get?_push_of_some _ (S.sub _ _ e), rfl, _, rfl⟩⟩, ?_, ?_, ?_, ?_⟩
      · intro b hb
        rw [Heap.size_push]
        rcases List.mem_cons.mp hb with rfl | hb
        · exact Nat.lt_succ_self _
        · rw [List.mem_singleton.mp hb]; exact Nat.lt_succ_of_lt ha
      · intro i v hv
        have hi : i < vs.length := by
          rcases Nat.lt_or_ge i vs.length with q | q
          · exact q
          · rw [Array.getElem?_eq_none (by simpa using q)] at hv; cases hv
        have hx : (ns.map V.int)[i]? = some (.int (ns.getD i 0)) := by
          have : i < ns.length := by (first | lia | omega)
          simp [List.getD, this]
        obtain ⟨v', e1, r'⟩ := rr.arr hx
        rw [hv] at e1; cases e1
        cases r' with | int _ t => exact ⟨t, rfl⟩
      · intro j hj
        simp only [List.size_toArray] at hj
        have hjn : j < ns.length := by (first | lia | omega)
        have pos : ∀ l : List Int, (∀ n ∈ l, 0 ≤ n) → 0 ≤ l.sum := by
          intro l
          induction l with
          | nil => intro _; simp
          | cons x r ih =>
            intro hl
            have h1 := hl x (.head _)
            have h2 := ih fun n hn => hl n (.tail _ hn)
            rw [List.sum_cons]; (first | lia | omega)
        have hsum : ∀ j, 0 ≤ (ns.take j).sum ∧ (ns.take j).sum ≤ ns.sum := fun j => by
          have h1 := pos (ns.take j) fun n hn => hb n (List.mem_of_mem_take hn)
          have h2 := pos (ns.drop j) fun n hn => hb n (List.mem_of_mem_drop hn)
          have h3 : (ns.take j).sum + (ns.drop j).sum = ns.sum := by rw [← List.sum_append, List.take_append_drop]
          (first | lia | omega)
        have hg : 0 ≤ ns.getD j 0 := by
          have : ns.getD j 0 ∈ ns := by simp [List.getD, hjn]
          exact hb _ this
        have h1 := hsum (j + 1)
        have h0 := hsum j
        have h2 : (ns.take (j + 1)).sum = (ns.take j).sum + ns.getD j 0 := by
          rw [List.take_add_one, List.sum_append]; simp [List.getD, hjn]
        rw [preSum_take ns (j + 1) hjn]
        unfold PySem.InLong
        show (-(2 ^ 63) ≤ ns.getD j 0 ∧ ns.getD j 0 < 2 ^ 63) ∧ _
        (first | lia | omega)
      · intro h' tk t' hk
        have kk : ∀ a o, s.heap.get? a = some o → h'.get? a = some o := fun b o eb => hk b o (fun q => by
          rw [List.mem_singleton.mp q] at eb; exact absurd (Heap.lt_size eb) (Nat.lt_irrefl _)) (Heap.get?_push_of_some _ eb)
        have eq : PySem.preSum (fun i => ns.getD i 0) vs.toArray.size = ns.sum := by
          simp only [List.size_toArray, el]
          rw [preSum_take ns ns.length (Nat.le_refl _), List.take_length]
        rw [eq]
        exact hQ F _ _ _ dk (.of (Nx.mono kk)) (S.mono kk) (.int _ _) h
end

-- M10
section
variable {c : Fc} {k : Nat} {ρ : Rho} {dk : List Int} {P : V → List Int → Prop}

def restN (h : Heap) (L D : Addr) : List (Addr × Obj) := (allN h L).filter fun p => decide (p.1 ≠ D)
theorem restN_ne {h : Heap} {L D : Addr} : ∀ p ∈ restN h L D, p.1 ≠ D := fun p hp => by
  have := (List.mem_filter.mp hp).2
  simpa using this
theorem Sta.ledD {F : Sto} {h : Heap} {D : Addr} (S : Sta c F ρ dk h) (hD : c.D = some D) : ∃ m vs n, IntsAre vs dk ∧ h.get? D = some (listOf vs.toArray n) ∧ Fr ({} : Heap) c.env.locals h m ∧ News ({} : Heap) c.env.locals h ((D, listOf vs.toArray n) :: restN h c.env.locals D) ∧
    ∀ h' vs' n' dk', IntsAre vs' dk' → Fr ({} : Heap) c.env.locals h' m → News ({} : Heap) c.env.locals h' ((D, listOf vs'.toArray n') :: restN h c.env.locals D) → Sta c F ρ dk' h' ∧ Nx c F F h h' := by
  obtain ⟨m, hn, hv⟩ := S.ns
  obtain ⟨vs, n, eD, iD⟩ := S.deck D hD
  have hDL := S.deck_ne hD
  have hFD := (S.mt D (.inr (.inl hD))).1
  have hFL := (S.mt c.env.locals (.inl rfl)).1
  refine ⟨m, vs, n, iD, eD, ⟨hn, (fun b o e => by rw [emptyHeap_get] at e; cases e), Nat.zero_le _⟩, ?_, fun h' vs' n' dk' i' F' N' => ?_⟩
  · intro p hp
    rcases List.mem_cons.mp hp with rfl | hp
    · exact ⟨eD, hDL, emptyHeap_get _⟩
    · have := allN_of (List.mem_filter.mp hp).1
      exact ⟨this.1, this.2, emptyHeap_get _⟩
  · have kk : ∀ a o, a ≠ c.env.locals → a ≠ D → h.get? a = some o → h'.get? a = some o := fun a o q q2 e =>
      (N' _ (.tail _ (List.mem_filter.mpr ⟨allN_mem e q, by simpa using q2⟩))).1
    have eD' := (N' _ (.head _)).1
    obtain ⟨oL, esL, epL, hoL, hdL⟩ := S.locals_obj
    have live : ∀ a o, h.get? a = some o → ∃ o', h'.get? a = some o' := fun a o e => by
      by_cases q : a = c.env.locals
      · subst q
        obtain ⟨o', _, _, ho, _⟩ := F'.ns
        exact ⟨o', ho⟩
      · by_cases q2 : a = D
        · subst q2; exact ⟨_, eD'⟩
        · exact ⟨o, kk a o q q2 e⟩
    refine ⟨⟨S.base, fun a o e => kk a o (by rintro rfl; rw [hFL] at e; cases e) (by rintro rfl; rw [hFD] at e; cases e) (S.sub a o e), fun a ha => ⟨(S.mt a ha).1, ?_⟩, fun D' hD' => ?_, ?_, fun a ha => ?_⟩, fun _ _ e => e, fun _ _ _ e => e, fun a o e q => kk a o (fun z => q (.inl z)) (fun z => q (.inr (.inl (z ▸ hD)))) e, live⟩
    · obtain ⟨o, e⟩ := (S.mt a ha).2; exact live a o e
    · have : D' = D := by rw [hD] at hD'; cases hD'; rfl
      subst this
      exact ⟨vs', n', eD', i'⟩
    · refine ⟨m, F'.ns, fun x v e => ?_⟩
      rcases hv x v e with ⟨a, w, b, r⟩ | ⟨a, d, o, w, b1, b2, b3, r⟩
      · exact .inl ⟨a, w, b, r⟩
      · refine .inr ⟨a, d, o, w, b1, kk _ _ ?_ ?_ b2, b3, r⟩
        · rintro rfl; rw [hoL] at b2; cases b2; rw [hdL] at b3; cases b3
        · rintro rfl; rw [eD] at b2; cases b2; cases b3
    · obtain ⟨o, u, e, d⟩ := S.cel a ha
      refine ⟨o, u, kk _ _ ?_ ?_ e, d⟩
      · rintro rfl; rw [hoL] at e; cases e; rw [hdL] at d; cases d
      · rintro rfl; rw [eD] at e; cases e; cases d

theorem c_lenD {D : Addr} (hD : c.D = some D) (hn : dk.length < 2 ^ 60) (h : P (.int dk.length) dk) : CallW c k (.builtin "len") [.raw (.ref D)] dk P := by
  intro A F ρ s Q E ws R S r hQ
  cases r with | cons r1 r2 =>
    cases r2; cases r1
    obtain ⟨vs, n, e, i⟩ := S.deck D hD
    have el := i.length
    refine Calls.call_len_list ⟨_, e, rfl, _, rfl⟩ (by simp only [List.size_toArray]; (first | lia | omega)) ?_
    simp only [List.size_toArray, el]
    exact hQ F _ _ _ dk .tk S (.int _ _) h
theorem item_D {e i : Expr} {D : Addr} {n x : Int} (hD : c.D = some D) (h0 : 0 ≤ n) (h1 : n < 2 ^ 63) (hx : dk[n.toNat]? = some x) (h : P (.int x) dk) (hi : SubPlain i := by intro _ _; rfl) : Op2 c k (subscriptTail e i) (.raw (.ref D)) (.int n) dk P := by
  intro A F ρ s Q E a b R S r1 r2 hQ
  cases r2; cases r1
  obtain ⟨vs, n', e, ii⟩ := S.deck D hD
  obtain ⟨t, ex⟩ := ii.get _ _ hx
  have hl : s.heap.IsList D vs.toArray := ⟨_, e, rfl, _, rfl⟩
  exact tail_any hl.typeIs list_getitem_lookup (wpAny_getItem_list hl h0 h1 (by simpa using ex) (hQ F s _ _ dk .refl S (.int _ _) h)) (hi _ _)
/-- a method of the deck's, with one argument -/
theorem WE_dmeth {o e : Expr} {name : Str} {id : String} {apos pos : Pos} {pl : Sem Bool} {D : Addr} (hD : c.D = some D) (slot : Slot "list" name id) (hty : typeOf (.builtin id) = pure (.type "method_descriptor"))
    (h : WE c k o ρ dk fun v d => v = .raw (.ref D) ∧ WE c k e ρ d fun u d' => CallW c k (.builtin id) [.raw (.ref D), u] d' P) (hn : NS e := by intro _ _; rfl)
    (he : eval (.Call (.Attribute o name apos) [e] [] pos) c.env = (do
      let ov ← eval o c.env
      standAt apos.atName
      let (f, first) ← holding [ov] (getMethod ov name pl)
      callWith pos f first (backTo pos (starEach [e] c.env)) []) := by rfl) : WE c k (.Call (.Attribute o name apos) [e] [] pos) ρ dk P := by
  intro A F s Q E R S hQ
  refine MethodCall_ (h A F s _ E R S fun F1 s1 a v d1 G1 S1 r1 p1 => ?_) he
  obtain ⟨rfl, p⟩ := p1
  cases r1
  obtain ⟨m, vs, n, ii, eD, Fm, N, _⟩ := S1.ledD hD
  refine PySem.W.kl_method N (.head _) slot hty ?_
  refine callWith_mine (P := fun vs d' => ∃ u, vs = [u] ∧ CallW c k (.builtin id) [.raw (.ref D), u] d' P) (.inl ⟨_, rfl⟩) R S1 hn (fun _ => rfl) (WA_cons (p.mono fun u d q => WA_nil ⟨u, rfl, q⟩) hn) fun F2 s2 ws vs d2 G2 S2 r2 p2 => ?_
  obtain ⟨u, rfl, q⟩ := p2
  exact q A F2 ρ s2 Q E (_ :: ws) R S2 (.cons (.raw _) r2) fun F3 s3 y z d3 G3 S3 r3 p3 => hQ F3 s3 y z d3 ((G1.trans G2).trans G3) S3 r3 p3
theorem c_pop0 {D : Addr} {x : Int} {d : List Int} (hD : c.D = some D) (hdk : dk = x :: d) (hn : dk.length ≤ 100000) (h : P (.int x) d) : CallW c k (.builtin "list.pop") [.raw (.ref D), .int 0] dk P := by
  intro A F ρ s Q E ws R S r hQ
  cases r with | cons r1 r2 => cases r2 with | cons r2 r3 =>
    cases r3; cases r1; cases r2
    obtain ⟨m, vs, n, ii, eD, Fm, N, kk⟩ := S.ledD hD
    subst hdk
    cases ii with | @cons _ t vs _ ii =>
      refine PySem.W.kl_popAt (p := []) (q := vs) (y := .int x t) Fm N (by decide) (k := 0) (by simp [seqIndex?]) rfl (.head restN_ne) ?_ fun h' F' N' => ?_
      · have := ii.length
        simp only [List.length_cons] at hn ⊢
        rw [sizeLine]; (first | lia | omega)
      · obtain ⟨S', N''⟩ := kk h' vs (n + 1) d ii F' N'
        exact hQ F _ _ _ d ⟨⟨_, s.toks, rfl⟩, N''⟩ S' (.int _ _) h
theorem c_append {D : Addr} {x : Int} (hD : c.D = some D) (hn : dk.length ≤ 100000) (h : P .none (dk ++ [x])) : CallW c k (.builtin "list.append") [.raw (.ref D), .int x] dk P := by
  intro A F ρ s Q E ws R S r hQ
  cases r with | cons r1 r2 => cases r2 with | cons r2 r3 =>
    cases r3; cases r1; cases r2 with | int _ t =>
      obtain ⟨m, vs, n, ii, eD, Fm, N, kk⟩ := S.ledD hD
      have el := ii.length
      refine PySem.W.append_K Fm N (.head restN_ne) (fun h' F' N' => ?_) (by simp only [List.size_toArray]; rw [sizeLine]; (first | lia | omega))
      have e1 : vs.toArray.push (Value.int x t) = (vs ++ [Value.int x t]).toArray := by simp
      rw [e1] at N'
      obtain ⟨S', N''⟩ := kk h' _ _ (dk ++ [x]) (ii.append (.cons x t .nil)) F' N'
      exact hQ F _ _ _ _ ⟨⟨_, s.toks, rfl⟩, N''⟩ S' .none h
theorem WX_setD {P : Fl → Rho → List Int → Prop} {D : Addr} {o i e : Expr} {p pos : Pos} (hD : c.D = some D)
    (h : WE c k e ρ dk fun v d => ∃ x, v = .int x ∧ WE c k o ρ d fun u d' => u = .raw (.ref D) ∧ WE c k i ρ d' fun j d'' => ∃ n, j = .int n ∧ 0 ≤ n ∧ n < d''.length ∧ n < 2 ^ 62 ∧ P .next ρ (d''.set n.toNat x))
    (hs : swapsWith e (some (.Subscript o i p)) pos.line c.env = pure false := by rfl) : WX c k (.Assign [.Subscript o i p] e pos) ρ dk P := by
  intro A F s Q E R S hQ
  refine wpAny_Assign_Subscript (h A F s _ E R S fun F1 s1 a v d1 G1 S1 r1 p1 => ?_) hs
  obtain ⟨x, rfl, p1⟩ := p1
  refine p1 A F1 s1 _ E R S1 fun F2 s2 b u d2 G2 S2 r2 p2 => ?_
  obtain ⟨rfl, p2⟩ := p2
  refine p2 A F2 s2 _ E R S2 fun F3 s3 b' u' d3 G3 S3 r3 p3 => ?_
  obtain ⟨n, rfl, h0, h1, h2, p⟩ := p3
  cases r1; cases r2; cases r3
  obtain ⟨m, vs, n', ii, eD, Fm, N, kk⟩ := S3.ledD hD
  refine PySem.W.ksa_set Fm N (.head restN_ne) ii h0 h1 (by (first | lia | omega)) fun h' F' N' i' _ _ => ?_
  obtain ⟨S', N''⟩ := kk h' _ _ _ i' F' N'
  exact hQ F3 _ _ _ ρ _ (((G1.trans G2).trans G3).trans ⟨⟨_, s3.toks, rfl⟩, N''⟩) S' .next p

-- statements
theorem WX_expr {P : Fl → Rho → List Int → Prop} {e : Expr} {pos : Pos} (h : WE c k e ρ dk fun _ d => P .next ρ d) (hi : interactive c.env = false) (hs : swapsWith e none pos.line c.env = pure false := by rfl) : WX c k (.Expr e pos) ρ dk P := by
  intro A F s Q E R S hQ
  exact wpAny_Expr_any (h A F s _ E R S fun F1 s1 a v d1 G1 S1 r1 p1 => hQ F1 s1 _ _ ρ d1 G1 S1 .next p1) hi hs
theorem not_interactive : interactive c.env = false := by
  unfold interactive; rw [c.kf]; rfl

-- bools as values
theorem WE_and2 {a b : Expr} {pos : Pos} (h : WE c k a ρ dk fun v d => ∃ z, v = .bool z ∧ (z = true → WE c k b ρ d fun v d => ∃ z, v = .bool z ∧ P (.bool z) d) ∧ (z = false → P (.bool false) d)) : WE c k (.BoolOp .And [a, b] pos) ρ dk P := by
  intro A F s Q E R S hQ
  refine BoolOp_and (h A F s _ E R S fun F1 s1 x v d1 G1 S1 r1 p1 => ?_)
  obtain ⟨z, rfl, pt, pf⟩ := p1
  cases r1
  refine wpAny_truthy_bool ?_
  cases z with
  | false => exact hQ F1 s1 _ _ d1 G1 S1 (.bool _) (pf rfl)
  | true =>
    refine BoolOp_one (pt rfl A F1 s1 _ E R S1 fun F2 s2 y u d2 G2 S2 r2 p2 => ?_)
    obtain ⟨z, rfl, p⟩ := p2
    exact hQ F2 s2 _ _ d2 (G1.trans G2) S2 r2 p
end

-- M11
section
variable {c : Fc} {k : Nat} {ρ : Rho} {dk : List Int} {P : Fl → Rho → List Int → Prop}

def Storable (c : Fc) (x : Str) : Prop := c.env.kindOf x = some .local ∨ (c.env.kindOf x = some .cell ∧ ∃ a, c.env.cells.lookup x = some a ∧ a ∈ c.own ∧ ∀ y b, c.env.cells.lookup y = some b → y ≠ x → b ≠ a)
theorem store_any {x : Str} {w : Value} {v : V} {A : Around} {F : Sto} {s : Shared} {Q : Unit → Shared → Prop} {E : Value → Shared → Prop} (S : Sta c F ρ dk s.heap) (hk : Storable c x) (r : Rep CT F w v)
    (h : ∀ s', Go c F F s s' → Sta c F (ρ.set x v) dk s'.heap → Q () s') : wpAny (model PR c.g.w) A (storeName c.env x w) Q E s := by
  rcases hk with hk | ⟨hk, a, hc, ho, hu⟩
  · exact store_local S hk r h
  · obtain ⟨o, u, e, d⟩ := S.cel a ho
    refine wpAny_storeName_cell c.kf hk hc ⟨o, e, d⟩ fun h' hc' hs => ?_
    obtain ⟨S', N'⟩ := S.setC hk r hc ho hu hc' hs
    exact h _ ⟨⟨_, s.toks, rfl⟩, N'⟩ S'
theorem WX_setX {x : Str} {p pos : Pos} {e : Expr} (hk : Storable c x) (h : WE c k e ρ dk fun v d => P .next (ρ.set x v) d)
    (hs : swapsWith e (some (.Name x p)) pos.line c.env = pure false := by rfl) : WX c k (.Assign [.Name x p] e pos) ρ dk P := by
  intro A F s Q E R S hQ
  refine wpAny_Assign_Name (h A F s _ E R S fun F1 s1 w v d1 G1 S1 r1 p1 => ?_) hs
  exact store_any S1 hk r1 fun s2 G2 S2 => hQ F1 s2 _ _ _ d1 (G1.trans G2) S2 .next p1

/-- names, stored in their order -/
def Rho.sets : Rho → List (Str × V) → Rho
  | ρ, [] => ρ
  | ρ, (x, v) :: r => Rho.sets (ρ.set x v) r
theorem inOrder_ok {A : Around} {F : Sto} {Q : Unit → Shared → Prop} {E : Value → Shared → Prop} : ∀ {xs : List Str} {ts : List (Value → Sem Unit)} {ws : List Value} {vs : List V} {ρ : Rho} {s : Shared}, (∀ x ∈ xs, Storable c x) →
    (∀ (i : Nat) (x : Str), xs[i]? = some x → ∃ t : Value → Sem Unit, ts[i]? = some t ∧ ∀ (w : Value) (s : Shared) (Q : Unit → Shared → Prop), wpAny (model PR c.g.w) A (storeName c.env x w) Q E s → wpAny (model PR c.g.w) A (t w) Q E s) → xs.length = ts.length → xs.length = vs.length →
    Reps CT F ws vs → Sta c F ρ dk s.heap → (∀ s', Go c F F s s' → Sta c F (ρ.sets (xs.zip vs)) dk s'.heap → Q () s') → wpAny (model PR c.g.w) A (assignInOrder ts ws) Q E s
  | [], ts, ws, vs, ρ, s, hst, ht, hl, hl2, r, S, h => by
    cases ts with
    | cons => cases hl
    | nil =>
      cases r with
      | cons => cases hl2
      | nil => exact wpAny_assignInOrder_none (h s .refl S)
  | x :: xs, ts, ws, vs, ρ, s, hst, ht, hl, hl2, r, S, h => by
    cases ts with
    | nil => cases hl
    | cons t ts =>
      cases r with
      | nil => cases hl2
      | cons r rr =>
        obtain ⟨t', e, hw⟩ := ht 0 x rfl
        cases e
        refine wpAny_assignInOrder_more (hw _ _ _ (store_any S (hst x (.head _)) r fun s1 G1 S1 => ?_))
        exact inOrder_ok (fun y hy => hst y (.tail _ hy)) (fun i y hy => ht (i + 1) y hy) (by simpa using hl) (by simpa using hl2) rr S1 fun s2 G2 S2 => h s2 (G1.trans G2) S2

theorem tup_at {F : Sto} {h : Heap} {w : Value} {vs : List V} (S : Sta c F ρ dk h) (r : Rep CT F w (.tup vs)) : ∃ a ws, w = .ref a ∧ h.IsTuple a (List.toArray ws) ∧ Reps CT F ws vs := by
  cases r with | tup e rr => exact ⟨_, _, rfl, ⟨_, S.sub _ _ e, rfl, _, rfl⟩, rr⟩

/-- names = a value that is a tuple -/
theorem WX_tup {ts : List Expr} {xs : List Str} {x1 : Nat} {p pos : Pos} {e : Expr}
    (h : WE c k e ρ dk fun v d => ∃ vs, v = .tup vs ∧ xs.length = vs.length ∧ P .next (ρ.sets (xs.zip vs)) d) (hst : ∀ x ∈ xs, Storable c x)
    (hts : ∃ ps : List Pos, ts = (xs.zip ps).map (fun y => Expr.Name y.1 y.2) ∧ ps.length = xs.length)
    (hs : swapsWithSole [.Tuple ts x1 p] e pos.line c.env = pure false) (hw : swappedStores [.Tuple ts x1 p] e c.env = pure none) : WX c k (.Assign [.Tuple ts x1 p] e pos) ρ dk P := by
  intro A F s Q E R S hQ
  refine wpAny_Assign_stores (h A F s _ E R S fun F1 s1 w v d1 G1 S1 r1 p1 => ?_) hs hw
  obtain ⟨vs, rfl, hl, p1⟩ := p1
  obtain ⟨a, ws, rfl, hT, rr⟩ := tup_at S1 r1
  obtain ⟨ps, ets, hps⟩ := hts
  have key : ∀ (xs : List Str) (ps : List Pos), ps.length = xs.length → assignEach ((xs.zip ps).map fun y => Expr.Name y.1 y.2) c.env = (xs.zip ps).map fun y => (false, assign (.Name y.1 y.2) c.env) := by
    intro xs
    induction xs with
    | nil => intro ps _; rfl
    | cons x r ih =>
      intro ps hp
      cases ps with
      | nil => cases hp
      | cons q qs =>
        show (false, assign (.Name x q) c.env) :: assignEach ((r.zip qs).map fun y => Expr.Name y.1 y.2) c.env = _
        rw [ih qs (by simpa using hp)]; rfl
  have hz : (xs.zip ps).length = xs.length := by rw [List.length_zip, hps]; exact Nat.min_self _
  show wpAny _ A (assign (.Tuple ts x1 p) c.env (.ref a)) _ E s1
  refine wpAny_assign_Tuple R.hd hT ?_ ?_ fun h' he => ?_
  · rw [ets, key xs ps hps, List.length_map, hz, hl]
    simp [rr.length]
  · rw [ets, key xs ps hps]
    rw [List.findIdx?_map]
    apply List.findIdx?_eq_none_iff.mpr
    intro x _; rfl
  · have kk : ∀ b o, s1.heap.get? b = some o → h'.get? b = some o := fun b o e => he b o (Nat.ne_of_lt (Heap.lt_size e)) e
    refine inOrder_ok (xs := xs) (ws := ws) (s := { s1 with heap := h' }) hst (fun i x hx => ?_) ?_ hl rr (S1.mono kk) fun s2 G2 S2 => ?_
    · rw [ets, key xs ps hps, List.map_map]
      have hi : i < xs.length := by
        rcases Nat.lt_or_ge i xs.length with q | q
        · exact q
        · rw [List.getElem?_eq_none q] at hx; cases hx
      have hx' : xs[i] = x := by rw [List.getElem?_eq_getElem hi] at hx; exact Option.some.inj hx
      refine ⟨_, by rw [List.getElem?_map, List.getElem?_eq_getElem (by rw [hz]; exact hi)]; rfl, fun w s Q hw => ?_⟩
      show wpAny _ A (assign (.Name (xs.zip ps)[i].1 (xs.zip ps)[i].2) c.env w) Q E s
      rw [List.getElem_zip]
      exact wpAny_assign_Name (by rw [hx']; exact hw)
    · rw [ets, key xs ps hps, List.length_map, List.length_map, hz]
    · exact hQ F1 s2 _ _ _ d1 (G1.trans (⟨⟨h', s1.toks, rfl⟩, Nx.mono kk⟩ : Go c F1 F1 s1 { s1 with heap := h' }) |>.trans G2) S2 .next p1

/-- names = a display, stored from behind -/
theorem WX_swap {ts vs : List Expr} {names : List Str} {x1 x2 : Nat} {p q pos : Pos}
    (h : WA c k vs ρ dk fun us d => us.length ≤ 1000 ∧ names.length = us.length ∧ P .next (ρ.sets (names.reverse.zip us.reverse)) d) (hst : ∀ x ∈ names, Storable c x)
    (hs : swapsWithSole [.Tuple ts x1 p] (.Tuple vs x2 q) pos.line c.env = pure false) (hw : swappedStores [.Tuple ts x1 p] (.Tuple vs x2 q) c.env = pure (some names)) : WX c k (.Assign [.Tuple ts x1 p] (.Tuple vs x2 q) pos) ρ dk P := by
  intro A F s Q E R S hQ
  refine Assign_Tuple_swapped (names := names) (wpAny_Tuple_spliced (h.spliced A F s _ E R S fun F1 s1 ws us d1 G1 S1 r1 p1 => ⟨?_, ?_⟩)) hs hw
  · rw [r1.length, sizeLine]; have := p1.1; (first | lia | omega)
  obtain ⟨S2, N2⟩ := S1.push { cls := .type "tuple", data := .seq ws.toArray }
  have hsz : names.length = ws.toArray.size := by rw [p1.2.1, List.size_toArray, r1.length]
  rw [hsz]
  refine wpAny_unpackItems_tuple R.hd ⟨_, Heap.get?_push_size _ rfl, rfl, _, rfl⟩ fun h' he => ?_
  have kk : ∀ b o, (s1.heap.push { cls := .type "tuple", data := .seq ws.toArray }).get? b = some o → h'.get? b = some o := fun b o e => he b o (Nat.ne_of_lt (Heap.lt_size e)) e
  have rrev : Reps CT (ins F1 s1.heap.objs.size { cls := .type "tuple", data := .seq ws.toArray }) ws.reverse us.reverse := by
    have : ∀ {F : Sto} {ws : List Value} {us : List V}, Reps CT F ws us → Reps CT F ws.reverse us.reverse := by
      intro F ws us r
      induction us generalizing ws with
      | nil => cases r; exact .nil
      | cons u us ih =>
        cases r with
        | cons r rr =>
          rw [List.reverse_cons, List.reverse_cons]
          exact Reps.append (.cons r .nil) (ih rr)
    exact this (r1.mono N2.sub)
  refine inOrder_ok (xs := names.reverse) (vs := us.reverse) (s := { s1 with heap := h' }) (fun x hx => hst x (List.mem_reverse.mp hx)) (fun i x hx => ?_) (by simp) (by simp [p1.2.1]) rrev (S2.mono kk) fun s2 G2 S3 => ?_
  · exact ⟨_, by rw [List.getElem?_map, hx]; rfl, fun w s Q hw => wpAny_bindName hw⟩
  · refine hQ _ s2 _ _ _ d1 ?_ S3 .next p1.2.2
    exact (G1.trans (.push N2)).trans ((⟨⟨h', s1.toks, rfl⟩, Nx.mono kk⟩ : Go c _ _ { s1 with heap := s1.heap.push { cls := .type "tuple", data := .seq ws.toArray } } { s1 with heap := h' }).trans G2)
end

-- M12
section
variable {c : Fc} {k : Nat} {ρ : Rho} {dk : List Int} {P : V → List Int → Prop}

theorem kt_makes (p : Params) : makesIn (Mine.topK p) CT = true := by rfl
theorem kt_init (p : Params) : findIn (Mine.topK p) (.ref CT) "__init__" = some (some (.ref 121)) := by rfl
theorem kt_fn (p : Params) : typeIn (Mine.topK p) (.ref 121) = some (.type "function") := by rfl
theorem kt_sa (p : Params) : findIn (Mine.topK p) (.ref CT) "__setattr__" = some (some (.builtin "object.__setattr__")) := by rfl
theorem kt_over (p : Params) : plainOver (Mine.topK p) CT = true := by rfl
theorem kt_taker1 (p : Params) : takerIn (Mine.topK p) CT "codes" = some none := by rfl
theorem kt_taker2 (p : Params) : takerIn (Mine.topK p) CT "place" = some none := by rfl
theorem kt_dict (p : Params) : (clsIn (Mine.topK p) CT).any (·.hasDict) = true := by rfl
theorem nl_list (p : Params) : nsIn (Mine.topK p) mainGlobals "list" = some none := by rfl
theorem bt_list : bootBuiltins "list" = some (.type "list") := by boot_by_name

theorem under_make_units (A : Around) (C : Addr) (vals : List Value) : (A.under (.builtin "type.__call__" ⟨.ref C :: vals, []⟩)).units = A.units + 1 := by
  show A.units + Code.cUnits _ = _
  rfl


/-- a private object may be changed -/
theorem Sta.ledP {F : Sto} {h : Heap} {dx : Addr} {od : Obj} (S : Sta c F ρ dk h) (ho : h.get? dx = some od) (hF : F dx = none) (hM : ¬ c.Mut dx) (hnc : ∀ v, od.data ≠ .cell v) :
    ∃ m, Fr ({} : Heap) c.env.locals h m ∧ News ({} : Heap) c.env.locals h ((dx, od) :: restN h c.env.locals dx) ∧ ∀ h' od', Fr ({} : Heap) c.env.locals h' m → News ({} : Heap) c.env.locals h' ((dx, od') :: restN h c.env.locals dx) →
      Sta c F ρ dk h' ∧ (∀ a o, a ≠ dx → a ≠ c.env.locals → h.get? a = some o → h'.get? a = some o) ∧ h'.get? dx = some od' ∧ ∃ o, h'.get? c.env.locals = some o := by
  obtain ⟨m, hn, hv⟩ := S.ns
  have hL : dx ≠ c.env.locals := fun q => hM (.inl q)
  refine ⟨m, ⟨hn, (fun b o e => by rw [emptyHeap_get] at e; cases e), Nat.zero_le _⟩, ?_, fun h' od' F' N' => ?_⟩
  · intro p hp
    rcases List.mem_cons.mp hp with rfl | hp
    · exact ⟨ho, hL, emptyHeap_get _⟩
    · have := allN_of (List.mem_filter.mp hp).1
      exact ⟨this.1, this.2, emptyHeap_get _⟩
  · have kk : ∀ a o, a ≠ dx → a ≠ c.env.locals → h.get? a = some o → h'.get? a = some o := fun a o q2 q e =>
      (N' _ (.tail _ (List.mem_filter.mpr ⟨allN_mem e q, by simpa using q2⟩))).1
    have ed' := (N' _ (.head _)).1
    have hFL := (S.mt c.env.locals (.inl rfl)).1
    obtain ⟨oL, esL, epL, hoL, hdL⟩ := S.locals_obj
    refine ⟨⟨S.base, fun a o e => kk a o (by rintro rfl; rw [hF] at e; cases e) (by rintro rfl; rw [hFL] at e; cases e) (S.sub a o e), fun a ha => ⟨(S.mt a ha).1, ?_⟩, fun D hD => ?_, ?_, fun a ha => ?_⟩, kk, ed', ?_⟩
    · obtain ⟨o, e⟩ := (S.mt a ha).2
      by_cases q : a = c.env.locals
      · subst q
        obtain ⟨o', _, _, ho', _⟩ := F'.ns
        exact ⟨o', ho'⟩
      · exact ⟨o, kk a o (by rintro rfl; exact hM ha) q e⟩
    · obtain ⟨vs, n, e, i⟩ := S.deck D hD
      exact ⟨vs, n, kk _ _ (by rintro rfl; exact hM (.inr (.inl hD))) (S.deck_ne hD) e, i⟩
    · refine ⟨m, F'.ns, fun x v e => ?_⟩
      rcases hv x v e with ⟨a, w, b, r⟩ | ⟨a, d, o, w, b1, b2, b3, r⟩
      · exact .inl ⟨a, w, b, r⟩
      · refine .inr ⟨a, d, o, w, b1, kk _ _ ?_ ?_ b2, b3, r⟩
        · rintro rfl; rw [ho] at b2; cases b2; exact hnc _ b3
        · rintro rfl; rw [hoL] at b2; cases b2; rw [hdL] at b3; cases b3
    · obtain ⟨o, u, e, d⟩ := S.cel a ha
      refine ⟨o, u, kk _ _ (by rintro rfl; exact hM (.inr (.inr ha))) ?_ e, d⟩
      rintro rfl; rw [hoL] at e; cases e; rw [hdL] at d; cases d
    · obtain ⟨o', _, _, ho', _⟩ := F'.ns
      exact ⟨o', ho'⟩

theorem init_body {c' : Fc} {q1 q2 q3 q4 q5 q6 q7 q8 q9 q10 : Pos} {A : Around} {F : Sto} {s0 : Shared} {x dx : Addr} {w2 : Value} {xs : List V} {ρ0 : Rho} {Q : Flow → Shared → Prop} {E : Value → Shared → Prop}
    (Rm : Room A (k + 1)) (S : Sta c' F ρ0 dk s0.heap) (hD : c'.D = none) (hown : c'.own = []) (hx : s0.heap.get? x = some (instObj CT dx)) (hdx : s0.heap.get? dx = some (dictOf [] 0)) (hFd : F dx = none) (hne : x ≠ dx) (hML : c'.env.locals ≠ x ∧ c'.env.locals ≠ dx) (hn : xs.length ≤ 100000)
    (h1 : ρ0.lookup (Str.ofString "self") = some (.raw (.ref x))) (h2 : ρ0.lookup (Str.ofString "codes") = some (.list xs)) (h3 : ρ0.lookup (Str.ofString "place") = some (.raw w2)) (hk : c'.env.kindOf "list" = some .globalImplicit)
    (hR : ∀ F' h' tk h1 h2 t1 t2 l n, Rep CT F' l (.list xs) → (∀ a o, F a = some o → F' a = some o) → (∀ a o, F' a = some o → h'.get? a = some o) → (∀ a o, s0.heap.get? a = some o → a ≠ dx → a ≠ c'.env.locals → h'.get? a = some o) →
      (∀ a o, s0.heap.get? a = some o → F a = none → F' a = none) → h'.get? dx = some (dictOf [⟨h1, .str "codes" t1, l⟩, ⟨h2, .str "place" t2, w2⟩] n) → Q .next { s0 with heap := h', toks := tk }) :
    wpAny (model PR c'.g.w) A (execs [Stmt.Assign [(Expr.Name "self" q1).Attribute "codes" q2] ((Expr.Name "list" q3).Call [Expr.Name "codes" q4] [] q5) q6, Stmt.Assign [(Expr.Name "self" q7).Attribute "place" q8] (Expr.Name "place" q9) q10] c'.env) Q E s0 := by
  have nx : ¬ c'.Mut x := by
    rintro (q | q | q)
    · exact hML.1 q.symm
    · rw [hD] at q; cases q
    · rw [hown] at q; cases q
  have nd : ¬ c'.Mut dx := by
    rintro (q | q | q)
    · exact hML.2 q.symm
    · rw [hD] at q; cases q
    · rw [hown] at q; cases q
  have e1 : WE c' k ((Expr.Name "list" q3).Call [Expr.Name "codes" q4] [] q5) ρ0 dk fun v d => v = .list xs ∧ d = dk :=
    WE_call (WE_b hk nl_list bt_list ⟨_, rfl, .inr (.inl ⟨_, rfl⟩), WA_cons (WE_var h2 (WA_nil (c_list hn ⟨rfl, rfl⟩)))⟩)
  refine wpAny_execs_cons (plainObj_wpAny_Assign_Attribute (e1 A F s0 _ E (Rm.le (Nat.le_succ _)) S fun F1 s1 wl v d1 G1 S1 r1 p1 => ?_))
  obtain ⟨rfl, rfl⟩ := p1
  have eself : ∀ q, WE c' k (.Name "self" q) ρ0 d1 fun v d => v = .raw (.ref x) ∧ d = d1 := fun q => WE_var h1 ⟨rfl, rfl⟩
  have eplace : WE c' k (.Name "place" q9) ρ0 d1 fun v d => v = .raw w2 ∧ d = d1 := WE_var h3 ⟨rfl, rfl⟩
  refine eself _ A F1 s1 _ E (Rm.le (Nat.le_succ _)) S1 fun F2 s2 w v d2 G2 S2 r2 p2 => ?_
  obtain ⟨rfl, rfl⟩ := p2
  cases r2
  have hx2 := G2.nx.keep _ _ (G1.nx.keep _ _ hx nx) nx
  have hd1 := G1.nx.keep _ _ hdx nd
  have hd2 := G2.nx.keep _ _ hd1 nd
  have hF2 := G2.nx.out _ _ hd1 (G1.nx.out _ _ hdx hFd)
  obtain ⟨m, Fm, N, kk⟩ := S2.ledP hd2 hF2 nd (fun v q => by cases q)
  refine set_plain (od := some (dictOf [] 0)) S2.kin ⟨hx2, rfl, rfl, hd2⟩ (kt_sa _) (osa_dict (s := { s2 with toks := s2.toks + 1 }) (pre := []) Fm N S2.kin ⟨hx2, rfl, rfl, hd2⟩ rfl (kt_over _) (kt_taker1 _) (kt_dict _) (by rfl) (fun _ hp => by cases hp) restN_ne (putName_dict _ _ _ _ _ _) rfl (Nat.le_of_ble_eq_true rfl) fun h3 F3 N3 => ?_)
  obtain ⟨S3, k3, ed3, eL3⟩ := kk h3 _ F3 N3
  obtain ⟨hh1, tt1, rfl⟩ := G1.st
  obtain ⟨hh2, tt2, rfl⟩ := G2.st
  have hx3 := k3 x _ hne (Ne.symm hML.1) hx2
  refine wpAny_execs_cons (plainObj_wpAny_Assign_Attribute (eplace A F2 _ _ E (Rm.le (Nat.le_succ _)) S3 fun F4 s4 wp v d4 G4 S4 r4 p4 => ?_))
  obtain ⟨rfl, rfl⟩ := p4
  cases r4
  refine eself _ A F4 s4 _ E (Rm.le (Nat.le_succ _)) S4 fun F5 s5 w v d5 G5 S5 r5 p5 => ?_
  obtain ⟨rfl, rfl⟩ := p5
  cases r5
  have hx5 := G5.nx.keep _ _ (G4.nx.keep _ _ hx3 nx) nx
  have hd4 := G4.nx.keep _ _ ed3 nd
  have hd5 := G5.nx.keep _ _ hd4 nd
  have hF5 := G5.nx.out _ _ hd4 (G4.nx.out _ _ ed3 hF2)
  obtain ⟨m', Fm', N', kk'⟩ := S5.ledP hd5 hF5 nd (fun v q => by cases q)
  refine set_plain (od := some (dictOf _ _)) S5.kin ⟨hx5, rfl, rfl, hd5⟩ (kt_sa _) (osa_dict (s := { s5 with toks := s5.toks + 1 }) (pre := []) Fm' N' S5.kin ⟨hx5, rfl, rfl, hd5⟩ rfl (kt_over _) (kt_taker2 _) (kt_dict _) (by rfl) (fun _ hp => by cases hp) restN_ne (putName_dict _ _ _ _ _ _) rfl (Nat.le_of_ble_eq_true rfl) fun h6 F6 N6 => ?_)
  obtain ⟨S6, k6, ed6, _⟩ := kk' h6 _ F6 N6
  obtain ⟨hh4, tt4, rfl⟩ := G4.st
  obtain ⟨hh5, tt5, rfl⟩ := G5.st
  have kF : ∀ a o, F a = some o → F5 a = some o := fun a o e => G5.nx.sub a o (G4.nx.sub a o (G2.nx.sub a o (G1.nx.sub a o e)))
  have nM : ∀ a, a ≠ c'.env.locals → ¬ c'.Mut a := fun a q1 q => by
    rcases q with q | q | q
    · exact q1 q
    · rw [hD] at q; cases q
    · rw [hown] at q; cases q
  refine wpAny_execs_nil (hR F5 h6 _ _ _ _ _ wl _ (r1.mono fun a o e => G5.nx.sub a o (G4.nx.sub a o (G2.nx.sub a o e))) kF S6.sub (fun a o e q1 q2 => ?_) (fun a o e q => ?_) ed6)
  · have n1 := nM a q2
    exact k6 a o q1 q2 (G5.nx.keep _ _ (G4.nx.keep _ _ (k3 a o q1 q2 (G2.nx.keep _ _ (G1.nx.keep _ _ e n1) n1)) n1) n1)
  · obtain ⟨o1, e1⟩ := G1.nx.live a o e
    obtain ⟨o2, e2⟩ := G2.nx.live a o1 e1
    have f2 := G2.nx.out a o1 e1 (G1.nx.out a o e q)
    obtain ⟨o3, e3⟩ : ∃ o3, h3.get? a = some o3 := by
      by_cases qd : a = dx
      · subst qd; exact ⟨_, ed3⟩
      · by_cases ql : a = c'.env.locals
        · subst ql; exact eL3
        · exact ⟨o2, k3 a o2 qd ql e2⟩
    obtain ⟨o4, e4⟩ := G4.nx.live a o3 e3
    exact G5.nx.out a o4 e4 (G4.nx.out a o3 e3 f2)

theorem init_ok {A : Around} {F : Sto} {s : Shared} {x dx : Addr} {w1 w2 : Value} {xs : List V} {f : Int} {rest : List Value} {R : Result → Shared → Prop}
    (Rm : Room A (k + 2)) (S : Sta c F ρ dk s.heap) (hx : s.heap.get? x = some (instObj CT dx)) (hdx : s.heap.get? dx = some (dictOf [] 0)) (hFd : F dx = none) (hne : x ≠ dx) (r1 : Rep CT F w1 (.list xs)) (r2 : Rep CT F w2 (.int f)) (hn : xs.length ≤ 100000)
    (hrest : rest = [w1, w2] ∨ (rest = [w1] ∧ w2 = .int 1 350))
    (hR : ∀ F' h' tk h1 h2 t1 t2 l n, Rep CT F' l (.list xs) → (∀ a o, F a = some o → F' a = some o) → (∀ a o, F' a = some o → h'.get? a = some o) → (∀ a o, s.heap.get? a = some o → a ≠ dx → h'.get? a = some o) →
      (∀ a o, s.heap.get? a = some o → F a = none → F' a = none) → h'.get? dx = some (dictOf [⟨h1, .str "codes" t1, l⟩, ⟨h2, .str "place" t2, w2⟩] n) → R (.ok (.ret .none)) { s with heap := h', toks := tk }) :
    codeAny (model PR c.g.w) A (.call (.ref 121) ⟨.ref x :: rest, []⟩) R s := by
  have X := S.kin
  have hlook : (Mine.topK c.g.w.params).lookup 121 = some _ := rfl
  have hlook2 : (Mine.topK c.g.w.params).lookup 114 = some _ := rfl
  refine codeAny_call_def (binds := [(Str.ofString "self", .ref x), (Str.ofString "codes", w1), (Str.ofString "place", w2)]) (by have := Rm.dp; (first | lia | omega)) (X _ _ hlook) rfl (c.g.nolimit.keeps S.nsBase) (codeRec_of X (by rfl)) rfl ?_ (by decide) (locs rfl) (fun h₀ hns hkeep => ?_)
  · rcases hrest with rfl | ⟨rfl, rfl⟩
    · exact binds_K X rfl hlook2 rfl rfl rfl
    · exact binds_K X rfl hlook2 rfl rfl rfl
  have hL0 : ∀ a o, s.heap.get? a = some o → s.heap.objs.size ≠ a := fun a o e q => absurd (Heap.lt_size e) (by rw [← q]; exact Nat.lt_irrefl _)
  have hF0 : F s.heap.objs.size = none := by
    cases q : F s.heap.objs.size with
    | none => rfl
    | some o => exact absurd rfl (hL0 _ o (S.sub _ _ q))
  refine init_body (c' := { g := c.g, env := _, D := none, own := [], kf := rfl, gl := rfl, bl := rfl }) (k := k) (dk := dk) (ρ0 := [(Str.ofString "self", .raw (.ref x)), (Str.ofString "codes", .list xs), (Str.ofString "place", .raw w2)]) (F := F) Rm.deeper ?_ rfl rfl (hkeep _ _ hx) (hkeep _ _ hdx) hFd hne ⟨hL0 _ _ hx, hL0 _ _ hdx⟩ hn rfl rfl rfl rfl fun F' h' tk h1 h2 t1 t2 l n a1 a2 a3 a4 a5 a6 => ?_
  · refine ⟨S.base, fun a o e => hkeep _ _ (S.sub a o e), fun a ha => ?_, (fun D hD => by cases hD), ⟨_, hns, fun y v e => ?_⟩, (fun a ha => by cases ha)⟩
    · rcases ha with q | q | q
      · subst q
        obtain ⟨o, _, _, e, _⟩ := hns
        exact ⟨hF0, o, e⟩
      · cases q
      · cases q
    · have hz : ([(Str.ofString "self", Value.ref x), (Str.ofString "codes", w1), (Str.ofString "place", w2)].map (·.1)).Nodup := by
        show [Str.ofString "self", Str.ofString "codes", Str.ofString "place"].Nodup
        decide
      have rr : Reps CT F [.ref x, w1, w2] [.raw (.ref x), .list xs, .raw w2] := .cons (.raw _) (.cons r1 (.cons (.raw _) .nil))
      obtain ⟨w, e', r'⟩ := zip_lookup (ns := [Str.ofString "self", Str.ofString "codes", Str.ofString "place"]) rr e
      refine .inl ⟨?_, w, (lookup_reverse hz).trans e', r'⟩
      have hy : y ∈ [Str.ofString "self", Str.ofString "codes", Str.ofString "place"] := by
        by_cases q : y ∈ [(Str.ofString "self", Value.ref x), (Str.ofString "codes", w1), (Str.ofString "place", w2)].map (·.1)
        · exact q
        · rw [show [Str.ofString "self", Str.ofString "codes", Str.ofString "place"].zip [.ref x, w1, w2] = [(Str.ofString "self", Value.ref x), (Str.ofString "codes", w1), (Str.ofString "place", w2)] from rfl, lookup_none_of q] at e'
          cases e'
      rcases List.mem_cons.mp hy with rfl | hy
      · rfl
      · rcases List.mem_cons.mp hy with rfl | hy
        · rfl
        · rw [List.mem_singleton.mp hy]; rfl
  · exact hR F' h' tk h1 h2 t1 t2 l n a1 a2 a3 (fun a o e q => a4 a o (hkeep _ _ e) q (Ne.symm (hL0 a o e))) (fun a o e q => a5 a o (hkeep _ _ e) q) a6

theorem Sta.regrow {F F' : Sto} {h : Heap} (S : Sta c F ρ dk h) (kF : ∀ a o, F a = some o → F' a = some o) (s' : ∀ a o, F' a = some o → h.get? a = some o) (oM : ∀ a, c.Mut a → F' a = none) : Sta c F' ρ dk h where
  base := fun a o e => kF a o (S.base a o e)
  sub := s'
  mt := fun a ha => ⟨oM a ha, (S.mt a ha).2⟩
  deck := S.deck
  ns := by
    obtain ⟨m, hn, hv⟩ := S.ns
    refine ⟨m, hn, fun x v e => ?_⟩
    rcases hv x v e with ⟨a, w, b, r⟩ | ⟨a, d, o, w, b1, b2, b3, r⟩
    · exact .inl ⟨a, w, b, r.mono kF⟩
    · exact .inr ⟨a, d, o, w, b1, b2, b3, r.mono kF⟩
  cel := S.cel

theorem row_core {A : Around} {F : Sto} {s : Shared} {Q : Value → Shared → Prop} {E : Value → Shared → Prop} {w1 : Value} {xs : List V} {f : Int} {t : Tok} {rest : List Value} (R : Room A (k + 3)) (S : Sta c F ρ dk s.heap) (r1 : Rep CT F w1 (.list xs)) (hn : xs.length ≤ 100000)
    (hrest : rest = [w1, .int f t] ∨ (rest = [w1] ∧ Value.int f t = .int 1 350)) (h : P (.view xs f) dk)
    (hQ : ∀ F' s' x y dk', Go c F F' s s' → Sta c F' ρ dk' s'.heap → Rep CT F' x y → P y dk' → Q x s') : wpAny (model PR c.g.w) A (call (.ref 145) rest) Q E s := by
  obtain ⟨m, Fm, N, kk⟩ := S.led
  refine wpAny_call (make_K Fm N S.kin (kt_makes _) (kt_init _) (kt_fn _) fun x dx h' F' N' hlt hlt2 => ?_)
  have nx := N' _ (.head _)
  have nd := N' _ (.tail _ (.head _))
  obtain ⟨S1, N1⟩ := kk h' _ F' N' fun p hp => .tail _ (.tail _ hp)
  have fresh : ∀ a, dx ≤ a → a ≠ c.env.locals → s.heap.get? a = none := fun a ha hL => by
    cases e : s.heap.get? a with
    | none => rfl
    | some o => exact absurd (hlt _ (allN_mem e hL)) (Nat.not_lt.mpr ha)
  have fx := fresh x (Nat.le_of_lt hlt2) nx.2.1
  have fd := fresh dx (Nat.le_refl _) nd.2.1
  have fF := S.fresh fd
  have fFx := S.fresh fx
  have R' : Room (A.under (.builtin "type.__call__" ⟨.ref CT :: rest, []⟩)) (k + 2) :=
    ⟨R.hd, by rw [depth_under_make]; have := R.dp; (first | lia | omega), by rw [under_make_units]; have := R.un; (first | lia | omega)⟩
  refine init_ok (s := { s with heap := h' }) R' S1 nx.1 nd.1 fF.1 (Nat.ne_of_gt hlt2) r1 (.int f t) hn hrest fun F2 h2 tk g1 g2 t1 t2 l n q1 q2 q3 q4 q5 q6 => ?_
  refine ⟨rfl, ?_⟩
  have hx2 : h2.get? x = some (instObj CT dx) := q4 _ _ nx.1 (Nat.ne_of_gt hlt2)
  have S2 : Sta c F ρ dk h2 := S1.but (fun a o hne e => q4 a o e hne) fF.1 fF.2 ⟨_, nd.1, fun v q => by cases q⟩
  have S3 : Sta c F2 ρ dk h2 := S2.regrow q2 q3 fun a ha => by
    obtain ⟨e, o, ho⟩ := S1.mt a ha
    exact q5 a o ho e
  have N3 : Nx c F F2 s.heap h2 := by
    refine ⟨q2, fun a o e n => ?_, fun a o e n => q4 a o (N1.keep a o e n) (by rintro rfl; rw [fd] at e; cases e), fun a o e => ?_⟩
    · obtain ⟨o', e'⟩ := N1.live a o e; exact q5 a o' e' n
    · obtain ⟨o', e'⟩ := N1.live a o e; exact ⟨o', q4 a o' e' (by rintro rfl; rw [fd] at e; cases e)⟩
  obtain ⟨S4, N4⟩ := S.adopt2 S3 N3 fd (q5 _ _ nd.1 fF.1) q6
  have hFx4 : ins F2 dx (dictOf [⟨g1, .str "codes" t1, l⟩, ⟨g2, .str "place" t2, .int f t⟩] n) x = none := by
    rw [ins_ne (Nat.ne_of_gt hlt2)]; exact q5 _ _ nx.1 fFx.1
  obtain ⟨S5, N5⟩ := S.adopt2 S4 N4 fx hFx4 hx2
  have kF5 : ∀ a o, F2 a = some o → ins (ins F2 dx (dictOf [⟨g1, .str "codes" t1, l⟩, ⟨g2, .str "place" t2, .int f t⟩] n)) x (instObj CT dx) a = some o := fun a o e => by
    rw [ins_ne (by rintro rfl; rw [q5 _ _ nx.1 fFx.1] at e; cases e), ins_ne (by rintro rfl; rw [q5 _ _ nd.1 fF.1] at e; cases e)]
    exact e
  refine hQ _ { s with heap := h2, toks := tk } (.ref x) _ dk (.of N5) S5 (.view (dx := dx) (h1 := g1) (h2 := g2) (t1 := t1) (t2 := t2) (t3 := t) (n := n) ins_same ?_ (q1.mono kF5)) h
  rw [ins_ne (Nat.ne_of_lt hlt2), ins_same]

theorem c_row2 {xs : List V} {f : Int} (hn : xs.length ≤ 100000) (h : P (.view xs f) dk) : CallW c (k + 3) (.ref 145) [.list xs, .int f] dk P := by
  intro A F ρ s Q E ws R S r hQ
  cases r with | cons r1 r2 => cases r2 with | cons r2 r3 =>
    cases r3; cases r2
    exact row_core R S r1 hn (.inl rfl) h hQ
theorem c_row1 {xs : List V} (hn : xs.length ≤ 100000) (h : P (.view xs 1) dk) : CallW c (k + 3) (.ref 145) [.list xs] dk P := by
  intro A F ρ s Q E ws R S r hQ
  cases r with | cons r1 r2 =>
    cases r2
    exact row_core (f := 1) (t := 350) R S r1 hn (.inr ⟨rfl, rfl⟩) h hQ
end

-- M13
section
variable {c : Fc} {k : Nat} {ρ : Rho} {dk : List Int} {P : V → List Int → Prop} {e : Expr} {rest : List Expr} {p pos : Pos}
theorem bv_len : bootBuiltins "len" = some (.builtin "len") := by boot_by_name
theorem bv_range : bootBuiltins "range" = some (.type "range") := by boot_by_name
theorem g_abs (p : Params) : nsIn (Mine.topK p) mainGlobals "abs" = some none := by rfl
theorem bv_abs : bootBuiltins "abs" = some (.builtin "abs") := by boot_by_name
theorem bv_max : bootBuiltins "max" = some (.builtin "max") := by boot_by_name
theorem bv_min : bootBuiltins "min" = some (.builtin "min") := by boot_by_name
theorem bv_sum : bootBuiltins "sum" = some (.builtin "sum") := by boot_by_name
theorem bv_ord : bootBuiltins "ord" = some (.builtin "ord") := by boot_by_name
theorem g_chr (p : Params) : nsIn (Mine.topK p) mainGlobals "chr" = some none := by rfl
theorem bv_chr : bootBuiltins "chr" = some (.builtin "chr") := by boot_by_name
theorem cl_chr (hk : c.env.kindOf "chr" = some .globalImplicit) (h : WA c k (e :: rest) ρ dk fun vs d => CallW c k (.builtin "chr") vs d P) (hp : ∀ env, (backTo pos (starEach rest env)).any (·.1) = false := by intro _; rfl) :
    WE c k (.Call (.Name "chr" p) (e :: rest) [] pos) ρ dk P := WE_call (WE_b hk g_chr bv_chr ⟨_, rfl, .inl ⟨_, rfl⟩, h⟩) hp
theorem bv_list : bootBuiltins "list" = some (.type "list") := by boot_by_name
theorem bv_int : bootBuiltins "int" = some (.type "int") := by boot_by_name
theorem n_NEWLINE (hk : c.env.kindOf "NEWLINE" = some .globalImplicit) (h : P (.int 10) dk) : WE c k (.Name "NEWLINE" pos) ρ dk P :=
  WE_glob hk (PySem.W.mg_of c.g.kin c.g.g (by exact Eq.refl (some (some (Value.int 10 _))))) (fun _ _ => .int _ _) h
theorem n_SPACE (hk : c.env.kindOf "SPACE" = some .globalImplicit) (h : P (.int 32) dk) : WE c k (.Name "SPACE" pos) ρ dk P :=
  WE_glob hk (PySem.W.mg_of c.g.kin c.g.g (by exact Eq.refl (some (some (Value.int 32 _))))) (fun _ _ => .int _ _) h
theorem n_TAB (hk : c.env.kindOf "TAB" = some .globalImplicit) (h : P (.int 9) dk) : WE c k (.Name "TAB" pos) ρ dk P :=
  WE_glob hk (PySem.W.mg_of c.g.kin c.g.g (by exact Eq.refl (some (some (Value.int 9 _))))) (fun _ _ => .int _ _) h
theorem n_DELETE (hk : c.env.kindOf "DELETE" = some .globalImplicit) (h : P (.int 127) dk) : WE c k (.Name "DELETE" pos) ρ dk P :=
  WE_glob hk (PySem.W.mg_of c.g.kin c.g.g (by exact Eq.refl (some (some (Value.int 127 _))))) (fun _ _ => .int _ _) h
theorem n_BLANKS (hk : c.env.kindOf "BLANKS" = some .globalImplicit) (h : P (.tup [.int 32, .int 9]) dk) : WE c k (.Name "BLANKS" pos) ρ dk P := by
  have hb : c.g.hb.get? 15 = some _ := c.g.kin 15 _ rfl
  exact WE_glob hk (PySem.W.mg_of c.g.kin c.g.g (by exact Eq.refl (some (some (Value.ref 15))))) (fun F hF => .tup (vs := [.int 32 _, .int 9 _]) (hF 15 _ hb) (.cons (.int _ _) (.cons (.int _ _) .nil))) h
end

-- N0
theorem len_succ {α : Type} {l : List α} {n : Nat} (h : l.length = n + 1) : ∃ a r, l = a :: r ∧ r.length = n := by
  cases l with
  | nil => cases h
  | cons a r => exact ⟨a, r, rfl, Nat.succ.inj h⟩
section
variable {fd : FuncData} {n1 n2 n3 n4 n5 : Str}
theorem bind1 (h : ∀ a, bindArgs fd ⟨[a], []⟩ = pure [(n1, a)]) : ∀ ws : List Value, ws.length = 1 → bindArgs fd ⟨ws, []⟩ = pure ([n1].zip ws) := by
  intro ws hw
  obtain ⟨a, r1, rfl, h1⟩ := len_succ hw
  rw [List.eq_nil_of_length_eq_zero h1]; exact h a
theorem bind2 (h : ∀ a b, bindArgs fd ⟨[a, b], []⟩ = pure [(n1, a), (n2, b)]) : ∀ ws : List Value, ws.length = 2 → bindArgs fd ⟨ws, []⟩ = pure ([n1, n2].zip ws) := by
  intro ws hw
  obtain ⟨a, r1, rfl, h1⟩ := len_succ hw
  obtain ⟨b, r2, rfl, h2⟩ := len_succ h1
  rw [List.eq_nil_of_length_eq_zero h2]; exact h a b
theorem bind3 (h : ∀ a b c, bindArgs fd ⟨[a, b, c], []⟩ = pure [(n1, a), (n2, b), (n3, c)]) : ∀ ws : List Value, ws.length = 3 → bindArgs fd ⟨ws, []⟩ = pure ([n1, n2, n3].zip ws) := by
  intro ws hw
  obtain ⟨a, r1, rfl, h1⟩ := len_succ hw
  obtain ⟨b, r2, rfl, h2⟩ := len_succ h1
  obtain ⟨c, r3, rfl, h3⟩ := len_succ h2
  rw [List.eq_nil_of_length_eq_zero h3]; exact h a b c
theorem bind4 (h : ∀ a b c d, bindArgs fd ⟨[a, b, c, d], []⟩ = pure [(n1, a), (n2, b), (n3, c), (n4, d)]) : ∀ ws : List Value, ws.length = 4 → bindArgs fd ⟨ws, []⟩ = pure ([n1, n2, n3, n4].zip ws) := by
  intro ws hw
  obtain ⟨a, r1, rfl, h1⟩ := len_succ hw
  obtain ⟨b, r2, rfl, h2⟩ := len_succ h1
  obtain ⟨c, r3, rfl, h3⟩ := len_succ h2
  obtain ⟨d, r4, rfl, h4⟩ := len_succ h3
  rw [List.eq_nil_of_length_eq_zero h4]; exact h a b c d
theorem bind5 (h : ∀ a b c d e, bindArgs fd ⟨[a, b, c, d, e], []⟩ = pure [(n1, a), (n2, b), (n3, c), (n4, d), (n5, e)]) : ∀ ws : List Value, ws.length = 5 → bindArgs fd ⟨ws, []⟩ = pure ([n1, n2, n3, n4, n5].zip ws) := by
  intro ws hw
  obtain ⟨a, r1, rfl, h1⟩ := len_succ hw
  obtain ⟨b, r2, rfl, h2⟩ := len_succ h1
  obtain ⟨c, r3, rfl, h3⟩ := len_succ h2
  obtain ⟨d, r4, rfl, h4⟩ := len_succ h3
  obtain ⟨e, r5, rfl, h5⟩ := len_succ h4
  rw [List.eq_nil_of_length_eq_zero h5]; exact h a b c d e
end
theorem getD_get {cs : List Int} {i : Nat} (h : i < cs.length) : cs[i]? = some (cs.getD i 0) := by
  simp [List.getD, h]
theorem take_snoc {cs : List Int} {i : Nat} (h : i < cs.length) : cs.take (i + 1) = cs.take i ++ [cs.getD i 0] := by
  rw [List.take_add_one, getD_get h]; rfl
theorem Rho.set_self {x : Str} {v : V} {r : Rho} : (r.set x v).lookup x = some v := by rw [Rho.set_lookup, if_pos rfl]
theorem Rho.set_other {x y : Str} {u : V} {v : Option V} {r : Rho} (h : x ≠ y) (e : r.lookup x = v) : (r.set y u).lookup x = v := by rw [Rho.set_lookup, if_neg h]; exact e
structure DkOk (d : List Int) : Prop where
  ne : 1 ≤ d.length
  len : d.length ≤ 100
  pos : ∀ x ∈ d, 0 ≤ x
theorem DkOk.tail {x : Int} {d : List Int} (h : DkOk (x :: d)) (hl : 1 < (x :: d).length) : DkOk d :=
  ⟨by simp only [List.length_cons] at hl; (first | lia | omega), by have := h.len; simp only [List.length_cons] at this; (first | lia | omega), fun y hy => h.pos y (.tail _ hy)⟩
theorem DkOk.set {x y : Int} {d : List Int} (h : DkOk (x :: d)) (hy : 0 ≤ y) : DkOk ((x :: d).set 0 y) := by
  refine ⟨by simp, by simpa using h.len, fun z hz => ?_⟩
  rcases List.mem_cons.mp hz with rfl | hz
  · exact hy
  · exact h.pos z (.tail _ hz)
theorem DkOk.cons {d : List Int} (h : DkOk d) : ∃ x r, d = x :: r := by
  cases d with
  | nil => have := h.ne; simp at this
  | cons x r => exact ⟨x, r, rfl⟩

theorem bindL_lookup {kd : Str → Option NameKind} {x : Str} (hx : kd x = some .local) : ∀ {b : List (Str × Value)} {m : Str → Option Value}, (b.map (·.1)).Nodup → bindL kd b m x = (b.lookup x).or (m x)
  | [], _, _ => rfl
  | (n, v) :: r, m, h => by
    have h' := List.nodup_cons.mp h
    rw [bindL, bindL_lookup hx h'.2]
    by_cases q : x = n
    · subst q
      rw [lookup_none_of h'.1, if_pos hx]; simp [List.lookup]
    · have : (x == n) = false := by simpa using q
      simp only [List.lookup, this]
      split
      · simp only [if_neg q]
      · rfl
theorem bindC_lookup {kd : Str → Option NameKind} {x : Str} (hx : kd x ≠ some .local) : ∀ {b : List (Str × Value)} {m : Str → Option Value}, (b.map (·.1)).Nodup → bindC kd b m x = (b.lookup x).or (m x)
  | [], _, _ => rfl
  | (n, v) :: r, m, h => by
    have h' := List.nodup_cons.mp h
    rw [bindC, bindC_lookup hx h'.2]
    by_cases q : x = n
    · subst q
      rw [lookup_none_of h'.1, if_neg hx]; simp [List.lookup]
    · have : (x == n) = false := by simpa using q
      simp only [List.lookup, this]
      split
      · rfl
      · simp only [if_neg q]

/-- what is asked of a def with cells -/
def defOKC (K : Frag) (fd : FuncData) (names : List Str) : Bool :=
  codeIn K fd.code fd.qualname && !fd.scope.isCoroutine && !fd.scope.isGenerator && fd.scope.kind == .function && fd.globals == mainGlobals && fd.builtins == builtinsNs && fd.closure.isEmpty &&
    (names.all fun n => fd.scope.names.lookup n == some .local || fd.scope.names.lookup n == some .cell)

section
variable {c : Fc} {k : Nat} {dk : List Int} {P : V → List Int → Prop}
theorem call_defC (D' : Option Addr) {a : Addr} {o : Obj} {fd : FuncData} {body : List Stmt} {names : List Str} {vs : List V} {P : V → List Int → Prop}
    (ho : ∀ p, (Mine.topK p).lookup a = some o) (hd : o.data = .func fd) (hb : fd.body = .stmts body) (hok : ∀ p, defOKC (Mine.topK p) fd names = true) (hnd : names.Nodup) (hlen : names.length = vs.length)
    (hbind : ∀ ws : List Value, ws.length = vs.length → bindArgs fd ⟨ws, []⟩ = pure (names.zip ws)) (hD : D' = none ∨ D' = c.D)
    (hcl : ∀ n x, x ∈ names → fd.scope.names.lookup x = some .cell → ((cellsFrom n fd.scope.names []).lookup x).isSome = true)
    (h : ∀ (c' : Fc) (L : Addr), c'.g = c.g → c'.D = D' → c'.env = callEnvC fd L a → WS c' k body (names.zip vs) dk fun fl _ d => P fl.val (if D' = none then dk else d)) :
    CallW c (k + 1) (.ref a) vs dk P := by
  intro A F ρ s Q E ws R S r hQ
  have hk := hok c.g.w.params
  simp only [defOKC, Bool.and_eq_true, Bool.not_eq_true', beq_iff_eq, List.isEmpty_iff] at hk
  obtain ⟨⟨⟨⟨⟨⟨⟨hcode, hco⟩, hgen⟩, hkind⟩, hglob⟩, hblt⟩, hclo⟩, hloc⟩ := hk
  have X := S.kin
  have hzip : (names.zip ws).map (·.1) = names := List.map_fst_zip (by rw [r.length, hlen]; exact Nat.le_refl _)
  have hnames : ((names.zip ws).map (·.1)).Nodup := by rw [hzip]; exact hnd
  have hkd : ∀ x ∈ names, fd.scope.names.lookup x = some .local ∨ fd.scope.names.lookup x = some .cell := fun x hx => by
    have := List.all_eq_true.mp hloc x hx
    simpa using this
  refine wpAny_call (codeAny_call_cells (fd := fd) (body := body) (binds := names.zip ws) (by have := R.dp; (first | lia | omega)) (X _ _ (ho _)) hd (c.g.nolimit.keeps S.nsBase) (codeRec_of X hcode) hb (hbind ws r.length) hclo (fun x hx => ?_) (fun s₁ I => ?_) hco hgen hkind)
  · have hx' := (List.of_mem_zip hx).1
    exact (hkd _ hx').imp id fun q => ⟨q, hcl _ _ hx' q⟩
  obtain ⟨h₀, tk₀, rfl, _⟩ := I.done
  have hkeep : ∀ b o', s.heap.get? b = some o' → h₀.get? b = some o' := I.toInCall.keep
  let c' : Fc := { g := c.g, env := callEnvC fd s.heap.objs.size a, D := D', own := [], kf := hkind, gl := hglob, bl := hblt }
  have hMut : ∀ b, c'.Mut b → c.Mut b ∨ s.heap.get? b = none := fun b hb => by
    rcases hb with e | e | e
    · right; rw [e]; exact get_none (Nat.le_refl _)
    · rcases hD with q | q
      · rw [show c'.D = D' from rfl, q] at e; cases e
      · left; right; left; rw [← q]; exact e
    · cases e
  have hout : ∀ b o', s.heap.get? b = some o' → b ≠ s.heap.objs.size := fun b o' e => Nat.ne_of_lt (Heap.lt_size e)
  have hF0 : F s.heap.objs.size = none := by
    cases q : F s.heap.objs.size with
    | none => rfl
    | some o'' => exact absurd rfl (hout _ _ (S.sub _ _ q))
  have hns := I.toInCall.ns
  have S' : Sta c' F (names.zip vs) dk h₀ := by
    refine ⟨S.base, fun b o' e => hkeep _ _ (S.sub b o' e), fun b hb => ?_, fun D hDD => ?_, ?_, fun b hb => by cases hb⟩
    · rcases hb with e | e | e
      · subst e
        obtain ⟨o', _, _, e', _⟩ := hns
        exact ⟨hF0, o', e'⟩
      · rcases hD with q | q
        · rw [show c'.D = D' from rfl, q] at e; cases e
        · obtain ⟨e1, o', e2⟩ := S.mt b (.inr (.inl (q ▸ e)))
          exact ⟨e1, o', hkeep _ _ e2⟩
      · cases e
    · rcases hD with q | q
      · rw [show c'.D = D' from rfl, q] at hDD; cases hDD
      · obtain ⟨us, n, e, i⟩ := S.deck D (q ▸ hDD)
        exact ⟨us, n, hkeep _ _ e, i⟩
    · refine ⟨_, hns, fun x v e => ?_⟩
      obtain ⟨w, e', r'⟩ := zip_lookup r e
      have hx : x ∈ names := by
        have : x ∈ (names.zip ws).map (·.1) := by
          by_cases q : x ∈ (names.zip ws).map (·.1)
          · exact q
          · rw [lookup_none_of q] at e'; cases e'
        rw [hzip] at this
        exact this
      rcases hkd x hx with q | q
      · refine .inl ⟨q, w, ?_, r'⟩
        rw [bindL_lookup q hnames, e']; rfl
      · obtain ⟨ca, hca⟩ := Option.isSome_iff_exists.mp (hcl (s.heap.objs.size + 1) x hx q)
        obtain ⟨oc, e1, e2⟩ := I.cell x ca hca
        refine .inr ⟨q, ca, oc, w, hca, e1, ?_, r'⟩
        rw [e2, bindC_lookup (fun z => by rw [show (callEnvC fd s.heap.objs.size a).kindOf x = fd.scope.names.lookup x from rfl, q] at z; cases z) hnames, e']; rfl
  refine h c' _ rfl rfl rfl (A.deeper (callEnvC fd s.heap.objs.size a)) F _ _ _ R.deeper S' fun F1 s1 fl fl' ρ1 d1 G1 S1 r1 p1 => ?_
  have N0 : NxM c'.Mut F F1 s.heap s1.heap := NxM.trans (F' := F) ⟨fun _ _ e => e, fun _ _ _ e => e, fun b o' e _ => hkeep b o' e, fun b o' e => ⟨o', hkeep b o' e⟩⟩ G1.nx
  have N1 : Nx c F F1 s.heap s1.heap := N0.weak hMut
  obtain ⟨h1, t1, rfl⟩ := G1.st
  have S2 : Sta c F1 ρ (if D' = none then dk else d1) h1 := by
    refine ⟨fun b o' e => N1.sub b o' (S.base b o' e), S1.sub, fun b hb => ?_, fun D hDD => ?_, ?_, fun b hb => ?_⟩
    · obtain ⟨e1, o', e2⟩ := S.mt b hb
      exact ⟨N1.out b o' e2 e1, N1.live b o' e2⟩
    · by_cases q : D' = none
      · rw [if_pos q]
        obtain ⟨us, n, e, i⟩ := S.deck D hDD
        refine ⟨us, n, N0.keep D _ e ?_, i⟩
        rintro (z | z | z)
        · exact hout D _ e z
        · rw [show c'.D = D' from rfl, q] at z; cases z
        · cases z
      · simp only [if_neg q]
        exact S1.deck D ((hD.resolve_left q).trans hDD)
    · obtain ⟨m, hn, hv⟩ := S.ns
      have kp : ∀ b o', s.heap.get? b = some o' → (∀ us n, o' ≠ { cls := .type "list", data := .seq us n }) → h1.get? b = some o' := fun b o' e hne => by
        refine N0.keep b o' e ?_
        rintro (z | z | z)
        · exact hout b _ e z
        · rcases hD with q | q
          · rw [show c'.D = D' from rfl, q] at z; cases z
          · obtain ⟨us, n, e', _⟩ := S.deck b (q ▸ z)
            rw [e] at e'; cases e'; exact hne _ _ rfl
        · cases z
      refine ⟨m, ?_, fun x v e => ?_⟩
      · obtain ⟨o', es, ep, e1, e2, e3⟩ := hn
        refine ⟨o', es, ep, kp _ _ e1 (fun us n z => ?_), e2, e3⟩
        rw [z] at e2; cases e2
      · rcases hv x v e with ⟨b, w', b', r'⟩ | ⟨b, d, o', w', b1, b2, b3, r'⟩
        · exact .inl ⟨b, w', b', r'.mono N1.sub⟩
        · refine .inr ⟨b, d, o', w', b1, kp _ _ b2 (fun us n z => ?_), b3, r'.mono N1.sub⟩
          rw [z] at b3; cases b3
    · obtain ⟨o', u, e, d⟩ := S.cel b hb
      refine ⟨o', u, N0.keep b o' e ?_, d⟩
      rintro (z | z | z)
      · exact hout b _ e z
      · rcases hD with q | q
        · rw [show c'.D = D' from rfl, q] at z; cases z
        · obtain ⟨us, n, e', _⟩ := S.deck b (q ▸ z)
          rw [e] at e'; cases e'; cases d
      · cases z
  have fin : ∀ w, Rep CT F1 w fl'.val → Q w { s with heap := h1, toks := t1 } := fun w rw' => hQ F1 _ w _ _ (.of N1) S2 rw' p1
  cases r1 with
  | next => exact fin _ .none
  | brk => exact fin _ .none
  | cont => exact fin _ .none
  | ret r => exact fin _ r
end
section
variable {c : Fc} {k : Nat} {dk : List Int} {P : V → List Int → Prop}
theorem Seen.cons {scope : Scope} {ρ r : Rho} {x : Str} {v : V} (h1 : ρ.lookup x = some v) (h2 : c.env.kindOf x = some .cell) (h3 : (relabel scope c.env).names.lookup x = some .cell) (h4 : (clOf c.env scope.names []).lookup x = c.env.cells.lookup x) (hr : Seen c scope ρ r) : Seen c scope ρ ((x, v) :: r) := by
  intro y u e
  cases q : y == x with
  | true =>
    have : y = x := by simpa using q
    subst this
    simp only [List.lookup, q] at e; cases e
    exact ⟨h1, h2, h3, h4⟩
  | false => simp only [List.lookup, q] at e; exact hr y u e
def clOK (env : Env) (scope : Scope) : Bool := scope.names.all fun y => y.2 != .free || (env.cells.lookup y.1).isSome
theorem clOK_of {env : Env} {scope : Scope} (h : clOK env scope = true) : ∀ n, (n, NameKind.free) ∈ scope.names → (env.cells.lookup n).isSome = true := fun n hn => by
  have := List.all_eq_true.mp h _ hn
  simpa using this

theorem CompAsk.mk {elt : Expr} {x : Str} {ifs : List Expr} {scope : Scope} {hkind : scope.kind = .function} {ρ : Rho} {xs : List V} {d : List Int} {P : List V → List Int → Prop} {names : List (Str × NameKind)}
    (hn : (relabel scope c.env).names = names) (ρf : Rho) (J : Nat → List V → List Int → Prop) (hs : Seen c scope ρ ρf) (hx : ρf.lookup x = none) (h0 : J 0 [] d)
    (turn : ∀ c' : Fc, c'.g = c.g → c'.D = c.D → (∀ y : Str, Env.kindOf c'.env y = List.lookup y names) → ∀ i acc d y, xs[i]? = some y → J i acc d → WIfs c' k ifs (ρf.set x y) d fun b d' =>
      (b = true → WE c' k elt (ρf.set x y) d' fun u d'' => J (i + 1) (acc ++ [u]) d'') ∧ (b = false → J (i + 1) acc d'))
    (fin : ∀ acc d', J xs.length acc d' → P acc d') : CompAsk c k elt x ifs scope hkind ρ xs d P :=
  ⟨ρf, J, hs, hx, h0, fun C i acc d y hy hj => turn (c.comp scope C hkind) rfl rfl (fun y => by rw [← hn]; rfl) i acc d y hy hj, fin⟩

def natsV (ns : List Nat) : List V := (ns.map Int.ofNat).map .int
end
section
variable {c : Fc} {k : Nat} {ρ : Rho} {dk : List Int}
/-- the same frame, with a list of ints that it may change -/
def Fc.wd (c : Fc) (D : Addr) : Fc := { c with D := some D }
theorem ints_of {F : Sto} : ∀ {vs : List Value} {ns : List Int}, Reps CT F vs (ns.map .int) → IntsAre vs ns
  | _, [], .nil => .nil
  | _, n :: ns, .cons r rr => by cases r; exact .cons _ _ (ints_of rr)
theorem of_ints {F : Sto} : ∀ {vs : List Value} {ns : List Int}, IntsAre vs ns → Reps CT F vs (ns.map .int)
  | _, _, .nil => .nil
  | _, _, .cons _ _ r => .cons (.int _ _) (of_ints r)
theorem Sta.wd {F : Sto} {h : Heap} {D : Addr} {vs : List Value} {n : Nat} {ns : List Int} (S : Sta c F ρ dk h) (hF : F D = none) (ho : h.get? D = some { cls := .type "list", data := .seq vs.toArray n }) (i : IntsAre vs ns) : Sta (c.wd D) F ρ ns h where
  base := S.base
  sub := S.sub
  mt := fun a ha => by
    rcases ha with e | e | e
    · exact S.mt a (.inl e)
    · cases e; exact ⟨hF, _, ho⟩
    · exact S.mt a (.inr (.inr e))
  deck := fun D' hD => by cases hD; exact ⟨vs, n, ho, i⟩
  ns := S.ns
  cel := S.cel
theorem Sta.unwd {F : Sto} {h : Heap} {D : Addr} {ns : List Int} (S : Sta (c.wd D) F ρ ns h) (hc : c.D = none) : ∃ F', Sta c F' ρ dk h ∧ Rep CT F' (.ref D) (.list (ns.map .int)) ∧ (∀ a o, F a = some o → F' a = some o) ∧ ∀ a, a ≠ D → F a = none → F' a = none := by
  obtain ⟨vs, n, e, i⟩ := S.deck D rfl
  have hFD := (S.mt D (.inr (.inl rfl))).1
  have k1 : ∀ a o₁, F a = some o₁ → ins F D { cls := .type "list", data := .seq vs.toArray n } a = some o₁ := fun a o₁ e' => by
    rw [ins_ne]; exact e'
    rintro rfl; rw [hFD] at e'; cases e'
  refine ⟨ins F D { cls := .type "list", data := .seq vs.toArray n }, ?_, .list ins_same (of_ints i), k1, fun a q e' => by rw [ins_ne q]; exact e'⟩
  refine ⟨fun a o e' => k1 a o (S.base a o e'), fun a o₁ e' => ?_, fun a ha => ?_, (fun D' hD' => by rw [hc] at hD'; cases hD'), ?_, S.cel⟩
  · by_cases q : a = D
    · subst q; rw [ins_same] at e'; cases e'; exact e
    · rw [ins_ne q] at e'; exact S.sub a o₁ e'
  · have hne : a ≠ D := by
      rintro rfl
      rcases ha with q | q | q
      · exact S.deck_ne (D := a) rfl q
      · rw [hc] at q; cases q
      · obtain ⟨o, u, e1, e2⟩ := S.cel a q
        rw [e] at e1; cases e1; cases e2
    have hm : (c.wd D).Mut a := by
      rcases ha with q | q | q
      · exact .inl q
      · rw [hc] at q; cases q
      · exact .inr (.inr q)
    exact ⟨by rw [ins_ne hne]; exact (S.mt a hm).1, (S.mt a hm).2⟩
  · obtain ⟨m, hn, hv⟩ := S.ns
    refine ⟨m, hn, fun x v e => ?_⟩
    rcases hv x v e with ⟨a, w, b, r⟩ | ⟨a, d, o, w, b1, b2, b3, r⟩
    · exact .inl ⟨a, w, b, r.mono k1⟩
    · exact .inr ⟨a, d, o, w, b1, b2, b3, r.mono k1⟩

/-- an expression that makes a new list of ints -/
def Wnew (c : Fc) (k : Nat) (e : Expr) (ρ : Rho) (dk : List Int) (P : List Int → Prop) : Prop :=
  ∀ (A : Around) (F : Sto) (s : Shared) (Q : Value → Shared → Prop) (E : Value → Shared → Prop), Room A k → Sta c F ρ dk s.heap →
    (∀ F' s' D ns, Go c F F' s s' → s.heap.get? D = none → Sta c F' ρ dk s'.heap → F' D = none → (∃ vs n, s'.heap.get? D = some { cls := .type "list", data := .seq (List.toArray vs) n } ∧ IntsAre vs ns) → P ns → Q (.ref D) s') → wpAny (model PR c.g.w) A (eval e c.env) Q E s
theorem new_cat {l r : Expr} {pos : Pos} {P : List Int → Prop} (h : WE c k l ρ dk fun v d => ∃ xs, v = .list (xs.map .int) ∧ WE c k r ρ d fun u d' => ∃ ys, u = .list (ys.map .int) ∧ d' = dk ∧ xs.length + ys.length ≤ 100000 ∧ P (xs ++ ys)) : Wnew c k (.BinOp l .Add r pos) ρ dk P := by
  intro A F s Q E R S hQ
  refine wpAny_BinOp (h A F s _ E R S fun F1 s1 a v d1 G1 S1 r1 p1 => ?_)
  obtain ⟨xs, rfl, p1⟩ := p1
  refine p1 A F1 s1 _ E R S1 fun F2 s2 b u d2 G2 S2 r2 p2 => ?_
  obtain ⟨ys, rfl, rfl, hn, p2⟩ := p2
  cases r1 with | list e1 q1 => cases r2 with | list e2 q2 =>
    obtain ⟨m, Fm, N, kk⟩ := S2.led
    have q1' := q1.mono G2.nx.sub
    refine add_lists Fm N ⟨_, S2.sub _ _ (G2.nx.sub _ _ e1), rfl, _, rfl⟩ ⟨_, S2.sub _ _ e2, rfl, _, rfl⟩ (fun h' F' N' => ?_) (by have h1 := q1.length; have h2 := q2.length; rw [List.length_map] at h1 h2; rw [h1, h2, sizeLine]; (first | lia | omega))
    obtain ⟨S', N''⟩ := kk h' _ F' N' fun _ x => .tail _ x
    have hfr : s2.heap.get? s2.heap.objs.size = none := get_none (Nat.le_refl _)
    refine hQ F2 { s2 with heap := h' } _ _ ((G1.trans G2).trans ⟨⟨_, s2.toks, rfl⟩, N''⟩) ?_ S' (S2.fresh hfr).1 ⟨_, _, (N' _ (.head _)).1, (ints_of q1').append (ints_of q2)⟩ p2
    cases q : s.heap.get? s2.heap.objs.size with
    | none => rfl
    | some o =>
      obtain ⟨o', e'⟩ := (G1.trans G2).nx.live _ _ q
      rw [hfr] at e'; cases e'
theorem new_disp {es : List Expr} {pos : Pos} {P : List Int → Prop} (h : WA c k es ρ dk fun vs d => ∃ xs : List Int, vs = xs.map .int ∧ d = dk ∧ xs.length ≤ 1000 ∧ P xs) : Wnew c k (.List es pos) ρ dk P := by
  intro A F s Q E R S hQ
  refine wpAny_List_spliced (h.spliced A F s _ E R S fun F1 s1 ws vs d1 G1 S1 r1 p1 => ?_)
  obtain ⟨xs, rfl, rfl, hn, p1⟩ := p1
  refine ⟨by have := r1.length; rw [List.length_map] at this; rw [this, sizeLine]; (first | lia | omega), ?_⟩
  have hfr : s1.heap.get? s1.heap.objs.size = none := get_none (Nat.le_refl _)
  have kk : ∀ a o, s1.heap.get? a = some o → (s1.heap.push { cls := .type "list", data := .seq ws.toArray }).get? a = some o := fun _ _ e => Heap.get?_push_of_some _ e
  refine hQ F1 _ s1.heap.objs.size xs (G1.trans ⟨⟨_, s1.toks, rfl⟩, Nx.mono kk⟩) ?_ (S1.mono kk) (S1.fresh hfr).1 ⟨ws, 0, Heap.get?_push_size _ rfl, ints_of r1⟩ p1
  cases q : s.heap.get? s1.heap.objs.size with
  | none => rfl
  | some o =>
    obtain ⟨o', e'⟩ := G1.nx.live _ _ q
    rw [hfr] at e'; cases e'

/-- how a flow looks from without: the list made may be given back -/
def Conv (D : Addr) (d : List Int) (fl fl' : Fl) : Prop := fl' = fl ∨ (fl = .ret (.raw (.ref D)) ∧ fl' = .ret (.list (d.map .int)))
theorem WS_new {x : Str} {p pos : Pos} {e : Expr} {rest : List Stmt} {P : Fl → Rho → List Int → Prop} (hD : c.D = none) (hx : c.env.kindOf x = some .local)
    (h : Wnew c k e ρ dk fun ns => ∀ D, WS (c.wd D) k rest (ρ.set x (.raw (.ref D))) ns fun fl ρ' d => ∃ fl', Conv D d fl fl' ∧ P fl' ρ' dk)
    (hs : swapsWith e (some (.Name x p)) pos.line c.env = pure false := by rfl) : WS c k (.Assign [.Name x p] e pos :: rest) ρ dk P := by
  intro A F s Q E R S hQ
  refine wpAny_execs_cons (wpAny_Assign_Name (h A F s _ E R S fun F1 s1 D ns G1 hfr S1 hF1 ho p1 => ?_) hs)
  obtain ⟨vs, n, ho, i⟩ := ho
  refine store_local (v := .raw (.ref D)) (S1.wd hF1 ho i) (c := c.wd D) hx (.raw _) fun s2 G2 S2 => ?_
  refine p1 D A F1 s2 Q E R S2 fun F3 s3 y fl ρ3 d3 G3 S3 r3 p3 => ?_
  obtain ⟨fl', hc, p3⟩ := p3
  have G23 : Go (c.wd D) F1 F3 s1 s3 := G2.trans G3
  obtain ⟨F4, S4, r4, k4, o4⟩ := S3.unwd (dk := dk) hD
  have hM : ∀ a, (c.wd D).Mut a → c.Mut a ∨ s.heap.get? a = none := fun a ha => by
    rcases ha with q | q | q
    · exact .inl (.inl q)
    · cases q; exact .inr hfr
    · exact .inl (.inr (.inr q))
  have N1 : NxM (c.wd D).Mut F F1 s.heap s1.heap := G1.nx.weak fun a ha => by
    rcases ha with q | q | q
    · exact .inl (.inl q)
    · rw [hD] at q; cases q
    · exact .inl (.inr (.inr q))
  have N3 : Nx c F F3 s.heap s3.heap := NxM.weak (NxM.trans N1 G23.nx) hM
  have N4 : Nx c F F4 s.heap s3.heap := by
    refine ⟨fun a o e => k4 a o (N3.sub a o e), fun a o e n => o4 a ?_ (N3.out a o e n), N3.keep, N3.live⟩
    rintro rfl; rw [hfr] at e; cases e
  have G4 : Go c F F4 s s3 := by
    obtain ⟨h1, t1, rfl⟩ := G1.st
    obtain ⟨h2, t2, rfl⟩ := G23.st
    exact ⟨⟨h2, t2, rfl⟩, N4⟩
  refine hQ F4 s3 y fl' ρ3 dk G4 S4 ?_ p3
  rcases hc with rfl | ⟨rfl, rfl⟩
  · cases r3 with
    | next => exact .next
    | brk => exact .brk
    | cont => exact .cont
    | ret r => exact .ret (r.mono k4)
  · cases r3 with | ret r => cases r; exact .ret r4

/-- statements that give back a new list of ints -/
def Wsn (c : Fc) (k : Nat) (ss : List Stmt) (ρ : Rho) (dk : List Int) (P : List Int → Prop) : Prop :=
  ∀ (A : Around) (F : Sto) (s : Shared) (Q : Flow → Shared → Prop) (E : Value → Shared → Prop), Room A k → Sta c F ρ dk s.heap →
    (∀ F' s' D ns ρ', Go c F F' s s' → s.heap.get? D = none → Sta c F' ρ' dk s'.heap → F' D = none → (∃ vs n, s'.heap.get? D = some { cls := .type "list", data := .seq (List.toArray vs) n } ∧ IntsAre vs ns) → P ns → Q (.ret (.ref D)) s') → wpAny (model PR c.g.w) A (execs ss c.env) Q E s
theorem Wsn_cons {st : Stmt} {rest : List Stmt} {P : List Int → Prop} (h : WX c k st ρ dk fun fl ρ' d => fl = .next ∧ d = dk ∧ Wsn c k rest ρ' dk P) : Wsn c k (st :: rest) ρ dk P := by
  intro A F s Q E R S hQ
  refine wpAny_execs_cons (h A F s _ E R S fun F1 s1 x y ρ1 d1 G1 S1 r1 p1 => ?_)
  obtain ⟨rfl, rfl, p1⟩ := p1
  cases r1
  refine p1 A F1 s1 Q E R S1 fun F2 s2 D ns ρ2 G2 hfr S2 hF2 ho p2 => hQ F2 s2 D ns ρ2 (G1.trans G2) ?_ S2 hF2 ho p2
  cases q : s.heap.get? D with
  | none => rfl
  | some o =>
    obtain ⟨o', e'⟩ := G1.nx.live _ _ q
    rw [hfr] at e'; cases e'
theorem Wsn_ret {e : Expr} {pos : Pos} {rest : List Stmt} {P : List Int → Prop} (h : Wnew c k e ρ dk P) : Wsn c k (.Return (some e) pos :: rest) ρ dk P := by
  intro A F s Q E R S hQ
  exact wpAny_execs_cons (wpAny_Return_some (h A F s _ E R S fun F1 s1 D ns G1 hfr S1 hF1 ho p1 => hQ F1 s1 D ns ρ G1 hfr S1 hF1 ho p1))

/-- a call that gives back a new list of ints -/
def CallN (c : Fc) (k : Nat) (f : Value) (vs : List V) (dk : List Int) (P : List Int → Prop) : Prop :=
  ∀ (A : Around) (F : Sto) (ρ : Rho) (s : Shared) (Q : Value → Shared → Prop) (E : Value → Shared → Prop) (ws : List Value), Room A k → Sta c F ρ dk s.heap → Reps CT F ws vs →
    (∀ F' s' D ns, Go c F F' s s' → s.heap.get? D = none → Sta c F' ρ dk s'.heap → F' D = none → (∃ vs n, s'.heap.get? D = some { cls := .type "list", data := .seq (List.toArray vs) n } ∧ IntsAre vs ns) → P ns → Q (.ref D) s') → wpAny (model PR c.g.w) A (call f ws) Q E s
theorem new_call {x : Str} {p pos : Pos} {e : Expr} {rest : List Expr} {P : List Int → Prop}
    (h : WE c k (.Name x p) ρ dk fun v d => ∃ w, v = .raw w ∧ Callee c w ∧ d = dk ∧ WA c k (e :: rest) ρ dk fun vs d' => d' = dk ∧ CallN c k w vs dk P)
    (hp : ∀ env, (backTo pos (starEach rest env)).any (·.1) = false := by intro _; rfl) : Wnew c k (.Call (.Name x p) (e :: rest) [] pos) ρ dk P := by
  intro A F s Q E R S hQ
  refine wpAny_Call_NameR (h A F s _ E R S fun F1 s1 a v d1 G1 S1 r1 p1 => ?_)
  obtain ⟨w, rfl, hc, rfl, ha⟩ := p1
  cases r1
  refine callWith_mine (first := []) (hc.imp id (.imp (fun x => ⟨rfl, x⟩) id)) R S1 ha.1 hp ha fun F2 s2 ws vs d2 G2 S2 r2 p2 => ?_
  obtain ⟨rfl, p2⟩ := p2
  refine p2 A F2 ρ s2 Q E ws R S2 r2 fun F3 s3 D ns G3 hfr S3 hF3 ho p3 => hQ F3 s3 D ns ((G1.trans G2).trans G3) ?_ S3 hF3 ho p3
  cases q : s.heap.get? D with
  | none => rfl
  | some o =>
    obtain ⟨o', e'⟩ := (G1.trans G2).nx.live _ _ q
    rw [hfr] at e'; cases e'
theorem call_defN {a : Addr} {o : Obj} {fd : FuncData} {body : List Stmt} {names : List Str} {vs : List V} {P : List Int → Prop}
    (ho : ∀ p, (Mine.topK p).lookup a = some o) (hd : o.data = .func fd) (hb : fd.body = .stmts body) (hok : ∀ p, defOK (Mine.topK p) fd names = true) (hnd : names.Nodup) (hlen : names.length = vs.length)
    (hbind : ∀ ws : List Value, ws.length = vs.length → bindArgs fd ⟨ws, []⟩ = pure (names.zip ws)) (hDn : c.D = none)
    (h : ∀ c' : Fc, c'.g = c.g → c'.D = none → (∀ x, c'.env.kindOf x = fd.scope.names.lookup x) → (c'.env.scope = fd.scope) → Wsn c' k body (names.zip vs) dk P) :
    CallN c (k + 1) (.ref a) vs dk P := by
  intro A F ρ s Q E ws R S r hQ
  have hk := hok c.g.w.params
  simp only [defOK, Bool.and_eq_true, Bool.not_eq_true', beq_iff_eq] at hk
  obtain ⟨⟨⟨⟨⟨⟨⟨hcode, hcell⟩, hco⟩, hgen⟩, hkind⟩, hglob⟩, hblt⟩, hloc⟩ := hk
  have X := S.kin
  have hzip : (names.zip ws).map (·.1) = names := List.map_fst_zip (by rw [r.length, hlen]; exact Nat.le_refl _)
  have hnames : ((names.zip ws).map (·.1)).Nodup := by rw [hzip]; exact hnd
  refine wpAny_call (codeAny_call_def (fd := fd) (body := body) (binds := names.zip ws) (by have := R.dp; (first | lia | omega)) (X _ _ (ho _)) hd (c.g.nolimit.keeps S.nsBase) (codeRec_of X hcode) hb (.of_eq (hbind ws r.length)) (fun x hx => by
    have := List.all_eq_true.mp hcell x hx; simpa using this) (fun x hx => ?_) (fun h₀ hns hkeep => ?_) hco hgen hkind)
  · have := List.all_eq_true.mp hloc x.1 (List.of_mem_zip hx).1
    simpa using this
  let c' : Fc := { g := c.g, env := callEnv fd s.heap.objs.size a, D := none, own := [], kf := hkind, gl := hglob, bl := hblt }
  have hMut : ∀ b, c'.Mut b → c.Mut b ∨ s.heap.get? b = none := fun b hb => by
    rcases hb with e | e | e
    · right; rw [e]; exact get_none (Nat.le_refl _)
    · cases e
    · cases e
  have hout : ∀ b o', s.heap.get? b = some o' → b ≠ s.heap.objs.size := fun b o' e => Nat.ne_of_lt (Heap.lt_size e)
  have hF0 : F s.heap.objs.size = none := by
    cases q : F s.heap.objs.size with
    | none => rfl
    | some o'' => exact absurd rfl (hout _ _ (S.sub _ _ q))
  have S' : Sta c' F (names.zip vs) dk h₀ := by
    refine ⟨S.base, fun b o' e => hkeep _ _ (S.sub b o' e), fun b hb => ?_, (fun D hDD => by cases hDD), ?_, (fun b hb => by cases hb)⟩
    · rcases hb with e | e | e
      · subst e
        obtain ⟨o', _, _, e', _⟩ := hns
        exact ⟨hF0, o', e'⟩
      · cases e
      · cases e
    · refine ⟨_, hns, fun x v e => ?_⟩
      obtain ⟨w, e', r'⟩ := zip_lookup r e
      refine .inl ⟨?_, w, (lookup_reverse hnames).trans e', r'⟩
      have hx : x ∈ names := by
        have : x ∈ (names.zip ws).map (·.1) := by
          by_cases q : x ∈ (names.zip ws).map (·.1)
          · exact q
          · rw [lookup_none_of q] at e'; cases e'
        rw [hzip] at this
        exact this
      have := List.all_eq_true.mp hloc x hx
      show fd.scope.names.lookup x = _
      simpa using this
  refine h c' rfl rfl (fun x => rfl) rfl (A.deeper (callEnv fd s.heap.objs.size a)) F _ _ _ R.deeper S' fun F1 s1 D ns ρ1 G1 hfr S1 hF1 hoD p1 => ?_
  have N0 : NxM c'.Mut F F1 s.heap s1.heap := NxM.trans (F' := F) ⟨fun _ _ e => e, fun _ _ _ e => e, fun b o' e _ => hkeep b o' e, fun b o' e => ⟨o', hkeep b o' e⟩⟩ G1.nx
  have N1 : Nx c F F1 s.heap s1.heap := N0.weak hMut
  have keep1 : ∀ b o', s.heap.get? b = some o' → s1.heap.get? b = some o' := fun b o' e => N0.keep b o' e fun z => by
    rcases z with z | z | z
    · exact hout b _ e z
    · cases z
    · cases z
  have S2 : Sta c F1 ρ dk s1.heap := S.grow keep1 N1.sub S1.sub N1.out
  refine hQ F1 _ D ns ?_ ?_ S2 hF1 hoD p1
  · obtain ⟨h1, t1, rfl⟩ := G1.st
    exact .of N1
  · cases q : s.heap.get? D with
    | none => rfl
    | some o =>
      have e' := hkeep _ _ q
      rw [show h₀.get? D = none from hfr] at e'; cases e'
end
section
variable {c : Fc} {k : Nat} {ρ : Rho} {dk : List Int} {P : V → List Int → Prop}

/-- [x for x in iter if x <= y] -/
theorem WE_below {x y : Str} {p1 p2 p3 px pc : Pos} {iter : Expr} {scope : Scope} {pos : Pos} {ns : List Int} {o : Int}
    (hkind : scope.kind = .function) (hok : compOK scope x = true) (hcl : clOK c.env scope = true) (hs : Seen c scope ρ [(y, .int o)]) (hxy : (x == y) = false)
    (h : WE c k iter ρ dk fun v d => v = .list (ns.map .int) ∧ ns.length ≤ 100000 ∧ P (.list ((ns.filter fun b => decide (b ≤ o)).map .int)) d)
    (hd1 : (x == ("__debug__" : Str)) = false := by decide) (hd2 : (y == ("__debug__" : Str)) = false := by decide)
    (hf : ∀ x, foldedSetIterable iter c.env x = pure x := by intro _; rfl) :
    WE c k (.ListComp (.Name x p1) [⟨.Name x px, iter, [.Compare (.Name x p2) [.LtE] [.Name y p3] pc], 0⟩] scope pos) ρ dk P := by
  have hxy' : x ≠ y := fun q => by rw [q] at hxy; simp at hxy
  refine WE_comp hkind hok (clOK_of hcl) (h.mono ?_) hf
  rintro v d ⟨rfl, hn, hP⟩
  refine ⟨_, .list _, by rw [List.length_map]; exact hn, CompAsk.mk rfl [(y, .int o)] (fun i acc d' => d' = d ∧ acc = ((ns.take i).filter fun b => decide (b ≤ o)).map .int) hs ?_ ⟨rfl, rfl⟩ ?_ ?_⟩
  · simp [List.lookup, hxy]
  · rintro c' hg hD hk i acc d' z hz ⟨rfl, rfl⟩
    have hi : i < ns.length := by
      rcases Nat.lt_or_ge i ns.length with q | q
      · exact q
      · rw [List.getElem?_eq_none (by simpa using q)] at hz; cases hz
    have hz' : z = .int (ns.getD i 0) := by
      rw [List.getElem?_map, getD_get hi] at hz
      cases hz; rfl
    subst hz'
    have lx : (Rho.set [(y, V.int o)] x (.int (ns.getD i 0))).lookup x = some (.int (ns.getD i 0)) := Rho.set_self
    have ly : (Rho.set [(y, V.int o)] x (.int (ns.getD i 0))).lookup y = some (.int o) := Rho.set_other (Ne.symm hxy') (by simp [List.lookup])
    refine WT_cmp (WE_var lx (WE_var ly (op_le ⟨_, rfl, fun hb => ?_, fun hb => ?_⟩) hd2) hd1) rfl
    · refine WE_var lx ⟨rfl, ?_⟩ hd1
      rw [take_snoc hi, List.filter_append, List.filter_cons_of_pos (by simpa using hb), List.map_append]; rfl
    · refine ⟨rfl, ?_⟩
      rw [take_snoc hi, List.filter_append, List.filter_cons_of_neg (by simpa using hb), List.filter_nil, List.append_nil]
  · rintro acc d' ⟨rfl, rfl⟩
    rw [List.length_map, List.take_length]
    exact hP

theorem WE_sliceB {e : Expr} {upper : Option Expr} {p pos : Pos} {a : Addr} {vs : List Value} {ns : List Int} (hL : c.g.hb.IsList a vs.toArray) (hI : IntsAre vs ns) (hn : ns.length ≤ 100000)
    (h : WE c k e ρ dk fun v d => v = .raw (.ref a) ∧ WPart c k upper ρ d fun hi d'' => cutOk ns.length none hi ∧ P (.list (cutL (ns.map .int) none hi)) d'')
    (ht : ∀ o r, letTemporaryGo e o r = pure () := by intro _ _; rfl) : WE c k (.Subscript e (.Slice none upper none p) pos) ρ dk P := by
  intro A F s Q E R S hQ
  refine wpAny_Subscript_list_slice (h A F s _ E R S fun F1 s1 a v d1 G1 S1 r1 p1 => ?_) ht
  obtain ⟨rfl, p1⟩ := p1
  refine WPart.wp (e := none) (P := fun lo d => lo = none ∧ d = d1) ⟨rfl, rfl⟩ A F1 s1 _ E R S1 fun F2 s2 vl lo d2 G2 S2 q2 p2 => ?_
  obtain ⟨rfl, rfl⟩ := p2
  refine p1.wp A F2 s2 _ E R S2 fun F3 s3 vu hi d3 G3 S3 q3 p3 => ?_
  cases r1
  have el := hI.length
  have rr : Reps CT F3 vs (ns.map .int) := of_ints hI
  obtain ⟨us, eu, ru⟩ := slicePick_cut rr (lo := none) (hi := hi) (by rw [List.length_map]; exact p3.1)
  obtain ⟨o, ho, hcl, n', hdat⟩ := hL
  refine ⟨_, _, none, hi, rfl, ⟨o, S3.nsBase _ _ ho, hcl, n', hdat⟩, by simp only [List.size_toArray, sizeLine]; (first | lia | omega), q2, q3, ?_⟩
  rw [eu]
  have S4 := S3.mono (h' := s3.heap.push { cls := .type "slice", data := .fields #[vl, vu, .none] }) fun _ _ e => Heap.get?_push_of_some _ e
  obtain ⟨S5, N5⟩ := S4.push { cls := .type "list", data := .seq us.toArray }
  rw [Heap.size_push] at S5 N5
  have N4 : Nx c F3 F3 s3.heap (s3.heap.push { cls := .type "slice", data := .fields #[vl, vu, .none] }) := Nx.mono fun _ _ e => Heap.get?_push_of_some _ e
  exact hQ _ _ _ _ d3 (((G1.trans G2).trans G3).trans ⟨⟨_, s3.toks, rfl⟩, N4.trans N5⟩) S5 (.list ins_same (ru.mono N5.sub)) p3.2

end

-- M26
-- names by lookups alone: a newer pair goes ahead
theorem lk_hd {x : Str} {v : V} {r : Rho} : List.lookup x ((x, v) :: r) = some v := by simp [List.lookup]
theorem set_cons_lookup {ρ : Rho} {x : Str} {v : V} : ∀ y u, List.lookup y ((x, v) :: ρ) = some u → (ρ.set x v).lookup y = some u := fun y u e => by
  rw [Rho.set_lookup]
  by_cases q : y = x
  · subst q; rw [lk_hd] at e; rw [if_pos rfl]; exact e
  · rw [if_neg q]
    have : (y == x) = false := by simpa using q
    simp only [List.lookup, this] at e; exact e
theorem lookup_append_cons {y x : Str} {v : V} : ∀ {l r : Rho}, (∀ u, List.lookup y ((x, v) :: r) = some u → (r.set x v).lookup y = some u) → ∀ u, List.lookup y (l ++ (x, v) :: r) = some u → List.lookup y (l ++ r.set x v) = some u
  | [], _, h, u, e => h u e
  | (z, w) :: l, r, h, u, e => by
    cases q : y == z with
    | true => simp only [List.cons_append, List.lookup, q] at e ⊢; exact e
    | false => simp only [List.cons_append, List.lookup, q] at e ⊢; exact lookup_append_cons h u e
theorem sets_lookup : ∀ {L ρ : Rho} {y : Str} {u : V}, List.lookup y (L.reverse ++ ρ) = some u → (ρ.sets L).lookup y = some u
  | [], _, _, _, e => e
  | (x, v) :: r, ρ, y, u, e => by
    rw [List.reverse_cons, List.append_assoc] at e
    exact sets_lookup (L := r) (lookup_append_cons (fun u e => set_cons_lookup y u e) u e)
section
variable {c : Fc} {k : Nat} {ρ : Rho} {dk : List Int} {P : Fl → Rho → List Int → Prop}
theorem Ws.weak {t : Sem Flow} {ρ' : Rho} (h : Ws c k t ρ' dk P) (hw : ∀ x v, ρ'.lookup x = some v → ρ.lookup x = some v) : Ws c k t ρ dk P :=
  fun A F s Q E R S hQ => h A F s Q E R (S.weak hw) hQ
/-- what ρ' tells ρ tells -/
def Has (ρ : Rho) : Rho → Prop
  | [] => True
  | (x, v) :: r => ρ.lookup x = some v ∧ Has ρ r
theorem Has.of {ρ : Rho} : ∀ {L : Rho}, Has ρ L → ∀ x v, L.lookup x = some v → ρ.lookup x = some v
  | [], _, _, _, e => by cases e
  | (y, u) :: r, ⟨h1, h2⟩, x, v, e => by
    cases q : x == y with
    | true =>
      have : x = y := by simpa using q
      subst this
      rw [lk_hd] at e; cases e; exact h1
    | false => simp only [List.lookup, q] at e; exact Has.of h2 x v e
theorem Ws.has {t : Sem Flow} (L : Rho) (h : Ws c k t L dk P) (hw : Has ρ L) : Ws c k t ρ dk P := h.weak hw.of

theorem WX_let {x : Str} {p pos : Pos} {e : Expr} (hk : Storable c x) (h : WE c k e ρ dk fun v d => P .next ((x, v) :: ρ) d)
    (hs : swapsWith e (some (.Name x p)) pos.line c.env = pure false := by rfl) : WX c k (.Assign [.Name x p] e pos) ρ dk P := by
  intro A F s Q E R S hQ
  refine WX_setX (P := fun fl ρ' d => fl = .next ∧ ∃ v, ρ' = ρ.set x v ∧ P .next ((x, v) :: ρ) d) hk (h.mono fun v d q => ⟨rfl, v, rfl, q⟩) hs A F s Q E R S fun F' s' fl fl' ρ' d G S' r p => ?_
  obtain ⟨rfl, v, rfl, p⟩ := p
  exact hQ F' s' fl .next _ d G (S'.weak set_cons_lookup) r p
theorem WX_letT {ts : List Expr} {xs : List Str} {x1 : Nat} {p pos : Pos} {e : Expr}
    (h : WE c k e ρ dk fun v d => ∃ vs, v = .tup vs ∧ xs.length = vs.length ∧ P .next ((xs.zip vs).reverse ++ ρ) d) (hst : ∀ x ∈ xs, Storable c x)
    (hts : ∃ ps : List Pos, ts = (xs.zip ps).map (fun y => Expr.Name y.1 y.2) ∧ ps.length = xs.length)
    (hs : swapsWithSole [.Tuple ts x1 p] e pos.line c.env = pure false) (hw : swappedStores [.Tuple ts x1 p] e c.env = pure none) : WX c k (.Assign [.Tuple ts x1 p] e pos) ρ dk P := by
  intro A F s Q E R S hQ
  refine WX_tup (P := fun fl ρ' d => fl = .next ∧ ∃ vs, ρ' = ρ.sets (xs.zip vs) ∧ P .next ((xs.zip vs).reverse ++ ρ) d) (h.mono fun v d q => ?_) hst hts hs hw A F s Q E R S fun F' s' fl fl' ρ' d G S' r p => ?_
  · obtain ⟨vs, e, hl, q⟩ := q
    exact ⟨vs, e, hl, rfl, vs, rfl, q⟩
  obtain ⟨rfl, vs, rfl, p⟩ := p
  exact hQ F' s' fl .next _ d G (S'.weak fun y u e => sets_lookup e) r p
theorem WX_letS {ts vs : List Expr} {names : List Str} {x1 x2 : Nat} {p q pos : Pos}
    (h : WA c k vs ρ dk fun us d => us.length ≤ 1000 ∧ names.length = us.length ∧ P .next ((names.reverse.zip us.reverse).reverse ++ ρ) d) (hst : ∀ x ∈ names, Storable c x)
    (hs : swapsWithSole [.Tuple ts x1 p] (.Tuple vs x2 q) pos.line c.env = pure false) (hw : swappedStores [.Tuple ts x1 p] (.Tuple vs x2 q) c.env = pure (some names)) : WX c k (.Assign [.Tuple ts x1 p] (.Tuple vs x2 q) pos) ρ dk P := by
  intro A F s Q E R S hQ
  have mono : ∀ {args : List Expr} {dk : List Int} {P P' : List V → List Int → Prop}, (∀ v d, P v d → P' v d) → WA c k args ρ dk P → WA c k args ρ dk P' := by
    intro args
    induction args with
    | nil => intro dk P P' hp h; exact hp _ _ h
    | cons e r ih => intro dk P P' hp h; exact ⟨h.1, h.2.mono fun v d q => ih (fun vs d' => hp (v :: vs) d') q⟩
  refine WX_swap (P := fun fl ρ' d => fl = .next ∧ ∃ us, ρ' = ρ.sets (names.reverse.zip us) ∧ P .next ((names.reverse.zip us).reverse ++ ρ) d) (mono (fun v d q => ?_) h) hst hs hw A F s Q E R S fun F' s' fl fl' ρ' d G S' r p => ?_
  · exact ⟨q.1, q.2.1, rfl, _, rfl, q.2.2⟩
  obtain ⟨rfl, vs, rfl, p⟩ := p
  exact hQ F' s' fl .next _ d G (S'.weak fun y u e => sets_lookup e) r p
end

-- M27
noncomputable def par0 : Params := { strHash := fun _ => 0, shareClass := fun _ => 0, mergeTok := id, idOf := fun _ => 0, idOfShared := fun _ _ => 0, followText := fun _ => false, idOfImm := fun _ => 0 }
noncomputable def bodyAt (a : Addr) : List Stmt := match (Mine.topK par0).lookup a with
  | some o => match o.data with
    | .func fd => match fd.body with
      | .stmts b => b
      | _ => []
    | _ => []
  | none => []
noncomputable def scopeAt (a : Addr) : Scope := match (Mine.topK par0).lookup a with
  | some o => match o.data with
    | .func fd => fd.scope
    | _ => default
  | none => default
noncomputable def turnB : List Stmt := match bodyAt 197 with
  | _ :: .For _ _ b _ _ :: _ => b
  | _ => []
noncomputable def lawScope : Scope := scopeAt 197

theorem lookup_mem {x : Str} {a : Addr} : ∀ {l : List (Str × Addr)}, l.lookup x = some a → (x, a) ∈ l
  | [], h => by cases h
  | (y, b) :: r, h => by
    cases q : x == y with
    | true =>
      have : x = y := by simpa using q
      subst this
      simp [List.lookup] at h; subst h; exact .head _
    | false => simp only [List.lookup, q] at h; exact .tail _ (lookup_mem h)
theorem snd_inj {x y : Str} {a : Addr} : ∀ {l : List (Str × Addr)}, (l.map (·.2)).Nodup → (x, a) ∈ l → (y, a) ∈ l → x = y
  | [], _, h, _ => by cases h
  | (z, b) :: r, hn, h1, h2 => by
    have hn' := List.nodup_cons.mp hn
    rcases List.mem_cons.mp h1 with e1 | g1
    · rcases List.mem_cons.mp h2 with e2 | g2
      · exact (congrArg Prod.fst e1).trans (congrArg Prod.fst e2).symm
      · have q : a = b := congrArg Prod.snd e1
        exact absurd (q ▸ List.mem_map.mpr ⟨(y, a), g2, rfl⟩ : b ∈ r.map (·.2)) hn'.1
    · rcases List.mem_cons.mp h2 with e2 | g2
      · have q : a = b := congrArg Prod.snd e2
        exact absurd (q ▸ List.mem_map.mpr ⟨(x, a), g1, rfl⟩ : b ∈ r.map (·.2)) hn'.1
      · exact snd_inj hn'.2 g1 g2
/-- the frame of law -/
structure LawC (c : Fc) (L : Addr) : Prop where
  he : ∃ fa cd, c.env = envOfC (Str.ofString "law") lawScope L fa cd
  ho : c.own = [L + 1, L + 2, L + 3, L + 4, L + 5]
theorem LawC.hk {c : Fc} {L : Addr} (h : LawC c L) : ∀ y : Str, Env.kindOf c.env y = List.lookup y lawScope.names := fun y => by
  obtain ⟨fa, cd, e⟩ := h.he; rw [e]; rfl
theorem LawC.cells {c : Fc} {L : Addr} (h : LawC c L) : c.env.cells = [(Str.ofString "_law_wanted", L + 5), (Str.ofString "_law_own", L + 4), (Str.ofString "_law_other", L + 3), (Str.ofString "_law_offset", L + 2), (Str.ofString "_law_lines", L + 1)] := by
  obtain ⟨fa, cd, e⟩ := h.he; rw [e]; rfl
theorem LawC.sto {c : Fc} {L : Addr} (h : LawC c L) {x : Str} (hx : x ∈ [Str.ofString "_law_wanted", Str.ofString "_law_own", Str.ofString "_law_other", Str.ofString "_law_offset", Str.ofString "_law_lines"]) : Storable c x := by
  have hc := h.cells
  have hn : (c.env.cells.map (·.2)).Nodup := by
    have key : ∀ M : Nat, [M + 5, M + 4, M + 3, M + 2, M + 1].Nodup := fun M => by
      simp only [List.nodup_cons, List.mem_cons, List.not_mem_nil, or_false, not_or, List.nodup_nil, and_true, not_false_eq_true]; (first | lia | omega)
    rw [hc]; exact key L
  have key : ∀ a, c.env.kindOf x = some .cell → c.env.cells.lookup x = some a → a ∈ c.own → Storable c x := fun a h1 h2 h3 =>
    .inr ⟨h1, a, h2, h3, fun y b hy hne hb => by
      subst hb
      exact hne (snd_inj hn (lookup_mem hy) (lookup_mem h2))⟩
  simp only [List.mem_cons, List.not_mem_nil, or_false] at hx
  rcases hx with rfl | rfl | rfl | rfl | rfl
  · exact key (L + 5) ((h.hk _).trans rfl) (by rw [hc]; rfl) (by rw [h.ho]; simp)
  · exact key (L + 4) ((h.hk _).trans rfl) (by rw [hc]; rfl) (by rw [h.ho]; simp)
  · exact key (L + 3) ((h.hk _).trans rfl) (by rw [hc]; rfl) (by rw [h.ho]; simp)
  · exact key (L + 2) ((h.hk _).trans rfl) (by rw [hc]; rfl) (by rw [h.ho]; simp)
  · exact key (L + 1) ((h.hk _).trans rfl) (by rw [hc]; rfl) (by rw [h.ho]; simp)

-- R1
/-- a step that the checker leaves to the prover -/
structure Leaf (p : Prop) : Prop where
  out : p
def noStar : Expr → Bool
  | .Starred .. => false
  | _ => true
theorem noStar_ns {e : Expr} (h : noStar e = true) : NS e := by
  intro env rest
  cases e <;> first | rfl | cases h
theorem noStar_all : ∀ {es : List Expr}, es.all noStar = true → ∀ e ∈ es, NS e := fun h e he => noStar_ns (List.all_eq_true.mp h e he)

/-- the module's names -/
def gtab : List (Str × V) :=
  (Str.ofString "line_start", (.raw (.ref 22) : V)) ::
  (Str.ofString "line_end", (.raw (.ref 29) : V)) ::
  (Str.ofString "next_start", (.raw (.ref 36) : V)) ::
  (Str.ofString "lines_target", (.raw (.ref 43) : V)) ::
  (Str.ofString "beginning_target", (.raw (.ref 50) : V)) ::
  (Str.ofString "ending_target", (.raw (.ref 57) : V)) ::
  (Str.ofString "width_at", (.raw (.ref 64) : V)) ::
  (Str.ofString "column_of_codes", (.raw (.ref 71) : V)) ::
  (Str.ofString "column_at", (.raw (.ref 78) : V)) ::
  (Str.ofString "place_at", (.raw (.ref 85) : V)) ::
  (Str.ofString "indentation_at", (.raw (.ref 92) : V)) ::
  (Str.ofString "blanks_to", (.raw (.ref 99) : V)) ::
  (Str.ofString "forced_place", (.raw (.ref 106) : V)) ::
  (Str.ofString "TextRow", (.raw (.ref 145) : V)) ::
  (Str.ofString "_law_draw", (.raw (.ref 156) : V)) ::
  (Str.ofString "_law_deck_of", (.raw (.ref 161) : V)) ::
  (Str.ofString "_law_one", (.raw (.ref 168) : V)) ::
  (Str.ofString "_law_some_codes", (.raw (.ref 173) : V)) ::
  (Str.ofString "_law_wide", (.raw (.ref 180) : V)) ::
  (Str.ofString "_law_columns", (.raw (.ref 187) : V)) ::
  (Str.ofString "_law_moved", (.raw (.ref 192) : V)) ::
  (Str.ofString "len", (.raw (.builtin "len") : V)) ::
  (Str.ofString "range", (.raw (.type "range") : V)) ::
  (Str.ofString "abs", (.raw (.builtin "abs") : V)) ::
  (Str.ofString "max", (.raw (.builtin "max") : V)) ::
  (Str.ofString "min", (.raw (.builtin "min") : V)) ::
  (Str.ofString "sum", (.raw (.builtin "sum") : V)) ::
  (Str.ofString "ord", (.raw (.builtin "ord") : V)) ::
  (Str.ofString "chr", (.raw (.builtin "chr") : V)) ::
  (Str.ofString "list", (.raw (.type "list") : V)) ::
  (Str.ofString "int", (.raw (.type "int") : V)) ::
  (Str.ofString "NEWLINE", (.int 10 : V)) ::
  (Str.ofString "SPACE", (.int 32 : V)) ::
  (Str.ofString "TAB", (.int 9 : V)) ::
  (Str.ofString "DELETE", (.int 127 : V)) ::
  (Str.ofString "BLANKS", (.tup [.int 32, .int 9] : V)) :: []
def defAddrs : List Addr := [22, 29, 36, 43, 50, 57, 64, 71, 78, 85, 92, 99, 106, 145, 156, 161, 168, 173, 180, 187, 192]
def isCallee : Value → Bool
  | .builtin _ => true
  | .type _ => true
  | .ref a => defAddrs.contains a
  | _ => false
theorem keepAll (p : Params) : (defAddrs.all fun a => keepIn (Mine.topK p) (.ref a)) = true := by rfl
theorem isCallee_ok {c : Fc} {w : Value} (h : isCallee w = true) : Callee c w := by
  cases w <;> first | exact .inl ⟨_, rfl⟩ | exact .inr (.inl ⟨_, rfl⟩) | skip
  case ref a =>
    have h : a ∈ defAddrs := by simpa [isCallee] using h
    exact .inr (.inr fun p => List.all_eq_true.mp (keepAll p) a h)
  all_goals cases h

def GOk (x : Str) (v : V) : Prop := ∀ (c : Fc) (k : Nat) (ρ : Rho) (dk : List Int) (P : V → List Int → Prop) (pos : Pos), c.env.kindOf x = some .globalImplicit → P v dk → WE c k (.Name x pos) ρ dk P
theorem gok_d {x : Str} {w : Value} (e : ∀ p, nsIn (Mine.topK p) mainGlobals x = some (some w)) (hd : (x == ("__debug__" : Str)) = false := by decide) : GOk x (.raw w) := fun _ _ _ _ _ _ hk h => WE_g hk e h hd
theorem gok_b {x : Str} {w : Value} (e : ∀ p, nsIn (Mine.topK p) mainGlobals x = some none) (hv : bootBuiltins x = some w) (hn : x ≠ "__name__" := by decide) (hd : (x == ("__debug__" : Str)) = false := by decide) : GOk x (.raw w) := fun _ _ _ _ _ _ hk h => WE_b hk e hv h hn hd
theorem gok_all : ∀ y ∈ gtab, GOk y.1 y.2 := by
  unfold gtab
  refine List.forall_mem_cons.mpr ⟨gok_d fun _ => rfl, List.forall_mem_cons.mpr ⟨gok_d fun _ => rfl, List.forall_mem_cons.mpr ⟨gok_d fun _ => rfl, List.forall_mem_cons.mpr ⟨gok_d fun _ => rfl, List.forall_mem_cons.mpr ⟨gok_d fun _ => rfl, List.forall_mem_cons.mpr ⟨gok_d fun _ => rfl, List.forall_mem_cons.mpr ⟨gok_d fun _ => rfl, ?_⟩⟩⟩⟩⟩⟩⟩
  refine List.forall_mem_cons.mpr ⟨gok_d fun _ => rfl, List.forall_mem_cons.mpr ⟨gok_d fun _ => rfl, List.forall_mem_cons.mpr ⟨gok_d fun _ => rfl, List.forall_mem_cons.mpr ⟨gok_d fun _ => rfl, List.forall_mem_cons.mpr ⟨gok_d fun _ => rfl, List.forall_mem_cons.mpr ⟨gok_d fun _ => rfl, List.forall_mem_cons.mpr ⟨gok_d fun _ => rfl, ?_⟩⟩⟩⟩⟩⟩⟩
  refine List.forall_mem_cons.mpr ⟨gok_d fun _ => rfl, List.forall_mem_cons.mpr ⟨gok_d fun _ => rfl, List.forall_mem_cons.mpr ⟨gok_d fun _ => rfl, List.forall_mem_cons.mpr ⟨gok_d fun _ => rfl, List.forall_mem_cons.mpr ⟨gok_d fun _ => rfl, List.forall_mem_cons.mpr ⟨gok_d fun _ => rfl, List.forall_mem_cons.mpr ⟨gok_d fun _ => rfl, ?_⟩⟩⟩⟩⟩⟩⟩
  refine List.forall_mem_cons.mpr ⟨gok_b (fun _ => rfl) bv_len, List.forall_mem_cons.mpr ⟨gok_b (fun _ => rfl) bv_range, List.forall_mem_cons.mpr ⟨gok_b (fun _ => rfl) bv_abs, List.forall_mem_cons.mpr ⟨gok_b (fun _ => rfl) bv_max, List.forall_mem_cons.mpr ⟨gok_b (fun _ => rfl) bv_min, ?_⟩⟩⟩⟩⟩
  refine List.forall_mem_cons.mpr ⟨gok_b (fun _ => rfl) bv_sum, List.forall_mem_cons.mpr ⟨gok_b (fun _ => rfl) bv_ord, List.forall_mem_cons.mpr ⟨gok_b (fun _ => rfl) bv_chr, List.forall_mem_cons.mpr ⟨gok_b (fun _ => rfl) bv_list, List.forall_mem_cons.mpr ⟨gok_b (fun _ => rfl) bv_int, ?_⟩⟩⟩⟩⟩
  exact List.forall_mem_cons.mpr ⟨fun _ _ _ _ _ _ => n_NEWLINE, List.forall_mem_cons.mpr ⟨fun _ _ _ _ _ _ => n_SPACE, List.forall_mem_cons.mpr ⟨fun _ _ _ _ _ _ => n_TAB, List.forall_mem_cons.mpr ⟨fun _ _ _ _ _ _ => n_DELETE, List.forall_mem_cons.mpr ⟨fun _ _ _ _ _ _ => n_BLANKS, fun _ h => absurd h List.not_mem_nil⟩⟩⟩⟩⟩
theorem lookup_memV {x : Str} {v : V} : ∀ {l : List (Str × V)}, l.lookup x = some v → (x, v) ∈ l
  | [], h => by cases h
  | (y, b) :: r, h => by
    cases q : x == y with
    | true =>
      have : x = y := by simpa using q
      subst this
      simp [List.lookup] at h; subst h; exact .head _
    | false => simp only [List.lookup, q] at h; exact .tail _ (lookup_memV h)

-- R2
abbrev SelfE := Expr → Rho → List Int → (V → List Int → Prop) → Prop
abbrev SelfT := Expr → Rho → List Int → (List Int → Prop) → (List Int → Prop) → Prop
abbrev SelfS := List Stmt → Rho → List Int → (Fl → Rho → List Int → Prop) → Prop
-- looks at a value, each once
def ifB (b : Bool) (A B : Prop) : Prop := match b with
  | true => A
  | false => B
theorem ifB_ok {b : Bool} {A B : Prop} (h : ifB b A B) : (b = true ∧ A) ∨ (b = false ∧ B) := by
  cases b
  · exact .inr ⟨rfl, h⟩
  · exact .inl ⟨rfl, h⟩
def optF {α : Type} (o : Option α) (K : α → Prop) (N : Prop) : Prop := match o with
  | some v => K v
  | none => N
theorem optF_ok {α : Type} {o : Option α} {K : α → Prop} {N : Prop} (h : optF o K N) : (∃ v, o = some v ∧ K v) ∨ N := by
  cases o
  · exact .inr h
  · exact .inl ⟨_, rfl, h⟩
def isG : Option NameKind → Bool
  | some .globalImplicit => true
  | _ => false
theorem isG_ok {o : Option NameKind} (h : isG o = true) : o = some .globalImplicit := by
  cases o with
  | none => cases h
  | some k => cases k <;> first | rfl | cases h
def asI (v : V) (K : Int → Prop) : Prop := match v with
  | .int x => K x
  | _ => False
theorem asI_ok {v : V} {K : Int → Prop} (h : asI v K) : ∃ x, v = .int x ∧ K x := by
  cases v <;> first | exact ⟨_, rfl, h⟩ | exact False.elim h
def asB (v : V) (K : Bool → Prop) : Prop := match v with
  | .bool x => K x
  | _ => False
theorem asB_ok {v : V} {K : Bool → Prop} (h : asB v K) : ∃ x, v = .bool x ∧ K x := by
  cases v <;> first | exact ⟨_, rfl, h⟩ | exact False.elim h
def asL (v : V) (K : List V → Prop) : Prop := match v with
  | .list x => K x
  | _ => False
theorem asL_ok {v : V} {K : List V → Prop} (h : asL v K) : ∃ x, v = .list x ∧ K x := by
  cases v <;> first | exact ⟨_, rfl, h⟩ | exact False.elim h
def asR (v : V) (K : Value → Prop) : Prop := match v with
  | .raw x => K x
  | _ => False
theorem asR_ok {v : V} {K : Value → Prop} (h : asR v K) : ∃ x, v = .raw x ∧ K x := by
  cases v <;> first | exact ⟨_, rfl, h⟩ | exact False.elim h
def twoI (v u : V) (K : Int → Int → Prop) (N : Prop) : Prop := match v with
  | .int x => match u with
    | .int y => K x y
    | _ => N
  | _ => N
theorem twoI_ok {v u : V} {K : Int → Int → Prop} {N : Prop} (h : twoI v u K N) : (∃ x y, v = .int x ∧ u = .int y ∧ K x y) ∨ N := by
  cases v <;> first | exact .inr h | (cases u <;> first | exact .inr h | exact .inl ⟨_, _, rfl, rfl, h⟩)
section
variable (c : Fc) (k : Nat) (kd : Str → Option NameKind) (st : Str → Bool)

def wasF (se : SelfE) : List Expr → Rho → List Int → (List V → List Int → Prop) → Prop
  | [], _, dk, P => P [] dk
  | e :: r, ρ, dk, P => se e ρ dk fun v d => wasF se r ρ d fun vs d' => P (v :: vs) d'

def binF (op : Operator) (v u : V) (d : List Int) (P : V → List Int → Prop) : Prop := match op with
  | .Add => twoI v u (fun x y => P (.int (x + y)) d) (asL v fun xs => asL u fun ys => xs.length + ys.length ≤ 100000 ∧ P (.list (xs ++ ys)) d)
  | .Sub => asI v fun x => asI u fun y => P (.int (x - y)) d
  | .Mod => asI v fun x => asI u fun y => y ≠ 0 ∧ P (.int (x.fmod y)) d
  | .FloorDiv => asI v fun x => asI u fun y => (y ≠ 0 ∧ y.natAbs < 1073741824) ∧ P (.int (x.fdiv y)) d
  | op => Leaf (Op2 c k (binaryOp op) v u d P)
theorem binF_ok {op : Operator} {v u : V} {d : List Int} {P : V → List Int → Prop} (h : binF c k op v u d P) : Op2 c k (binaryOp op) v u d P := by
  cases op <;> try exact Leaf.out h
  case Add =>
    rcases twoI_ok h with ⟨x, y, rfl, rfl, h⟩ | h
    · exact op_add h
    · obtain ⟨xs, rfl, h2⟩ := asL_ok h
      obtain ⟨ys, rfl, h3⟩ := asL_ok h2
      exact op_cat h3.1 h3.2
  case Sub =>
    obtain ⟨x, rfl, h⟩ := asI_ok h
    obtain ⟨y, rfl, h⟩ := asI_ok h
    exact op_sub h
  case Mod =>
    obtain ⟨x, rfl, h⟩ := asI_ok h
    obtain ⟨y, rfl, h⟩ := asI_ok h
    exact op_mod h.1 h.2
  case FloorDiv =>
    obtain ⟨x, rfl, h⟩ := asI_ok h
    obtain ⟨y, rfl, h⟩ := asI_ok h
    exact op_fdiv h.1.1 h.1.2 h.2

def cmpI (op : CmpOp) (x y : Int) (K : Bool → Prop) : Prop := match op with
  | .Lt => K (decide (x < y))
  | .LtE => K (decide (x ≤ y))
  | .Gt => K (decide (y < x))
  | .GtE => K (decide (y ≤ x))
  | .Eq => K (decide (x = y))
  | .NotEq => K (!decide (x = y))
  | _ => False
theorem cmpI_ok {op : CmpOp} {x y : Int} {d : List Int} {K : Bool → List Int → Prop} (h : cmpI op x y fun b => K b d) : Op2 c k (compareOp op) (.int x) (.int y) d fun z d' => ∃ b, z = .bool b ∧ K b d' := by
  cases op <;> first | exact op_lt ⟨_, rfl, h⟩ | exact op_le ⟨_, rfl, h⟩ | exact op_gt ⟨_, rfl, h⟩ | exact op_ge ⟨_, rfl, h⟩ | exact op_eq ⟨_, rfl, h⟩ | exact op_ne ⟨_, rfl, h⟩ | exact False.elim h
def cmpV (op : CmpOp) (v u : V) (d : List Int) (K : Bool → List Int → Prop) : Prop :=
  twoI v u (fun x y => cmpI op x y fun b => K b d) (Leaf (Op2 c k (compareOp op) v u d fun z d' => ∃ b, z = .bool b ∧ K b d'))
theorem cmpV_ok {op : CmpOp} {v u : V} {d : List Int} {K : Bool → List Int → Prop} (h : cmpV c k op v u d K) : Op2 c k (compareOp op) v u d fun z d' => ∃ b, z = .bool b ∧ K b d' := by
  rcases twoI_ok h with ⟨x, y, rfl, rfl, h⟩ | h
  · exact cmpI_ok c k h
  · exact h.out
def cmpJ (op : CmpOp) (x y : Int) (T F : Prop) : Prop := match op with
  | .Lt => (x < y → T) ∧ (¬ x < y → F)
  | .LtE => (x ≤ y → T) ∧ (¬ x ≤ y → F)
  | .Gt => (y < x → T) ∧ (¬ y < x → F)
  | .GtE => (y ≤ x → T) ∧ (¬ y ≤ x → F)
  | .Eq => (x = y → T) ∧ (¬ x = y → F)
  | .NotEq => (¬ x = y → T) ∧ (x = y → F)
  | _ => False
theorem dec_split {p : Prop} [Decidable p] {T F : Prop} (h : (p → T) ∧ (¬ p → F)) : (decide p = true → T) ∧ (decide p = false → F) := ⟨fun q => h.1 (of_decide_eq_true q), fun q => h.2 (of_decide_eq_false q)⟩
theorem dec_splitN {p : Prop} [Decidable p] {T F : Prop} (h : (¬ p → T) ∧ (p → F)) : ((!decide p) = true → T) ∧ ((!decide p) = false → F) := ⟨fun q => h.1 (by simpa using q), fun q => h.2 (by simpa using q)⟩
theorem cmpJ_ok {op : CmpOp} {x y : Int} {T F : Prop} (h : cmpJ op x y T F) : cmpI op x y fun b => (b = true → T) ∧ (b = false → F) := by
  cases op <;> first | exact False.elim h | exact dec_splitN h | exact dec_split h
def cmpT (op : CmpOp) (v u : V) (d : List Int) (T F : List Int → Prop) : Prop :=
  twoI v u (fun x y => cmpJ op x y (T d) (F d)) (Leaf (Op2 c k (compareOp op) v u d fun z d' => ∃ b, z = .bool b ∧ (b = true → T d') ∧ (b = false → F d')))
theorem cmpT_ok {op : CmpOp} {v u : V} {d : List Int} {T F : List Int → Prop} (h : cmpT c k op v u d T F) : Op2 c k (compareOp op) v u d fun z d' => ∃ b, z = .bool b ∧ (b = true → T d') ∧ (b = false → F d') := by
  rcases twoI_ok h with ⟨x, y, rfl, rfl, h⟩ | h
  · exact cmpI_ok c k (K := fun b d => (b = true → T d) ∧ (b = false → F d)) (cmpJ_ok h)
  · exact h.out

def callF (se : SelfE) (f : Expr) (args : List Expr) (kws : List Keyword) (pos : Pos) (ρ : Rho) (dk : List Int) (P : V → List Int → Prop) : Prop := match kws with
  | [] => match args with
    | e :: rest => match f with
      | .Name g q => ifB ((e :: rest).all noStar) (se (.Name g q) ρ dk fun v d => asR v fun w => ifB (isCallee w) (wasF se (e :: rest) ρ d fun vs d' => Leaf (CallW c k w vs d' P)) False) False
      | f => Leaf (WE c k (.Call f (e :: rest) [] pos) ρ dk P)
    | [] => Leaf (WE c k (.Call f [] [] pos) ρ dk P)
  | kws => Leaf (WE c k (.Call f args kws pos) ρ dk P)
def weF (se : SelfE) (stt : SelfT) (e : Expr) (ρ : Rho) (dk : List Int) (P : V → List Int → Prop) : Prop := match e with
  | .Name x pos => ifB (x == Str.ofString "__debug__") False (ifB (isG (kd x)) (optF (gtab.lookup x) (fun v => P v dk) (Leaf (WE c k (.Name x pos) ρ dk P))) (optF (List.lookup x ρ) (fun v => P v dk) (Leaf (WE c k (.Name x pos) ρ dk P))))
  | .Constant cst kk pos => match cst with
    | .int i => P (.int i) dk
    | .str x => P (.str x.cps.toList) dk
    | .bool b => P (.bool b) dk
    | cst => Leaf (WE c k (.Constant cst kk pos) ρ dk P)
  | .UnaryOp op e pos => match op with
    | .USub => se e ρ dk fun v d => asI v fun n => P (.int (-n)) d
    | op => Leaf (WE c k (.UnaryOp op e pos) ρ dk P)
  | .BinOp l op r _ => se l ρ dk fun v d => se r ρ d fun u d' => binF c k op v u d' P
  | .Compare l ops rs pos => match ops with
    | [op] => match rs with
      | [r] => ifB (behindInMarks op r) False (se l ρ dk fun v d => se r ρ d fun u d' => cmpV c k op v u d' fun b d'' => P (.bool b) d'')
      | rs => Leaf (WE c k (.Compare l [op] rs pos) ρ dk P)
    | ops => Leaf (WE c k (.Compare l ops rs pos) ρ dk P)
  | .IfExp t b o _ => stt t ρ dk (fun d => se b ρ d P) fun d => se o ρ d P
  | .List es _ => ifB (es.all noStar && Nat.ble es.length 1000) (wasF se es ρ dk fun vs d => P (.list vs) d) False
  | .Tuple es _ _ => ifB (es.all noStar && Nat.ble es.length 1000) (wasF se es ρ dk fun vs d => P (.tup vs) d) False
  | .Subscript e i pos => match i with
    | .Slice lo hi stp p => Leaf (WE c k (.Subscript e (.Slice lo hi stp p) pos) ρ dk P)
    | i => se e ρ dk fun v d => se i ρ d fun u d' => Leaf (Op2 c k (subscriptTail e i) v u d' P)
  | .Call f args kws pos => callF c k se f args kws pos ρ dk P
  | e => Leaf (WE c k e ρ dk P)
/-- a test as it stands in the model -/
abbrev WTT (t : Expr) (ρ : Rho) (dk : List Int) (T F : List Int → Prop) : Prop := WT c k t ρ dk fun z d => (z = true → T d) ∧ (z = false → F d)
def wtF (se : SelfE) (stt : SelfT) (t : Expr) (ρ : Rho) (dk : List Int) (T F : List Int → Prop) : Prop := match t with
  | .Compare l ops rs pos => match ops with
    | [op] => match rs with
      | [r] => ifB (behindInMarks op r) False (se l ρ dk fun v d => se r ρ d fun u d' => cmpT c k op v u d' T F)
      | rs => Leaf (WTT c k (.Compare l [op] rs pos) ρ dk T F)
    | [o1, o2] => match rs with
      | [r1, r2] => ifB (behindInMarks o2 r2) False (se l ρ dk fun v d => se r1 ρ d fun u d' => cmpT c k o1 v u d' (fun d'' => se r2 ρ d'' fun u2 d3 => cmpT c k o2 u u2 d3 T F) F)
      | rs => Leaf (WTT c k (.Compare l [o1, o2] rs pos) ρ dk T F)
    | ops => Leaf (WTT c k (.Compare l ops rs pos) ρ dk T F)
  | .UnaryOp op e pos => match op with
    | .Not => stt e ρ dk F T
    | op => Leaf (WTT c k (.UnaryOp op e pos) ρ dk T F)
  | .BoolOp op es pos => match es with
    | [a, b] => match op with
      | .And => stt a ρ dk (fun d => stt b ρ d T F) F
      | .Or => stt a ρ dk T fun d => stt b ρ d T F
    | [a, b, e] => match op with
      | .Or => stt a ρ dk T fun d => stt b ρ d T fun d => stt e ρ d T F
      | op => Leaf (WTT c k (.BoolOp op [a, b, e] pos) ρ dk T F)
    | es => Leaf (WTT c k (.BoolOp op es pos) ρ dk T F)
  | .Name x pos => se (.Name x pos) ρ dk fun v d => asB v fun b => (b = true → T d) ∧ (b = false → F d)
  | t => Leaf (WTT c k t ρ dk T F)
def plainE : Expr → Bool
  | .ListComp .. => false
  | .SetComp .. => false
  | .DictComp .. => false
  | _ => true
theorem plainE_ok {e : Expr} {t : Option Expr} {l : Nat} {env : Env} (h : plainE e = true) : swapsWith e t l env = pure false := by
  cases e <;> first | rfl | cases h
def wxF (se : SelfE) (stt : SelfT) (ss : SelfS) (s : Stmt) (ρ : Rho) (dk : List Int) (P : Fl → Rho → List Int → Prop) : Prop := match s with
  | .Assign ts e pos => match ts with
    | [t] => match t with
      | .Name x p => ifB (st x && plainE e) (se e ρ dk fun v d => P .next ((x, v) :: ρ) d) (Leaf (WX c k (.Assign [.Name x p] e pos) ρ dk P))
      | t => Leaf (WX c k (.Assign [t] e pos) ρ dk P)
    | ts => Leaf (WX c k (.Assign ts e pos) ρ dk P)
  | .Return v pos => match v with
    | some e => se e ρ dk fun v d => P (.ret v) ρ d
    | none => Leaf (WX c k (.Return none pos) ρ dk P)
  | .If t b o _ => stt t ρ dk (fun d => ss b ρ d P) fun d => ss o ρ d P
  | s => Leaf (WX c k s ρ dk P)
def seqP (ss : SelfS) (rest : List Stmt) (P : Fl → Rho → List Int → Prop) : Fl → Rho → List Int → Prop
  | .next, ρ, d => ss rest ρ d P
  | fl, ρ, d => P fl ρ d
def wsF (se : SelfE) (stt : SelfT) (sb ss : SelfS) (s : List Stmt) (ρ : Rho) (dk : List Int) (P : Fl → Rho → List Int → Prop) : Prop := match s with
  | [] => P .next ρ dk
  | s :: rest => wxF c k st se stt sb s ρ dk (seqP ss rest P)

noncomputable def wet (n : Nat) : SelfE × SelfT := Nat.rec (fun e ρ dk P => Leaf (WE c k e ρ dk P), fun t ρ dk T F => Leaf (WTT c k t ρ dk T F))
  (fun _ ih => (weF c k kd ih.1 ih.2, wtF c k ih.1 ih.2)) n
noncomputable def we : SelfE := (wet c k kd 30).1
noncomputable def wt : SelfT := (wet c k kd 30).2
noncomputable def ws : SelfS := Nat.rec (fun ss ρ dk P => Leaf (WS c k ss ρ dk P)) (fun _ ih => wsF c k st (we c k kd) (wt c k kd) ih ih) 100
/-- n statements by the checker, the rest left -/
noncomputable def wsg (n : Nat) : SelfS := Nat.rec (fun ss ρ dk P => Leaf (WS c k ss ρ dk P)) (fun _ ih => wsF c k st (we c k kd) (wt c k kd) (ws c k kd st) ih) n
variable {c k kd st}

theorem WA_mono : ∀ {args : List Expr} {ρ : Rho} {dk : List Int} {P P' : List V → List Int → Prop}, (∀ v d, P v d → P' v d) → WA c k args ρ dk P → WA c k args ρ dk P'
  | [], _, _, _, _, hp, h => hp _ _ h
  | _ :: _, _, _, _, _, hp, h => ⟨h.1, h.2.mono fun v _ q => WA_mono (fun vs d' => hp (v :: vs) d') q⟩
theorem wasF_ok {se : SelfE} (he : ∀ e ρ dk P, se e ρ dk P → WE c k e ρ dk P) : ∀ {es : List Expr} {ρ : Rho} {dk : List Int} {P : List V → List Int → Prop}, es.all noStar = true → wasF se es ρ dk P → WA c k es ρ dk fun vs d => vs.length = es.length ∧ P vs d
  | [], _, _, _, _, h => ⟨rfl, h⟩
  | e :: r, ρ, dk, P, hn, h => by
    have hn' : noStar e = true ∧ r.all noStar = true := Bool.and_eq_true_iff.mp hn
    exact ⟨noStar_ns hn'.1, (he _ _ _ _ h).mono fun v d h => WA_mono (fun vs d q => ⟨congrArg Nat.succ q.1, q.2⟩) (wasF_ok he hn'.2 h)⟩
theorem wasF_ok' {se : SelfE} (he : ∀ e ρ dk P, se e ρ dk P → WE c k e ρ dk P) {es : List Expr} {ρ : Rho} {dk : List Int} {P : List V → List Int → Prop} (hn : es.all noStar = true) (h : wasF se es ρ dk P) : WA c k es ρ dk P := WA_mono (fun _ _ q => q.2) (wasF_ok he hn h)
theorem disp_ok {se : SelfE} (he : ∀ e ρ dk P, se e ρ dk P → WE c k e ρ dk P) {es : List Expr} {ρ : Rho} {dk : List Int} {P : List V → List Int → Prop} (h : ifB (es.all noStar && Nat.ble es.length 1000) (wasF se es ρ dk P) False) : WA c k es ρ dk fun vs d => vs.length ≤ 1000 ∧ P vs d := by
  rcases ifB_ok h with ⟨hn, h⟩ | ⟨_, h⟩
  · have hn := Bool.and_eq_true_iff.mp hn
    exact WA_mono (fun vs d (q : vs.length = es.length ∧ P vs d) => ⟨by rw [q.1]; exact Nat.le_of_ble_eq_true hn.2, q.2⟩) (wasF_ok he hn.1 h)
  · exact False.elim h

theorem callF_ok {se : SelfE} (he : ∀ e ρ dk P, se e ρ dk P → WE c k e ρ dk P) {f : Expr} {args : List Expr} {kws : List Keyword} {pos : Pos} {ρ : Rho} {dk : List Int} {P : V → List Int → Prop} (h : callF c k se f args kws pos ρ dk P) : WE c k (.Call f args kws pos) ρ dk P := by
  cases kws with
  | cons => exact Leaf.out h
  | nil =>
    cases args with
    | nil => exact Leaf.out h
    | cons e rest =>
      cases f <;> try exact Leaf.out h
      case Name g q =>
        rcases ifB_ok h with ⟨hn, h⟩ | ⟨_, h⟩
        · refine WE_call ((he _ _ _ _ h).mono fun v d h => ?_) fun env => star_plain fun e hm => noStar_all hn e (.tail _ hm)
          obtain ⟨w, rfl, h⟩ := asR_ok h
          rcases ifB_ok h with ⟨hc, h⟩ | ⟨_, h⟩
          · exact ⟨w, rfl, isCallee_ok hc, WA_mono (fun _ _ q => q.out) (wasF_ok' he hn h)⟩
          · exact False.elim h
        · exact False.elim h
theorem WE_cmpV {l r : Expr} {op : CmpOp} {pos : Pos} {ρ : Rho} {dk : List Int} {P : V → List Int → Prop} (hm : behindInMarks op r = false) (h : WE c k l ρ dk fun v d => WE c k r ρ d fun u d' => cmpV c k op v u d' fun b d'' => P (.bool b) d'') : WE c k (.Compare l [op] [r] pos) ρ dk P :=
  WE_cmp (h.mono fun v d q => q.mono fun u d' q A F ρ s Q E a b R S r1 r2 hQ => cmpV_ok _ _ q A F ρ s Q E a b R S r1 r2 fun F' s' x y dk' G S' r p => by
    obtain ⟨z, rfl, p⟩ := p
    exact hQ F' s' x _ dk' G S' r p) hm
theorem weF_ok {se : SelfE} {stt : SelfT} (hkd : ∀ x, c.env.kindOf x = kd x) (he : ∀ e ρ dk P, se e ρ dk P → WE c k e ρ dk P) (ht : ∀ t ρ dk T F, stt t ρ dk T F → WTT c k t ρ dk T F)
    {e : Expr} {ρ : Rho} {dk : List Int} {P : V → List Int → Prop} (h : weF c k kd se stt e ρ dk P) : WE c k e ρ dk P := by
  cases e <;> try exact Leaf.out h
  case Name x pos =>
    rcases ifB_ok h with ⟨_, h⟩ | ⟨hdb, h⟩
    · exact False.elim h
    · rcases ifB_ok h with ⟨hg, h⟩ | ⟨_, h⟩
      · rcases optF_ok h with ⟨v, hv, h⟩ | h
        · exact gok_all _ (lookup_memV hv) _ _ _ _ _ _ ((hkd _).trans (isG_ok hg)) h
        · exact h.out
      · rcases optF_ok h with ⟨v, hv, h⟩ | h
        · exact WE_var hv h hdb
        · exact h.out
  case Constant cst kk pos => cases cst <;> first | exact WE_int h | exact WE_str h | exact WE_bool h | exact Leaf.out h
  case UnaryOp op e pos =>
    cases op <;> try exact Leaf.out h
    exact WE_neg ((he _ _ _ _ h).mono fun v d q => asI_ok q)
  case BinOp l op r pos => exact WE_bin ((he _ _ _ _ h).mono fun v d q => (he _ _ _ _ q).mono fun u d' q => binF_ok _ _ q)
  case Compare l ops rs pos =>
    match ops, rs, h with
    | [op], [r], h =>
      rcases ifB_ok h with ⟨_, h⟩ | ⟨hm, h⟩
      · exact False.elim h
      · exact WE_cmpV hm ((he _ _ _ _ h).mono fun v d q => he _ _ _ _ q)
    | [], _, h => exact Leaf.out h
    | _ :: _ :: _, _, h => exact Leaf.out h
    | [_], [], h => exact Leaf.out h
    | [_], _ :: _ :: _, h => exact Leaf.out h
  case IfExp t b o pos => exact WE_if ((ht _ _ _ _ _ h).mono fun z d q => ⟨fun e => he _ _ _ _ (q.1 e), fun e => he _ _ _ _ (q.2 e)⟩)
  case List es pos => exact WE_list (disp_ok he h)
  case Tuple es x1 pos => exact WE_tup (disp_ok he h)
  case Subscript e i pos =>
    cases i <;> first | exact WE_sub ((he _ _ _ _ h).mono fun v d q => (he _ _ _ _ q).mono fun u d' q => q.out) | exact Leaf.out h
  case Call f args kws pos => exact callF_ok he h

theorem WT_cmpT {l r : Expr} {op : CmpOp} {pos : Pos} {ρ : Rho} {dk : List Int} {T F : List Int → Prop} (hm : behindInMarks op r = false) (h : WE c k l ρ dk fun v d => WE c k r ρ d fun u d' => cmpT c k op v u d' T F) : WTT c k (.Compare l [op] [r] pos) ρ dk T F :=
  WT_cmp (h.mono fun v d q => q.mono fun u d' q => cmpT_ok _ _ q) hm
theorem bool_tf {F T : Prop} {p : Prop} (h : p) : ((true : Bool) = true → p) ∧ ((true : Bool) = false → F) := ⟨fun _ => h, fun e => Bool.noConfusion e⟩
theorem bool_ft {F T : Prop} {p : Prop} (h : p) : ((false : Bool) = true → F) ∧ ((false : Bool) = false → p) := ⟨fun e => Bool.noConfusion e, fun _ => h⟩
theorem wtF_ok {se : SelfE} {stt : SelfT} (he : ∀ e ρ dk P, se e ρ dk P → WE c k e ρ dk P) (ht : ∀ t ρ dk T F, stt t ρ dk T F → WTT c k t ρ dk T F)
    {t : Expr} {ρ : Rho} {dk : List Int} {T F : List Int → Prop} (h : wtF c k se stt t ρ dk T F) : WTT c k t ρ dk T F := by
  cases t <;> try exact Leaf.out h
  case Compare l ops rs pos =>
    match ops, rs, h with
    | [op], [r], h =>
      rcases ifB_ok h with ⟨_, h⟩ | ⟨hm, h⟩
      · exact False.elim h
      · exact WT_cmpT hm ((he _ _ _ _ h).mono fun v d q => he _ _ _ _ q)
    | [o1, o2], [r1, r2], h =>
      rcases ifB_ok h with ⟨_, h⟩ | ⟨hm, h⟩
      · exact False.elim h
      · refine WT_chain ((he _ _ _ _ h).mono fun v d q => (he _ _ _ _ q).mono fun u d' q => ?_) hm
        intro A F' ρ s Q E a b R S r1 r2 hQ
        refine cmpT_ok _ _ q A F' ρ s Q E a b R S r1 r2 fun F' s' x y dk' G S' r p => ?_
        obtain ⟨z, rfl, p⟩ := p
        exact hQ F' s' x _ dk' G S' r ⟨z, rfl, fun e => (he _ _ _ _ (p.1 e)).mono fun u2 d3 q => cmpT_ok _ _ q, fun e => bool_ft (T := T dk') (p.2 e)⟩
    | [], _, h => exact Leaf.out h
    | _ :: _ :: _ :: _, _, h => exact Leaf.out h
    | [_], [], h => exact Leaf.out h
    | [_], _ :: _ :: _, h => exact Leaf.out h
    | [_, _], [], h => exact Leaf.out h
    | [_, _], [_], h => exact Leaf.out h
    | [_, _], _ :: _ :: _ :: _, h => exact Leaf.out h
  case UnaryOp op e pos =>
    cases op <;> try exact Leaf.out h
    refine WT_not ((ht _ _ _ _ _ h).mono fun z d q => ?_)
    cases z
    · exact bool_tf (T := T d) (q.2 rfl)
    · exact bool_ft (T := T d) (q.1 rfl)
  case BoolOp op es pos =>
    match es, h with
    | [a, b], h =>
      cases op
      · exact WT_and2 ((ht _ _ _ _ _ h).mono fun z d q => ⟨fun e => ht _ _ _ _ _ (q.1 e), fun e => bool_ft (T := T d) (q.2 e)⟩)
      · exact WT_or2 ((ht _ _ _ _ _ h).mono fun z d q => ⟨fun e => bool_tf (T := T d) (q.1 e), fun e => ht _ _ _ _ _ (q.2 e)⟩)
    | [a, b, e], h =>
      cases op
      · exact Leaf.out h
      · exact WT_or3 ((ht _ _ _ _ _ h).mono fun z d q => ⟨fun e => bool_tf (T := T d) (q.1 e), fun e => (ht _ _ _ _ _ (q.2 e)).mono fun z d q => ⟨fun e => bool_tf (T := T d) (q.1 e), fun e => ht _ _ _ _ _ (q.2 e)⟩⟩)
    | [], h => exact Leaf.out h
    | [_], h => exact Leaf.out h
    | _ :: _ :: _ :: _ :: _, h => exact Leaf.out h
  case Name x pos => exact WT_val ((he _ _ _ _ h).mono fun v d q => asB_ok q) (by rfl)
theorem wet_ok (hkd : ∀ x, c.env.kindOf x = kd x) : ∀ n, (∀ e ρ dk P, (wet c k kd n).1 e ρ dk P → WE c k e ρ dk P) ∧ ∀ t ρ dk T F, (wet c k kd n).2 t ρ dk T F → WTT c k t ρ dk T F
  | 0 => ⟨fun _ _ _ _ h => Leaf.out h, fun _ _ _ _ _ h => Leaf.out h⟩
  | n + 1 => ⟨fun _ _ _ _ h => weF_ok hkd (wet_ok hkd n).1 (wet_ok hkd n).2 h, fun _ _ _ _ _ h => wtF_ok (wet_ok hkd n).1 (wet_ok hkd n).2 h⟩
theorem we_ok (hkd : ∀ x, c.env.kindOf x = kd x) {e : Expr} {ρ : Rho} {dk : List Int} {P : V → List Int → Prop} (h : we c k kd e ρ dk P) : WE c k e ρ dk P := (wet_ok hkd 30).1 _ _ _ _ h
theorem wt_ok (hkd : ∀ x, c.env.kindOf x = kd x) {t : Expr} {ρ : Rho} {dk : List Int} {T F : List Int → Prop} (h : wt c k kd t ρ dk T F) : WTT c k t ρ dk T F := (wet_ok hkd 30).2 _ _ _ _ _ h

theorem wxF_ok (hkd : ∀ x, c.env.kindOf x = kd x) {ss : SelfS} (hst : ∀ x, st x = true → Storable c x)
    (hs : ∀ s ρ dk P, ss s ρ dk P → WS c k s ρ dk P) {s : Stmt} {ρ : Rho} {dk : List Int} {P : Fl → Rho → List Int → Prop} (h : wxF c k st (we c k kd) (wt c k kd) ss s ρ dk P) : WX c k s ρ dk P := by
  cases s <;> try exact Leaf.out h
  case Assign ts e pos =>
    match ts, h with
    | [t], h =>
      cases t <;> try exact Leaf.out h
      case Name x p =>
        rcases ifB_ok h with ⟨hn, h⟩ | ⟨_, h⟩
        · have hn := Bool.and_eq_true_iff.mp hn
          exact WX_let (hst _ hn.1) (we_ok hkd h) (plainE_ok hn.2)
        · exact h.out
    | [], h => exact Leaf.out h
    | _ :: _ :: _, h => exact Leaf.out h
  case Return v pos =>
    cases v
    · exact Leaf.out h
    · exact WX_ret (we_ok hkd h)
  case If t b o pos => exact WX_if ((wt_ok hkd h).mono fun z d q => ⟨fun e => hs _ _ _ _ (q.1 e), fun e => hs _ _ _ _ (q.2 e)⟩)
theorem wsF_ok (hkd : ∀ x, c.env.kindOf x = kd x) (hst : ∀ x, st x = true → Storable c x) {sb ss : SelfS} (hb : ∀ s ρ dk P, sb s ρ dk P → WS c k s ρ dk P) (hs : ∀ s ρ dk P, ss s ρ dk P → WS c k s ρ dk P)
    {s : List Stmt} {ρ : Rho} {dk : List Int} {P : Fl → Rho → List Int → Prop} (h : wsF c k st (we c k kd) (wt c k kd) sb ss s ρ dk P) : WS c k s ρ dk P := by
  cases s with
  | nil => exact WS_nil h
  | cons s rest =>
    refine WS_cons ((wxF_ok hkd hst hb h).mono fun y r d q => ?_)
    cases y with
    | next => exact hs _ _ _ _ q
    | brk => exact q
    | cont => exact q
    | ret v => exact q
theorem ws_ok (hkd : ∀ x, c.env.kindOf x = kd x) (hst : ∀ x, st x = true → Storable c x) {s : List Stmt} {ρ : Rho} {dk : List Int} {P : Fl → Rho → List Int → Prop} (h : ws c k kd st s ρ dk P) : WS c k s ρ dk P := by
  have key : ∀ (n : Nat) s ρ dk P, (Nat.rec (fun ss ρ dk P => Leaf (WS c k ss ρ dk P)) (fun _ ih => wsF c k st (we c k kd) (wt c k kd) ih ih) n : SelfS) s ρ dk P → WS c k s ρ dk P := by
    intro n
    induction n with
    | zero => exact fun _ _ _ _ h => Leaf.out h
    | succ n ih => exact fun _ _ _ _ h => wsF_ok hkd hst ih ih h
  exact key 100 _ _ _ _ h
theorem wsg_ok (hkd : ∀ x, c.env.kindOf x = kd x) (hst : ∀ x, st x = true → Storable c x) : ∀ n {s ρ dk P}, wsg c k kd st n s ρ dk P → WS c k s ρ dk P
  | 0, _, _, _, _, h => Leaf.out h
  | n + 1, _, _, _, _, h => wsF_ok hkd hst (fun _ _ _ _ h => ws_ok hkd hst h) (fun _ _ _ _ h => wsg_ok hkd hst n h) h
end
/-- local names alone -/
def stL (kd : Str → Option NameKind) (x : Str) : Bool := match kd x with
  | some .local => true
  | _ => false
theorem stL_ok {c : Fc} {kd : Str → Option NameKind} (hkd : ∀ x, c.env.kindOf x = kd x) (x : Str) (h : stL kd x = true) : Storable c x := by
  unfold stL at h
  cases e : kd x with
  | none => rw [e] at h; cases h
  | some k => rw [e] at h; cases k <;> first | exact .inl ((hkd x).trans e) | cases h

-- R3
section
variable {c : Fc} {k : Nat} {kd : Str → Option NameKind} {st : Str → Bool} {ρ : Rho} {dk : List Int} {P : Fl → Rho → List Int → Prop}
/-- a turn's end: the names that the next turn wants -/
def TurnL (P : Fl → Rho → List Int → Prop) (I : Rho → List Int → Prop) : Fl → Rho → List Int → Prop
  | .next, ρ, d => ∃ L, Has ρ L ∧ I L d
  | .cont, ρ, d => ∃ L, Has ρ L ∧ I L d
  | .brk, ρ, d => P .next ρ d
  | .ret v, ρ, d => P (.ret v) ρ d
theorem wh_ok (hkd : ∀ x, c.env.kindOf x = kd x) (hst : ∀ x, st x = true → Storable c x) {t : Expr} {b : List Stmt} {pos : Pos} (I : Nat → Rho → List Int → Prop) (n : Nat) (L : Rho) (h0 : I n L dk) (hL : Has ρ L)
    (turn : ∀ n L d, I n L d → wt c k kd t L d (fun d' => ws c k kd st b L d' (TurnL P fun L' d'' => ∃ m, m < n ∧ I m L' d'')) fun d' => P .next L d') : Leaf (WX c k (.While t b [] pos) ρ dk P) := by
  refine ⟨fun A F s Q E R S hQ => ?_⟩
  refine wpAny_While (codeAny_whileLoop (fun n s' => ∃ F' L d', Go c F F' s s' ∧ Sta c F' L d' s'.heap ∧ I n L d') ?_ n ⟨F, L, dk, .refl, S.weak hL.of, h0⟩)
  rintro n s1 ⟨F1, L1, d1, G1, S1, i1⟩
  refine wt_ok hkd (turn n L1 d1 i1) A F1 s1 _ _ R S1 fun F2 s2 x y d2 G2 S2 r2 p2 => ?_
  subst r2
  cases x with
  | true =>
    refine ws_ok hkd hst (p2.1 rfl) A F2 s2 _ _ R S2 fun F3 s3 x y ρ3 d3 G3 S3 r3 p3 => ?_
    have G := (G1.trans G2).trans G3
    cases r3 with
    | next => obtain ⟨L3, h3, m, hm, i3⟩ := p3; exact ⟨m, hm, F3, L3, d3, G, S3.weak h3.of, i3⟩
    | cont => obtain ⟨L3, h3, m, hm, i3⟩ := p3; exact ⟨m, hm, F3, L3, d3, G, S3.weak h3.of, i3⟩
    | brk => exact hQ F3 s3 _ _ ρ3 d3 G S3 .next p3
    | ret r => exact hQ F3 s3 _ _ ρ3 d3 G S3 (.ret r) p3
  | false => exact wpAny_execs_nil (hQ F2 s2 _ _ L1 d2 (G1.trans G2) S2 .next (p2.2 rfl))

theorem for_ok (hkd : ∀ x, c.env.kindOf x = kd x) {x : Str} {p pos : Pos} {iter : Expr} {b : List Stmt} (hk : kd x = some .local) (hf : ∀ x, foldedSetIterable iter c.env x = pure x)
    (h : WE c k iter ρ dk fun v d => ∃ xs, SeqOf v xs ∧ ∃ (I : Nat → Rho → List Int → Prop) (L : Rho), Has ρ L ∧ I 0 L d ∧ (∀ i L d' y, xs[i]? = some y → I i L d' → WS c k b ((x, y) :: L) d' (TurnL P (I (i + 1)))) ∧ ∀ L d', I xs.length L d' → P .next L d') :
    Leaf (WX c k (.For (.Name x p) iter b [] pos) ρ dk P) := by
  refine ⟨fun A F s Q E R S hQ => ?_⟩
  refine wpAny_For (h A F s _ E R S fun F1 s1 a v d1 G1 S1 r1 p1 => ?_) hf
  obtain ⟨xs, hsq, I, L, hL, hi0, turn, done⟩ := p1
  refine iter_ok S1 r1 hsq fun o St hfr IT st0 => ?_
  have hI0 : s1.heap.get? s1.heap.objs.size = none := get_none (Nat.le_refl _)
  have fI := S1.fresh hI0
  generalize hgI : s1.heap.objs.size = it at *
  have grow : ∀ a o', s1.heap.get? a = some o' → (s1.heap.push o).get? a = some o' := fun _ _ e => Heap.get?_push_of_some _ e
  refine codeAny_forLoop (fun n s' => ∃ i F' L' d', n = xs.length - i ∧ i ≤ xs.length ∧ (∃ hh tt, s' = { s1 with heap := hh, toks := tt }) ∧ NxM c.Mut F1 F' s1.heap s'.heap ∧ Sta c F' L' d' s'.heap ∧ St i s'.heap ∧ F' it = none ∧ I i L' d') ?_ xs.length
    ⟨0, F1, L, d1, rfl, Nat.zero_le _, ⟨_, _, rfl⟩, Nx.mono grow, (S1.mono grow).weak hL.of, st0, fI.1, hi0⟩
  rintro n s2 ⟨i, F2, ρ2, d2, rfl, hi, ⟨h2, t2, rfl⟩, N2, S2, st2, hF2, i2⟩
  have kF : ∀ a o, F1 a = some o → F2 a = some o := N2.sub
  by_cases hlt : i < xs.length
  · refine IT.item A i xs[i] F2 _ _ _ R.hd (List.getElem?_eq_getElem hlt) st2 kF S2.sub fun v' h3 t3 rv st3 hk3 => ?_
    have S3 := S2.but (fun a o hne e => hk3 a o hne e) hF2 fI.2 (IT.live _ _ st2)
    have N3 := N2.step (fun a o hne e => hk3 a o hne e) hI0
    refine wpAny_assign_Name (store_local (s := { s1 with heap := h3, toks := t3 }) S3 ((hkd x).trans hk) rv fun s4 G4 S4 => ?_)
    obtain ⟨h4, t4, rfl⟩ := G4.st
    have st4 : St (i + 1) h4 := IT.frame _ _ _ st3 fun o' e => G4.nx.keep it o' e fI.2
    refine turn i ρ2 d2 _ (List.getElem?_eq_getElem hlt) i2 A F2 _ _ _ R (S4.weak set_cons_lookup) fun F5 s5 fl fl' ρ5 d5 G5 S5 r5 p5 => ?_
    obtain ⟨h5, t5, rfl⟩ := G5.st
    have N5 : NxM c.Mut F1 F5 s1.heap h5 := NxM.trans (NxM.trans N3 G4.nx) G5.nx
    have st5 : St (i + 1) h5 := IT.frame _ _ _ st4 fun o' e => G5.nx.keep it o' e fI.2
    obtain ⟨o4, e4, _⟩ := IT.live _ _ st4
    have hF5 : F5 it = none := G5.nx.out it o4 e4 hF2
    have G : Go c F F5 s { s1 with heap := h5, toks := t5 } := G1.trans ⟨⟨h5, t5, rfl⟩, N5⟩
    cases r5 with
    | next => obtain ⟨L5, a, b⟩ := p5; exact ⟨xs.length - (i + 1), Nat.sub_succ_lt_self _ _ hlt, i + 1, F5, L5, d5, rfl, hlt, ⟨h5, t5, rfl⟩, N5, S5.weak a.of, st5, hF5, b⟩
    | cont => obtain ⟨L5, a, b⟩ := p5; exact ⟨xs.length - (i + 1), Nat.sub_succ_lt_self _ _ hlt, i + 1, F5, L5, d5, rfl, hlt, ⟨h5, t5, rfl⟩, N5, S5.weak a.of, st5, hF5, b⟩
    | brk => exact hQ F5 _ _ _ ρ5 d5 G S5 .next p5
    | ret r => exact hQ F5 _ _ _ ρ5 d5 G S5 (.ret r) p5
  · have hin : i = xs.length := Nat.le_antisymm hi (Nat.le_of_not_lt hlt)
    subst hin
    refine IT.done A _ _ _ R.hd st2 (fun a o e => S2.sub a o (kF a o e)) fun h3 t3 hk3 => ?_
    have S3 := S2.but (fun a o hne e => hk3 a o hne e) hF2 fI.2 (IT.live _ _ st2)
    have N3 := N2.step (fun a o hne e => hk3 a o hne e) hI0
    exact wpAny_execs_nil (hQ F2 _ _ _ ρ2 d2 (G1.trans ⟨⟨h3, t3, rfl⟩, N3⟩) S3 .next (done ρ2 d2 i2))

variable {P : V → List Int → Prop}
theorem def0 {a : Addr} {o : Obj} {fd : FuncData} {body : List Stmt} {names : List Str} {vs : List V}
    (ho : ∀ p, (Mine.topK p).lookup a = some o) (hd : o.data = .func fd) (hb : fd.body = .stmts body) (hok : ∀ p, defOK (Mine.topK p) fd names = true) (hnd : names.Nodup) (hlen : names.length = vs.length)
    (hbind : ∀ ws : List Value, ws.length = vs.length → bindArgs fd ⟨ws, []⟩ = pure (names.zip ws))
    (h : ∀ c' : Fc, c'.g = c.g → c'.D = none → (∀ x, c'.env.kindOf x = fd.scope.names.lookup x) → ws c' k (fun x => fd.scope.names.lookup x) (stL fun x => fd.scope.names.lookup x) body (names.zip vs) dk fun fl _ _ => P fl.val dk) :
    CallW c (k + 1) (.ref a) vs dk P :=
  call_def none ho hd hb hok hnd hlen hbind (.inl rfl) fun c' hg hD hk => (ws_ok hk (stL_ok hk) (h c' hg hD hk)).mono fun _ _ _ q => q
theorem defD {D : Addr} {a : Addr} {o : Obj} {fd : FuncData} {body : List Stmt} {names : List Str} {vs : List V} (hD : c.D = some D)
    (ho : ∀ p, (Mine.topK p).lookup a = some o) (hd : o.data = .func fd) (hb : fd.body = .stmts body) (hok : ∀ p, defOK (Mine.topK p) fd names = true) (hnd : names.Nodup) (hlen : names.length = vs.length)
    (hbind : ∀ ws : List Value, ws.length = vs.length → bindArgs fd ⟨ws, []⟩ = pure (names.zip ws))
    (h : ∀ c' : Fc, c'.g = c.g → c'.D = some D → (∀ x, c'.env.kindOf x = fd.scope.names.lookup x) → ws c' k (fun x => fd.scope.names.lookup x) (stL fun x => fd.scope.names.lookup x) body (names.zip vs) dk fun fl _ d => P fl.val d) :
    CallW c (k + 1) (.ref a) vs dk P :=
  call_def c.D ho hd hb hok hnd hlen hbind (.inr rfl) fun c' hg hDD hk => (ws_ok hk (stL_ok hk) (h c' hg (hDD.trans hD) hk)).mono fun _ _ _ q => by
    rw [if_neg (by rw [hD]; intro e; cases e)]; exact q
end

-- N1
abbrev S (x : String) : Str := Str.ofString x
theorem vi {a b : Int} (h : a = b) : some (V.int a) = some (V.int b) := congrArg (fun z => some (V.int z)) h
abbrev vw (cs : List Int) (f : Int) : V := .view (cs.map .int) f
def codeAt (cs : List Int) (f p : Int) : Int := if f ≤ p ∧ p < f + cs.length then cs.getD (p - f).toNat 0 else -1
theorem codeAt_in {cs : List Int} {f p : Int} {i : Nat} (h : i < cs.length) (hp : p = f + i) : codeAt cs f p = cs.getD i 0 := by
  subst hp
  unfold codeAt
  rw [if_pos (by (first | lia | omega))]
  have : (f + (i : Int) - f).toNat = i := by (first | lia | omega)
  rw [this]
theorem codeAt_out {cs : List Int} {f p : Int} (h : p < f ∨ f + cs.length ≤ p) : codeAt cs f p = -1 := by
  unfold codeAt
  rw [if_neg (by (first | lia | omega))]
theorem goUp_zero {cs : List Int} {a : Nat} : goUp cs a 0 = (a, 0) := by cases a <;> rfl
theorem goUp_top {cs : List Int} {n : Nat} : goUp cs 0 n = (0, -(n : Int)) := by
  cases n with
  | zero => rfl
  | succ n => unfold goUp; rw [if_pos rfl]; congr 1
theorem goUp_step {cs : List Int} {a n : Nat} (h : a ≠ 0) : goUp cs a (n + 1) = goUp cs (lsN cs (a - 1)) n := by
  rw [goUp, if_neg h]
section
variable {c : Fc} {k : Nat} {ρ : Rho} {dk : List Int} {P : V → List Int → Prop} {cs : List Int} {f : Int}
theorem c_lenI {ns : List Int} (hn : ns.length ≤ 100000) (h : P (.int ns.length) dk) : CallW c k (.builtin "len") [.list (ns.map .int)] dk P :=
  c_lenL (by rw [List.length_map]; exact Nat.lt_of_le_of_lt hn (by decide)) (by rw [List.length_map]; exact h)
theorem item_I {e i : Expr} {ns : List Int} {n : Int} (h0 : 0 ≤ n) (h1 : n < ns.length) (h2 : ns.length ≤ 100000) (h : P (.int (ns.getD n.toNat 0)) dk) (hi : SubPlain i := by intro _ _; rfl) : Op2 c k (subscriptTail e i) (.list (ns.map .int)) (.int n) dk P :=
  item_L h0 (by (first | lia | omega)) (by
    have : n.toNat < ns.length := by (first | lia | omega)
    simp [List.getD, this]) h hi
theorem begin_spec {xs : List V} (h : P (.int f) dk) : CallW c (k + 1) (.ref 128) [.view xs f] dk P :=
  def0 (names := [S "self"]) (fun _ => rfl) rfl rfl (fun _ => rfl) (by decide) rfl (bind1 fun _ => rfl) fun c' hg hD hk => Leaf.mk (WE_place (WE_var rfl ⟨_, _, rfl, h⟩))
theorem end_spec (hx : cs.length ≤ 100000) (h : P (.int (f + cs.length)) dk) : CallW c (k + 1) (.ref 135) [vw cs f] dk P :=
  def0 (names := [S "self"]) (fun _ => rfl) rfl rfl (fun _ => rfl) (by decide) rfl (bind1 fun _ => rfl) fun c' hg hD hk => Leaf.mk (WE_place (WE_var rfl ⟨_, _, rfl, Leaf.mk (WE_codes (WE_var rfl ⟨_, _, rfl, Leaf.mk (c_lenI hx h)⟩))⟩))
theorem code_at_spec {p : Int} (hx : cs.length ≤ 100000) (h : P (.int (codeAt cs f p)) dk) : CallW c (k + 1) (.ref 142) [vw cs f, .int p] dk P := by
  refine def0 (names := [S "self", S "place"]) (fun _ => rfl) rfl rfl (fun _ => rfl) (by decide) rfl (bind2 fun _ _ => rfl) fun c' hg hD hk => ?_
  refine Leaf.mk (WE_place (WE_var rfl ⟨_, _, rfl, And.intro (fun h1 => ?_) fun h1 => ?_⟩))
  · refine Leaf.mk (WE_place (WE_var rfl ⟨_, _, rfl, Leaf.mk (WE_codes (WE_var rfl ⟨_, _, rfl, Leaf.mk (c_lenI hx (And.intro (fun h2 => ?_) fun h2 => ?_))⟩))⟩))
    · rw [codeAt, if_pos ⟨h1, h2⟩] at h
      exact Leaf.mk (WE_codes (WE_var rfl ⟨_, _, rfl, Leaf.mk (WE_place (WE_var rfl ⟨_, _, rfl, Leaf.mk (item_I (Int.sub_nonneg_of_le h1) (Int.sub_left_lt_of_lt_add h2) hx h)⟩))⟩))
    · rw [codeAt, if_neg fun q => h2 q.2] at h
      exact h
  · rw [codeAt, if_neg fun q => h1 q.1] at h
    exact h
theorem vm_begin {o : Expr} {apos pos : Pos} {pl : Sem Bool} (h : WE c (k + 1) o ρ dk fun v d => ∃ cs f, v = vw cs f ∧ P (.int f) d)
    (he : eval (.Call (.Attribute o "begin" apos) [] [] pos) c.env = (do
      let ov ← eval o c.env
      standAt apos.atName
      let (f, first) ← holding [ov] (getMethod ov "begin" pl)
      callWith pos f first (backTo pos (starEach [] c.env)) []) := by rfl) : WE c (k + 1) (.Call (.Attribute o "begin" apos) [] [] pos) ρ dk P :=
  WE_vm0 (fa := 128) (fun _ => by rfl) (fun _ => by rfl) (fun _ => by rfl) (fun _ _ _ _ _ _ _ => by rfl) (h.mono fun v d q => by obtain ⟨cs, f, rfl, q⟩ := q; exact ⟨_, f, rfl, begin_spec q⟩) he
theorem vm_end {o : Expr} {apos pos : Pos} {pl : Sem Bool} (h : WE c (k + 1) o ρ dk fun v d => ∃ cs f, v = vw cs f ∧ cs.length ≤ 100000 ∧ P (.int (f + cs.length)) d)
    (he : eval (.Call (.Attribute o "end" apos) [] [] pos) c.env = (do
      let ov ← eval o c.env
      standAt apos.atName
      let (f, first) ← holding [ov] (getMethod ov "end" pl)
      callWith pos f first (backTo pos (starEach [] c.env)) []) := by rfl) : WE c (k + 1) (.Call (.Attribute o "end" apos) [] [] pos) ρ dk P :=
  WE_vm0 (fa := 135) (fun _ => by rfl) (fun _ => by rfl) (fun _ => by rfl) (fun _ _ _ _ _ _ _ => by rfl) (h.mono fun v d q => by obtain ⟨cs, f, rfl, q1, q⟩ := q; exact ⟨_, f, rfl, end_spec q1 q⟩) he
theorem vm_code {o e : Expr} {apos pos : Pos} {pl : Sem Bool} (h : WE c (k + 1) o ρ dk fun v d => ∃ cs f, v = vw cs f ∧ cs.length ≤ 100000 ∧ WE c (k + 1) e ρ d fun u d' => ∃ p, u = .int p ∧ P (.int (codeAt cs f p)) d') (hn : NS e := by intro _ _; rfl)
    (he : eval (.Call (.Attribute o "code_at" apos) [e] [] pos) c.env = (do
      let ov ← eval o c.env
      standAt apos.atName
      let (f, first) ← holding [ov] (getMethod ov "code_at" pl)
      callWith pos f first (backTo pos (starEach [e] c.env)) []) := by rfl) : WE c (k + 1) (.Call (.Attribute o "code_at" apos) [e] [] pos) ρ dk P :=
  WE_vm1 (fa := 142) (fun _ => by rfl) (fun _ => by rfl) (fun _ => by rfl) (fun _ _ _ _ _ _ _ => by rfl) (h.mono fun v d q => by
    obtain ⟨cs, f, rfl, q1, q⟩ := q
    exact ⟨_, f, rfl, q.mono fun u d' q => by obtain ⟨p, rfl, q⟩ := q; exact code_at_spec q1 q⟩) hn he
theorem line_start_spec {o : Nat} {p : Int} (hx : cs.length ≤ 100000) (ho : o ≤ cs.length) (hp : p = f + o) (hP : P (.int (f + lsN cs o)) dk) : CallW c (k + 2) (.ref 22) [vw cs f, .int p] dk P := by
  subst hp
  refine def0 (names := [S "view", S "place"]) (fun _ => rfl) rfl rfl (fun _ => rfl) (by decide) rfl (bind2 fun _ _ => rfl) fun c' hg hD hk => ?_
  refine wh_ok hk (stL_ok hk) (fun n L d => n ≤ o ∧ lsN cs n = lsN cs o ∧ L = [(S "view", vw cs f), (S "at", .int (f + n))]) o _ ⟨Nat.le_refl _, rfl, rfl⟩ ⟨rfl, rfl, trivial⟩ ?_
  rintro n L d ⟨hn, hl, rfl⟩
  refine Leaf.mk (vm_begin (WE_var rfl ⟨_, _, rfl, And.intro (fun hb => ?_) fun hb => ?_⟩))
  · obtain ⟨m, rfl⟩ : ∃ m, n = m + 1 := ⟨n - 1, by (first | lia | omega)⟩
    have e := codeAt_in (cs := cs) (f := f) (p := f + ((m + 1 : Nat) : Int) - 1) (i := m) (by (first | lia | omega)) (by (first | lia | omega))
    refine Leaf.mk (vm_code (WE_var rfl ⟨_, _, rfl, hx, we_ok hk (Exists.intro _ ⟨rfl, And.intro (fun hb => ?_) fun hb => ?_⟩)⟩))
    · rw [e] at hb
      refine Exists.intro [(S "view", vw cs f), (S "at", .int (f + m))] ⟨⟨rfl, vi (by (first | lia | omega)), trivial⟩, m, Nat.lt_succ_self _, Nat.le_of_lt hn, ?_, rfl⟩
      rw [← hl, lsN, if_neg]
      rw [getD_get (by (first | lia | omega))]
      exact fun q => hb (Option.some.inj q)
    · rw [e] at hb
      have : lsN cs (m + 1) = m + 1 := by rw [lsN, if_pos (by rw [getD_get (by (first | lia | omega)), hb])]
      rw [← hl, this] at hP
      exact hP
  · have : n = 0 := by (first | lia | omega)
    subst this
    rw [← hl] at hP
    exact hP

theorem line_end_spec {o : Nat} {p : Int} (hx : cs.length ≤ 100000) (ho : o ≤ cs.length) (hp : p = f + o) (hP : P (.int (f + leN cs o)) dk) : CallW c (k + 2) (.ref 29) [vw cs f, .int p] dk P := by
  subst hp
  refine def0 (names := [S "view", S "place"]) (fun _ => rfl) rfl rfl (fun _ => rfl) (by decide) rfl (bind2 fun _ _ => rfl) fun c' hg hD hk => ?_
  refine wh_ok hk (stL_ok hk) (fun n L d => ∃ a : Nat, a + n = cs.length ∧ leN cs a = leN cs o ∧ L = [(S "view", vw cs f), (S "at", .int (f + a))]) (cs.length - o) _ ⟨o, Nat.add_sub_cancel' ho, rfl, rfl⟩ ⟨rfl, rfl, trivial⟩ ?_
  rintro n L d ⟨a, hn, hl, rfl⟩
  refine Leaf.mk (vm_end (WE_var rfl ⟨_, _, rfl, hx, And.intro (fun hb => ?_) fun hb => ?_⟩))
  · have ha : a < cs.length := by (first | lia | omega)
    have e := codeAt_in (cs := cs) (f := f) (p := f + a) ha rfl
    refine Leaf.mk (vm_code (WE_var rfl ⟨_, _, rfl, hx, we_ok hk (Exists.intro _ ⟨rfl, And.intro (fun hb => ?_) fun hb => ?_⟩)⟩))
    · rw [e] at hb
      exact Exists.intro [(S "view", vw cs f), (S "at", .int (f + (a + 1 : Nat)))] ⟨⟨rfl, vi (Int.add_assoc ..), trivial⟩, n - 1, by (first | lia | omega), a + 1, by (first | lia | omega), by rw [← hl]; exact (leN_step (getD_get ha) hb).symm, rfl⟩
    · rw [e] at hb
      rw [← hl, leN_stop (.inl (by rw [getD_get ha, hb]))] at hP
      exact hP
  · rw [← hl, leN_stop (.inr (by (first | lia | omega)))] at hP
    exact hP

theorem next_start_spec {o : Nat} {p : Int} (hx : cs.length ≤ 100000) (ho : o ≤ cs.length) (hp : p = f + o) (hP : P (.int (if leN cs o < cs.length then f + leN cs o + 1 else -1)) dk) : CallW c (k + 3) (.ref 36) [vw cs f, .int p] dk P := by
  refine def0 (names := [S "view", S "place"]) (fun _ => rfl) rfl rfl (fun _ => rfl) (by decide) rfl (bind2 fun _ _ => rfl) fun c' hg hD hk => ?_
  refine Leaf.mk (line_end_spec hx ho hp (Leaf.mk (vm_end (WE_var rfl ⟨_, _, rfl, hx, And.intro (fun hb => ?_) fun hb => ?_⟩))))
  · rw [if_pos (by (first | lia | omega))] at hP
    exact hP
  · rw [if_neg (by (first | lia | omega))] at hP
    exact hP

theorem lines_target_spec {o : Nat} {p m : Int} (hf : 0 ≤ f) (hx : cs.length ≤ 100000) (ho : o ≤ cs.length) (hp : p = f + o) (hP : P (.tup ([f + (tgt cs o m).1, (tgt cs o m).2].map .int)) dk) : CallW c (k + 4) (.ref 43) [vw cs f, .int p, .int m] dk P := by
  subst hp
  refine def0 (names := [S "view", S "place", S "many"]) (fun _ => rfl) rfl rfl (fun _ => rfl) (by decide) rfl (bind3 fun _ _ _ => rfl) fun c' hg hD hk => ?_
  unfold tgt at hP
  refine And.intro (fun hb => ?_) fun hb => ?_
  · rw [if_pos hb] at hP
    refine Leaf.mk (line_start_spec hx ho rfl ?_)
    refine wh_ok hk (stL_ok hk) (fun n L d => ∃ a : Nat, a ≤ cs.length ∧ goUp cs a n = goUp cs (lsN cs o) (-m).toNat ∧ L = [(S "view", vw cs f), (S "many", .int (-(n : Int))), (S "at", .int (f + a))]) (-m).toNat _
      ⟨lsN cs o, Nat.le_trans (lsN_le _ _) ho, rfl, rfl⟩ ⟨rfl, vi (by (first | lia | omega)), rfl, trivial⟩ ?_
    rintro n L d ⟨a, ha, hl, rfl⟩
    refine And.intro (fun hb => ?_) fun hb => ?_
    · obtain ⟨n, rfl⟩ : ∃ m, n = m + 1 := ⟨n - 1, by (first | lia | omega)⟩
      refine Leaf.mk (vm_begin (WE_var rfl ⟨_, _, rfl, And.intro (fun hb2 => ?_) fun hb2 => ?_⟩))
      · refine Leaf.mk (line_start_spec (o := a - 1) hx (Nat.le_trans (Nat.sub_le ..) ha) (by (first | lia | omega)) ?_)
        refine Exists.intro [(S "view", vw cs f), (S "many", .int (-(n : Int))), (S "at", .int (f + (lsN cs (a - 1) : Nat)))] ⟨⟨rfl, vi (by (first | lia | omega)), rfl, trivial⟩, n, Nat.lt_succ_self _, lsN cs (a - 1), Nat.le_trans (lsN_le _ _) (Nat.le_trans (Nat.sub_le ..) ha), ?_, rfl⟩
        rw [← hl, goUp_step (by (first | lia | omega))]
      · have : a = 0 := by (first | lia | omega)
        subst this
        rw [← hl, goUp_top] at hP
        exact hP
    · have : n = 0 := by (first | lia | omega)
      subst this
      rw [← hl, goUp_zero] at hP
      exact hP
  · rw [if_neg hb] at hP
    refine wh_ok hk (stL_ok hk) (fun n L d => ∃ a : Nat, a ≤ cs.length ∧ goDown cs a n = goDown cs o m.toNat ∧ L = [(S "view", vw cs f), (S "many", .int n), (S "at", .int (f + a))]) m.toNat _
      ⟨o, ho, rfl, rfl⟩ ⟨rfl, vi (by (first | lia | omega)), rfl, trivial⟩ ?_
    rintro n L d ⟨a, ha, hl, rfl⟩
    refine And.intro (fun hb => ?_) fun hb => ?_
    · obtain ⟨n, rfl⟩ : ∃ m, n = m + 1 := ⟨n - 1, by (first | lia | omega)⟩
      refine Leaf.mk (next_start_spec hx ha rfl ?_)
      by_cases hin : leN cs a < cs.length
      · rw [if_pos hin]
        refine And.intro (fun hb2 => absurd hb2 (by (first | lia | omega))) fun hb2 => ?_
        refine Exists.intro [(S "view", vw cs f), (S "many", .int n), (S "at", .int (f + (leN cs a + 1 : Nat)))] ⟨⟨rfl, vi (by (first | lia | omega)), vi (Int.add_assoc ..), trivial⟩, n, Nat.lt_succ_self _, leN cs a + 1, hin, ?_, rfl⟩
        rw [← hl, goDown, if_pos hin]
      · rw [if_neg hin]
        refine And.intro (fun _ => ?_) fun hb2 => absurd (by decide) hb2
        refine Leaf.mk (vm_end (WE_var rfl ⟨_, _, rfl, hx, ?_⟩))
        refine Leaf.mk (vm_end (WE_var rfl ⟨_, _, rfl, hx, Leaf.mk (c_int ?_)⟩))
        rw [← hl, goDown, if_neg hin] at hP
        have e : (if decide (f + (a : Int) < f + (cs.length : Int)) = true then (1 : Int) else 0) = if a < cs.length then 1 else 0 := by
          by_cases q : a < cs.length
          · rw [if_pos q, if_pos (by simp; (first | lia | omega))]
          · rw [if_neg q, if_neg (by simp; (first | lia | omega))]
        rw [e]
        exact hP
    · have : n = 0 := by (first | lia | omega)
      subst this
      rw [← hl, goDown] at hP
      exact hP
theorem beginning_spec {o : Nat} {p m : Int} (hf : 0 ≤ f) (hx : cs.length ≤ 100000) (ho : o ≤ cs.length) (hp : p = f + o) (hP : P (.int (f + (tgt cs o (m - 1)).1)) dk) : CallW c (k + 5) (.ref 50) [vw cs f, .int p, .int m] dk P :=
  def0 (names := [S "view", S "place", S "many"]) (fun _ => rfl) rfl rfl (fun _ => rfl) (by decide) rfl (bind3 fun _ _ _ => rfl) fun c' hg hD hk =>
    Leaf.mk (lines_target_spec hf hx ho hp (Leaf.mk (item_T (by decide) (Int.ofNat_lt.mpr (Nat.zero_lt_succ 1)) (by decide) rfl hP)))
theorem ending_spec {o : Nat} {p m : Int} (hf : 0 ≤ f) (hx : cs.length ≤ 100000) (ho : o ≤ cs.length) (hp : p = f + o) (hP : P (.int (f + leN cs (tgt cs o (m - 1)).1)) dk) : CallW c (k + 5) (.ref 57) [vw cs f, .int p, .int m] dk P :=
  def0 (names := [S "view", S "place", S "many"]) (fun _ => rfl) rfl rfl (fun _ => rfl) (by decide) rfl (bind3 fun _ _ _ => rfl) fun c' hg hD hk =>
    Leaf.mk (lines_target_spec hf hx ho hp (Leaf.mk (item_T (by decide) (Int.ofNat_lt.mpr (Nat.zero_lt_succ 1)) (by decide) rfl (Leaf.mk (line_end_spec hx (tgt_le cs _ ho) rfl hP)))))
end

-- N2
theorem foldColN_snoc {l : List Int} {x col w : Int} : foldColN (l ++ [x]) col w = if x = 10 then 0 else foldColN l col w + wdt x (foldColN l col w) w := by
  unfold foldColN; rw [List.foldl_append]; rfl
theorem foldCol_snoc {l : List Int} {x col w : Int} : foldCol (l ++ [x]) col w = foldCol l col w + wdt x (foldCol l col w) w := by
  unfold foldCol; rw [List.foldl_append]; rfl
theorem int_at {cs : List Int} {i : Nat} {y : V} (hy : (cs.map V.int)[i]? = some y) : i < cs.length ∧ y = .int (cs.getD i 0) := by
  rw [List.getElem?_map] at hy
  rcases Nat.lt_or_ge i cs.length with q | q
  · rw [getD_get q] at hy; cases hy; exact ⟨q, rfl⟩
  · rw [List.getElem?_eq_none q] at hy; cases hy
section
variable {c : Fc} {k : Nat} {dk : List Int} {P : V → List Int → Prop} {cs : List Int} {f : Int}
theorem width_at_spec {x col w : Int} (hw : w ≠ 0) (hP : P (.int (wdt x col w)) dk) : CallW c (k + 1) (.ref 64) [.int x, .int col, .int w] dk P := by
  refine def0 (names := [S "code", S "column", S "width"]) (fun _ => rfl) rfl rfl (fun _ => rfl) (by decide) rfl (bind3 fun _ _ _ => rfl) fun c' hg hD hk => ?_
  unfold wdt at hP
  refine And.intro (fun h1 => And.intro hw ?_) fun h1 => And.intro (fun h2 => ?_) fun h2 => And.intro (fun h3 => ?_) fun h3 => And.intro (fun h4 => And.intro (fun h5 => ?_) fun h5 => ?_) fun h4 => ?_
  · rw [if_pos h1] at hP; exact hP
  · rw [if_neg h1, if_pos (.inl h2)] at hP; exact hP
  · rw [if_neg h1, if_pos (.inr h3)] at hP; exact hP
  · rw [if_neg h1, if_neg (not_or.mpr ⟨h2, h3⟩), if_pos ⟨h4, h5⟩] at hP; exact hP
  · rw [if_neg h1, if_neg (not_or.mpr ⟨h2, h3⟩), if_neg fun q => h5 q.2] at hP; exact hP
  · rw [if_neg h1, if_neg (not_or.mpr ⟨h2, h3⟩), if_neg fun q => h4 q.1] at hP; exact hP
theorem column_of_codes_spec {col w : Int} (hw : w ≠ 0) (hP : P (.int (foldColN cs col w)) dk) : CallW c (k + 2) (.ref 71) [.list (cs.map .int), .int col, .int w] dk P := by
  refine def0 (names := [S "codes", S "column", S "width"]) (fun _ => rfl) rfl rfl (fun _ => rfl) (by decide) rfl (bind3 fun _ _ _ => rfl) fun c' hg hD hk => ?_
  refine for_ok hk rfl (fun _ => rfl) (we_ok hk ⟨_, .list _, fun i L d => L = [(S "column", .int (foldColN (cs.take i) col w)), (S "width", .int w)], [(S "column", .int col), (S "width", .int w)], ⟨rfl, rfl, trivial⟩, rfl, ?_, ?_⟩)
  · rintro i L d y hy rfl
    obtain ⟨hi, rfl⟩ := int_at hy
    refine ws_ok hk (stL_ok hk) (And.intro (fun hb => ?_) fun hb => Leaf.mk (width_at_spec hw ?_))
    · refine Exists.intro [(S "column", .int (foldColN (cs.take (i + 1)) col w)), (S "width", .int w)] ⟨⟨vi ?_, rfl, trivial⟩, rfl⟩
      rw [take_snoc hi, foldColN_snoc, if_pos hb]
    · refine Exists.intro [(S "column", .int (foldColN (cs.take (i + 1)) col w)), (S "width", .int w)] ⟨⟨vi ?_, rfl, trivial⟩, rfl⟩
      rw [take_snoc hi, foldColN_snoc, if_neg hb]
  · rintro L d rfl
    rw [List.length_map, List.take_length]
    exact hP
theorem column_at_spec {o : Nat} {p w : Int} (hw : w ≠ 0) (hf : 0 ≤ f) (hf2 : f ≤ 100000) (hx : cs.length ≤ 100000) (ho : o ≤ cs.length) (hp : p = f + o) (hP : P (.int (foldCol ((cs.take o).drop (lsN cs o)) 0 w)) dk) : CallW c (k + 3) (.ref 78) [vw cs f, .int p, .int w] dk P := by
  subst hp
  refine def0 (names := [S "view", S "place", S "width"]) (fun _ => rfl) rfl rfl (fun _ => rfl) (by decide) rfl (bind3 fun _ _ _ => rfl) fun c' hg hD hk => ?_
  have hls := lsN_le cs o
  refine for_ok hk rfl (fun _ => rfl) (we_ok hk (Leaf.mk (line_start_spec hx ho rfl (Leaf.mk (c_range2 ⟨_, .rng _ _ (by (first | lia | omega)) (by (first | lia | omega)) (by (first | lia | omega)) (by (first | lia | omega)), fun i L d => L = [(S "column", .int (foldCol (((cs.take o).drop (lsN cs o)).take i) 0 w)), (S "width", .int w), (S "view", vw cs f)], [(S "column", .int 0), (S "width", .int w), (S "view", vw cs f)], ⟨rfl, rfl, rfl, trivial⟩, rfl, ?_, ?_⟩)))))
  · rintro i L d y hy rfl
    rw [rangeL_get] at hy
    by_cases hi : i < (f + (o : Int) - (f + (lsN cs o : Int))).toNat
    · rw [if_pos hi] at hy
      cases hy
      refine ws_ok hk (stL_ok hk) (Leaf.mk (vm_code (WE_var rfl ⟨_, _, rfl, hx, we_ok hk (Exists.intro _ ⟨rfl, Leaf.mk (width_at_spec hw ?_)⟩)⟩)))
      refine Exists.intro [(S "column", .int (foldCol (((cs.take o).drop (lsN cs o)).take (i + 1)) 0 w)), (S "width", .int w), (S "view", vw cs f)] ⟨⟨vi ?_, rfl, rfl, trivial⟩, rfl⟩
      have hlen : i < ((cs.take o).drop (lsN cs o)).length := by rw [List.length_drop, List.length_take]; (first | lia | omega)
      rw [take_snoc hlen, foldCol_snoc, codeAt_in (i := lsN cs o + i) (by (first | lia | omega)) (by (first | lia | omega))]
      have e : ((cs.take o).drop (lsN cs o)).getD i 0 = cs.getD (lsN cs o + i) 0 := by
        simp only [List.getD, List.getElem?_drop]
        rw [List.getElem?_take, if_pos (by (first | lia | omega))]
      rw [e]
    · rw [if_neg hi] at hy; cases hy
  · rintro L d rfl
    have e : (((cs.take o).drop (lsN cs o)).take (rangeL (f + (lsN cs o : Int)) (f + (o : Int) - (f + (lsN cs o : Int))).toNat).length) = (cs.take o).drop (lsN cs o) := by
      rw [rangeL_len]
      refine List.take_of_length_le ?_
      rw [List.length_drop, List.length_take]; (first | lia | omega)
    rw [e]
    exact hP
end
-- plain
def lineN (cs : List Int) (o : Nat) : List Int := (cs.take (leN cs o)).drop (lsN cs o)
structure Edit where
  a : Nat
  b : Nat
  codes : List Int
  behind : Nat
def editOf (cs : List Int) (o : Nat) (want w : Int) (tabs : Bool) : Edit :=
  let r := reach (lineN cs o) 0 want w
  let at' := lsN cs o + r.1
  if r.2 < want then ⟨at', at', blanksL r.2 want w tabs, at' + (blanksL r.2 want w tabs).length⟩
  else if want < r.2 ∧ cs.getD (at' - 1) 0 = 9 then
    let cd : List Int := List.replicate (want - foldCol ((cs.take (at' - 1)).drop (lsN cs (at' - 1))) 0 w).toNat 32
    ⟨at' - 1, at', cd ++ blanksL want r.2 w tabs, at' - 1 + cd.length⟩
  else ⟨at', at', [], at'⟩

theorem wdt_bounds {x col w : Int} (h1 : 1 ≤ w) (h2 : w ≤ 100) : 1 ≤ wdt x col w ∧ wdt x col w ≤ 104 := by
  unfold wdt
  have a := Int.fmod_nonneg_of_pos col (b := w) (by (first | lia | omega))
  have b := Int.fmod_lt_of_pos col (b := w) (by (first | lia | omega))
  split
  · (first | lia | omega)
  · split
    · (first | lia | omega)
    · split <;> (first | lia | omega)
theorem foldCol_bounds {w : Int} (h1 : 1 ≤ w) (h2 : w ≤ 100) : ∀ (l : List Int) (c : Int), c + l.length ≤ foldCol l c w ∧ foldCol l c w ≤ c + 104 * l.length
  | [], c => by simp [foldCol]
  | x :: r, c => by
    have e : foldCol (x :: r) c w = foldCol r (c + wdt x c w) w := rfl
    have := foldCol_bounds h1 h2 r (c + wdt x c w)
    have := wdt_bounds (x := x) (col := c) h1 h2
    rw [e, List.length_cons]
    (first | lia | omega)
theorem reach_fold : ∀ (l : List Int) (c want w : Int), (reach l c want w).1 ≤ l.length ∧ (reach l c want w).2 = foldCol (l.take (reach l c want w).1) c w
  | [], c, _, _ => ⟨Nat.le_refl _, rfl⟩
  | x :: r, c, want, w => by
    have := reach_fold r (c + wdt x c w) want w
    unfold reach
    split
    · refine ⟨by simp only [List.length_cons]; (first | lia | omega), ?_⟩
      rw [List.take_succ_cons]
      exact this.2
    · exact ⟨Nat.zero_le _, rfl⟩
theorem lineN_len (cs : List Int) {o : Nat} (h : o ≤ cs.length) : lsN cs o + (lineN cs o).length = leN cs o ∧ leN cs o ≤ cs.length := by
  have h1 := leN_le cs h
  have h2 := leN_ge cs o
  have h3 := lsN_le cs o
  unfold lineN
  rw [List.length_drop, List.length_take]
  (first | lia | omega)
theorem lineN_get {cs : List Int} {o i : Nat} (h : i < (lineN cs o).length) : (lineN cs o).getD i 0 = cs.getD (lsN cs o + i) 0 := by
  unfold lineN at *
  rw [List.length_drop, List.length_take] at h
  simp only [List.getD, List.getElem?_drop]
  rw [List.getElem?_take, if_pos (by (first | lia | omega))]
theorem fdiv_bounds {x w : Int} (h1 : 1 ≤ w) (h : 0 ≤ x) : 0 ≤ x.fdiv w ∧ x.fdiv w ≤ x := by
  rw [Int.fdiv_eq_ediv_of_nonneg x (by (first | lia | omega))]
  exact ⟨Int.ediv_nonneg h (by (first | lia | omega)), Int.ediv_le_self w h⟩
theorem blanksL_len {col wanted w : Int} {tabs : Bool} (h1 : 1 ≤ w) (h2 : w ≤ 100) (hc : 0 ≤ col) (hw : 0 ≤ wanted) (hw2 : wanted ≤ 20000) : (blanksL col wanted w tabs).length ≤ 30000 := by
  have a := Int.fmod_nonneg_of_pos wanted (b := w) (by (first | lia | omega))
  have b := Int.fmod_lt_of_pos wanted (b := w) (by (first | lia | omega))
  have d := (fdiv_bounds h1 hw).2
  have d2 := (fdiv_bounds h1 hc).1
  unfold blanksL
  generalize ht : (if tabs = true ∧ col < wanted then wanted.fdiv w - col.fdiv w else 0) = t
  have ht2 : t ≤ 20000 := by rw [← ht]; split <;> (first | lia | omega)
  dsimp only
  split
  · rw [List.length_append, List.length_replicate, List.length_replicate]
    (first | lia | omega)
  · rw [List.length_replicate]; split <;> (first | lia | omega)

theorem drop_getD {cs : List Int} {i : Nat} (h : i < cs.length) : cs.drop i = cs.getD i 0 :: cs.drop (i + 1) := by
  rw [List.drop_eq_getElem_cons h]; simp [List.getD, h]
section
variable {c : Fc} {k : Nat} {dk : List Int} {P : V → List Int → Prop} {cs : List Int} {f : Int}
theorem place_at_spec {o : Nat} {p w want : Int} (hw : w ≠ 0) (hx : cs.length ≤ 100000) (ho : o ≤ cs.length) (hp : p = f + o)
    (hP : P (.tup ([f + (lsN cs o + (reach (lineN cs o) 0 want w).1 : Nat), (reach (lineN cs o) 0 want w).2].map .int)) dk) : CallW c (k + 3) (.ref 85) [vw cs f, .int p, .int want, .int w] dk P := by
  refine def0 (names := [S "view", S "place", S "column", S "width"]) (fun _ => rfl) rfl rfl (fun _ => rfl) (by decide) rfl (bind4 fun _ _ _ _ => rfl) fun c' hg hD hk => ?_
  have hl := lineN_len cs ho
  refine Leaf.mk (line_start_spec hx ho hp (Leaf.mk (line_end_spec hx ho hp ?_)))
  refine wh_ok hk (stL_ok hk) (fun n L d => ∃ i : Nat, i + n = (lineN cs o).length ∧ i + (reach ((lineN cs o).drop i) (foldCol ((lineN cs o).take i) 0 w) want w).1 = (reach (lineN cs o) 0 want w).1 ∧
      (reach ((lineN cs o).drop i) (foldCol ((lineN cs o).take i) 0 w) want w).2 = (reach (lineN cs o) 0 want w).2 ∧ L = [(S "reached", .int (foldCol ((lineN cs o).take i) 0 w)), (S "at", .int (f + (lsN cs o + i : Nat))), (S "last", .int (f + leN cs o)), (S "view", vw cs f), (S "column", .int want), (S "width", .int w)]) (lineN cs o).length _
      ⟨0, Nat.zero_add _, Nat.zero_add _, rfl, rfl⟩ ⟨rfl, rfl, rfl, rfl, rfl, rfl, trivial⟩ ?_
  rintro n L d ⟨i, hi, e1, e2, rfl⟩
  refine And.intro (fun hb => ?_) fun hb => ?_
  · have hin : i < (lineN cs o).length := by (first | lia | omega)
    have hcs : lsN cs o + i < cs.length := by (first | lia | omega)
    have hdrop : (lineN cs o).drop i = cs.getD (lsN cs o + i) 0 :: (lineN cs o).drop (i + 1) := by rw [drop_getD hin, lineN_get hin]
    rw [hdrop, reach] at e1 e2
    refine And.intro (fun hb2 => ?_) fun hb2 => ?_
    · rw [if_pos hb2] at e1 e2
      refine Leaf.mk (vm_code (WE_var rfl ⟨_, _, rfl, hx, we_ok hk (Exists.intro _ ⟨rfl, Leaf.mk (width_at_spec hw ?_)⟩)⟩))
      have e3 : foldCol ((lineN cs o).take (i + 1)) 0 w = foldCol ((lineN cs o).take i) 0 w + wdt (cs.getD (lsN cs o + i) 0) (foldCol ((lineN cs o).take i) 0 w) w := by rw [take_snoc hin, foldCol_snoc, lineN_get hin]
      refine Exists.intro [(S "reached", .int (foldCol ((lineN cs o).take (i + 1)) 0 w)), (S "at", .int (f + (lsN cs o + (i + 1) : Nat))), (S "last", .int (f + leN cs o)), (S "view", vw cs f), (S "column", .int want), (S "width", .int w)] ⟨⟨vi ?_, vi (Int.add_assoc ..), rfl, rfl, rfl, rfl, trivial⟩, n - 1, by (first | lia | omega), i + 1, by (first | lia | omega), ?_, ?_, rfl⟩
      · rw [e3, codeAt_in hcs rfl]
      · rw [e3]; (first | lia | omega)
      · rw [e3]; exact e2
    · rw [if_neg hb2] at e1 e2
      rw [← e1, ← e2] at hP
      exact hP
  · have hnil : (lineN cs o).drop i = [] := List.drop_eq_nil_of_le (by (first | lia | omega))
    rw [hnil] at e1 e2
    rw [← e1, ← e2] at hP
    exact hP

theorem indentation_at_spec {o : Nat} {p w : Int} (hw : w ≠ 0) (hx : cs.length ≤ 100000) (ho : o ≤ cs.length) (hp : p = f + o)
    (hP : P (.int (foldCol (bareN (cs.drop (lsN cs o))) 0 w)) dk) : CallW c (k + 3) (.ref 92) [vw cs f, .int p, .int w] dk P := by
  refine def0 (names := [S "view", S "place", S "width"]) (fun _ => rfl) rfl rfl (fun _ => rfl) (by decide) rfl (bind3 fun _ _ _ => rfl) fun c' hg hD hk => ?_
  have hls := lsN_le cs o
  refine Leaf.mk (line_start_spec hx ho hp ?_)
  refine wh_ok hk (stL_ok hk) (fun n L d => ∃ i : Nat, lsN cs o + i + n = cs.length ∧ bareN (cs.drop (lsN cs o)) = (cs.drop (lsN cs o)).take i ++ bareN (cs.drop (lsN cs o + i)) ∧
      L = [(S "column", .int (foldCol ((cs.drop (lsN cs o)).take i) 0 w)), (S "at", .int (f + (lsN cs o + i : Nat))), (S "view", vw cs f), (S "width", .int w)]) (cs.length - lsN cs o) _
      ⟨0, by (first | lia | omega), rfl, rfl⟩ ⟨rfl, rfl, rfl, rfl, trivial⟩ ?_
  rintro n L d ⟨i, hi, e1, rfl⟩
  refine Leaf.mk (vm_code (WE_var rfl ⟨_, _, rfl, hx, we_ok hk (Exists.intro _ ⟨rfl, Leaf.mk (op_inT (ns := [32, 9]) ⟨_, rfl, fun hb => ?_, fun hb => ?_⟩)⟩)⟩))
  · have hb := of_decide_eq_true hb
    have hin : lsN cs o + i < cs.length := by
      rcases Nat.lt_or_ge (lsN cs o + i) cs.length with q | q
      · exact q
      · rw [codeAt_out (.inr (by (first | lia | omega)))] at hb; exact absurd hb (by decide)
    rw [codeAt_in (i := lsN cs o + i) hin rfl] at hb
    have hb : cs.getD (lsN cs o + i) 0 = 32 ∨ cs.getD (lsN cs o + i) 0 = 9 := by simpa using hb
    have hin2 : i < (cs.drop (lsN cs o)).length := by rw [List.length_drop]; (first | lia | omega)
    have hg2 : (cs.drop (lsN cs o)).getD i 0 = cs.getD (lsN cs o + i) 0 := by simp [List.getD]
    refine Leaf.mk (vm_code (WE_var rfl ⟨_, _, rfl, hx, we_ok hk (Exists.intro _ ⟨rfl, Leaf.mk (width_at_spec hw ?_)⟩)⟩))
    refine Exists.intro [(S "column", .int (foldCol ((cs.drop (lsN cs o)).take (i + 1)) 0 w)), (S "at", .int (f + (lsN cs o + (i + 1) : Nat))), (S "view", vw cs f), (S "width", .int w)] ⟨⟨vi ?_, vi (Int.add_assoc ..), rfl, rfl, trivial⟩, n - 1, by (first | lia | omega), i + 1, by (first | lia | omega), ?_, rfl⟩
    · rw [take_snoc hin2, foldCol_snoc, hg2, codeAt_in (i := lsN cs o + i) hin rfl]
    · rw [e1, take_snoc hin2, drop_getD hin, bareN, List.takeWhile_cons, if_pos (by simpa using hb), hg2]
      rw [List.append_assoc]; rfl
  · have hb := of_decide_eq_false hb
    have hstop : bareN (cs.drop (lsN cs o + i)) = [] := by
      rcases Nat.lt_or_ge (lsN cs o + i) cs.length with q | q
      · rw [codeAt_in (i := lsN cs o + i) q rfl] at hb
        rw [drop_getD q, bareN, List.takeWhile_cons, if_neg]
        simpa using hb
      · rw [List.drop_eq_nil_of_le q]; rfl
    rw [e1, hstop, List.append_nil] at hP
    exact hP

end

-- N3
def eV (f : Int) (e : Edit) : V := .tup [.tup [.int (f + e.a), .int (f + e.b), .list (e.codes.map .int)], .int (f + e.behind)]
section
variable {c : Fc} {k : Nat} {dk : List Int} {P : V → List Int → Prop} {cs : List Int} {f : Int}
theorem eV_mk {e : Edit} {a b z : Int} {l : List V} (h : P (eV f e) dk) (ha : a = f + e.a) (hb : b = f + e.b) (hc : l = e.codes.map .int) (hz : z = f + e.behind) : P (.tup [.tup [.int a, .int b, .list l], .int z]) dk := by
  subst ha hb hc hz; exact h
theorem blanks_to_spec {col want w : Int} {tabs : Bool} (h1 : 1 ≤ w) (h2 : w ≤ 100) (hc : 0 ≤ col) (hc2 : col ≤ 20000) (hw : 0 ≤ want) (hw2 : want ≤ 20000)
    (hP : P (.list ((blanksL col want w tabs).map .int)) dk) : CallW c (k + 1) (.ref 99) [.int col, .int want, .int w, .bool tabs] dk P := by
  refine call_def none (names := [S "column", S "wanted", S "width", S "has_tabs"]) (fun _ => rfl) rfl rfl (fun _ => rfl) (by decide) rfl (bind4 fun _ _ _ _ => rfl) (.inl rfl) fun c' hg hD hk => ?_
  have a := Int.fmod_nonneg_of_pos want (b := w) (by (first | lia | omega))
  have b := Int.fmod_lt_of_pos want (b := w) (by (first | lia | omega))
  have d1 := fdiv_bounds h1 hw
  have d2 := fdiv_bounds h1 hc
  have w0 : w ≠ 0 := by (first | lia | omega)
  have w9 : w ≠ 0 ∧ w.natAbs < 1073741824 := by (first | lia | omega)
  unfold blanksL at hP
  have ht2 : (if tabs = true ∧ col < want then want.fdiv w - col.fdiv w else 0) ≤ 20000 := by split <;> (first | lia | omega)
  have fin : ∀ t, t = (if tabs = true ∧ col < want then want.fdiv w - col.fdiv w else 0) → WS c' k ((bodyAt 99).drop 1) [(S "tabs", .int t), (S "column", .int col), (S "wanted", .int want), (S "width", .int w), (S "has_tabs", .bool tabs)] dk fun fl _ _ => P fl.val dk := by
    intro t ht
    rw [← ht] at hP ht2
    dsimp only at hP
    refine ws_ok hk (stL_ok hk) (And.intro (fun hb => ?_) fun hb => ?_)
    · rw [if_pos hb, List.map_append, List.map_replicate, List.map_replicate] at hP
      exact Leaf.mk (op_rep (by (first | lia | omega)) (by (first | lia | omega)) (And.intro w0 (Leaf.mk (op_rep (by (first | lia | omega)) (by (first | lia | omega)) (And.intro (by rw [List.length_replicate, List.length_replicate]; (first | lia | omega)) hP)))))
    · rw [if_neg hb, List.map_replicate] at hP
      exact Leaf.mk (c_max (Leaf.mk (op_rep (by split <;> (first | lia | omega)) (by split <;> (first | lia | omega)) hP)))
  refine wsg_ok hk (stL_ok hk) 1 (And.intro (fun h3 => And.intro (fun h4 => And.intro w9 (And.intro w9 (Leaf.mk (fin _ ?_)))) fun h4 => Leaf.mk (fin _ ?_)) fun h3 => Leaf.mk (fin _ ?_))
  · rw [if_pos ⟨h3, h4⟩]
  · rw [if_neg fun q => h4 q.2]
  · rw [if_neg fun q => by rw [h3] at q; exact Bool.false_ne_true q.1]
theorem forced_place_spec {o : Nat} {p want w : Int} {tabs : Bool} (h1 : 1 ≤ w) (h2 : w ≤ 100) (hf : 0 ≤ f) (hf2 : f ≤ 100) (hx : cs.length ≤ 100) (ho : o ≤ cs.length) (hw : 0 ≤ want) (hw2 : want ≤ 100) (hp : p = f + o)
    (hP : P (eV f (editOf cs o want w tabs)) dk) : CallW c (k + 4) (.ref 106) [vw cs f, .int p, .int want, .int w, .bool tabs] dk P := by
  refine call_def none (names := [S "view", S "place", S "column", S "width", S "has_tabs"]) (fun _ => rfl) rfl rfl (fun _ => rfl) (by decide) rfl (bind5 fun _ _ _ _ _ => rfl) (.inl rfl) fun c' hg hD hk => ?_
  have hl := lineN_len cs ho
  have hr := reach_fold (lineN cs o) 0 want w
  unfold editOf at hP
  have hx' : cs.length ≤ 100000 := Nat.le_trans hx (by decide)
  refine WS_cons (WX_letT (xs := [S "at", S "reached"]) (we_ok hk (Leaf.mk (place_at_spec (by (first | lia | omega)) hx' ho hp (Exists.intro _ ⟨rfl, rfl, ?_⟩)))) (fun x hx => stL_ok hk x (List.all_eq_true.mp (show [S "at", S "reached"].all (stL _) = true from rfl) x hx)) ⟨[_, _], rfl, rfl⟩ rfl rfl)
  generalize reach (lineN cs o) 0 want w = R at hP hr
  obtain ⟨n, reached⟩ := R
  dsimp only at hP hr
  have hb := foldCol_bounds h1 h2 ((lineN cs o).take n) 0
  rw [← hr.2, List.length_take] at hb
  have hlen : (lineN cs o).length ≤ 100 := by (first | lia | omega)
  generalize hat : lsN cs o + n = at' at hP
  refine Ws.has [(S "at", .int (f + at')), (S "reached", .int reached), (S "column", .int want), (S "width", .int w), (S "has_tabs", .bool tabs), (S "view", vw cs f)] ?_ ⟨vi (by rw [← hat]), rfl, rfl, rfl, rfl, rfl, trivial⟩
  have hat2 : at' ≤ cs.length ∧ n ≤ at' ∧ n ≤ 100 := by (first | lia | omega)
  clear hat hl
  refine wsg_ok hk (stL_ok hk) 1 (And.intro (fun hb1 => ?_) fun hb1 => Leaf.mk ?_)
  · rw [if_pos hb1] at hP
    have hbl := blanksL_len (col := reached) (wanted := want) (w := w) (tabs := tabs) h1 h2 (by (first | lia | omega)) (by (first | lia | omega)) (by (first | lia | omega))
    exact Leaf.mk (blanks_to_spec h1 h2 (by (first | lia | omega)) (by (first | lia | omega)) (by (first | lia | omega)) (by (first | lia | omega)) (Leaf.mk (c_lenI (by (first | lia | omega)) (eV_mk hP rfl rfl rfl (by dsimp only; (first | lia | omega))))))
  · rw [if_neg hb1] at hP
    have fin : ¬ (want < reached ∧ cs.getD (at' - 1) 0 = 9) → WS c' (k + 3) ((bodyAt 106).drop 3) [(S "at", .int (f + at')), (S "reached", .int reached), (S "column", .int want), (S "width", .int w), (S "has_tabs", .bool tabs), (S "view", vw cs f)] dk fun fl _ _ => P fl.val dk := by
      intro hn
      rw [if_neg hn] at hP
      exact ws_ok hk (stL_ok hk) hP
    refine wsg_ok hk (stL_ok hk) 1 (And.intro (fun hb2 => ?_) fun hb2 => Leaf.mk (fin fun q => hb2 q.1))
    have e := codeAt_in (cs := cs) (f := f) (p := f + at' - 1) (i := at' - 1) (by (first | lia | omega)) (by (first | lia | omega))
    refine Leaf.mk (vm_code (WE_var rfl ⟨_, _, rfl, hx', we_ok hk (Exists.intro _ ⟨rfl, And.intro (fun hb3 => ?_) fun hb3 => Leaf.mk (fin fun q => hb3 (e.trans q.2))⟩)⟩))
    rw [if_pos ⟨hb2, e.symm.trans hb3⟩] at hP
    have hcb := foldCol_bounds h1 h2 ((cs.take (at' - 1)).drop (lsN cs (at' - 1))) 0
    rw [List.length_drop, List.length_take] at hcb
    have hbl := blanksL_len (col := want) (wanted := reached) (w := w) (tabs := tabs) h1 h2 (by (first | lia | omega)) (by (first | lia | omega)) (by (first | lia | omega))
    refine Leaf.mk (column_at_spec (o := at' - 1) (by (first | lia | omega)) hf (by (first | lia | omega)) hx' (by (first | lia | omega)) (by (first | lia | omega)) ?_)
    generalize foldCol ((cs.take (at' - 1)).drop (lsN cs (at' - 1))) 0 w = bf at *
    refine Leaf.mk (op_rep (by (first | lia | omega)) (by (first | lia | omega)) (Leaf.mk (blanks_to_spec h1 h2 (by (first | lia | omega)) (by (first | lia | omega)) (by (first | lia | omega)) (by (first | lia | omega)) (And.intro ?_ (Leaf.mk (c_lenL ?_ (eV_mk hP ?_ rfl ?_ ?_)))))))
    · rw [List.length_replicate, List.length_map]; (first | lia | omega)
    · rw [List.length_replicate]; (first | lia | omega)
    · dsimp only; (first | lia | omega)
    · dsimp only; rw [List.map_append, List.map_replicate]
    · dsimp only; rw [List.length_replicate, List.length_replicate]; (first | lia | omega)
end

-- N4
section
variable {c : Fc} {k : Nat} {dk : List Int} {P : V → List Int → Prop} {D : Addr}
theorem draw_spec {many : Int} (hD0 : c.D = some D) (hd : DkOk dk) (h1 : 0 < many) (h2 : many < 1000000) (hP : ∀ v d, 0 ≤ v → v < many → DkOk d → P (.int v) d) : CallW c (k + 1) (.ref 156) [.raw (.ref D), .int many] dk P := by
  refine defD hD0 (names := [S "_law_deck", S "_law_many"]) (fun _ => rfl) rfl rfl (fun _ => rfl) (by decide) rfl (bind2 fun _ _ => rfl) fun c' hg hD hk => ?_
  have m0 : many ≠ 0 := by (first | lia | omega)
  have m9 : many ≠ 0 ∧ many.natAbs < 1073741824 := by (first | lia | omega)
  refine wh_ok hk (stL_ok hk) (fun n L d => DkOk d ∧ d.length = n ∧ L = [(S "_law_deck", .raw (.ref D)), (S "_law_many", .int many)]) dk.length _ ⟨hd, rfl, rfl⟩ ⟨rfl, rfl, trivial⟩ ?_
  rintro n L d ⟨hd, hdl, rfl⟩
  have hlen := hd.len
  obtain ⟨x, r, rfl⟩ := hd.cons
  have hx := hd.pos x (.head _)
  have hl60 : (x :: r).length < 2 ^ 60 := Nat.lt_of_le_of_lt hlen (by decide)
  have hl5 : (x :: r).length ≤ 100000 := Nat.le_trans hlen (by decide)
  refine Leaf.mk (c_lenD hD hl60 (And.intro (fun hb => ?_) fun hb => ?_))
  · have hb : 1 < (x :: r).length := Int.ofNat_lt.mp hb
    refine Leaf.mk (item_D hD (by decide) (by decide) rfl (And.intro (fun _ => ?_) fun _ => ?_))
    · refine Leaf.mk (WX_expr (WE_dmeth hD PySem.F.slot_list_pop PySem.F.type_list_pop (WE_var rfl ⟨rfl, WE_int (c_pop0 hD rfl hl5 ?_)⟩)) not_interactive)
      exact Exists.intro [(S "_law_deck", .raw (.ref D)), (S "_law_many", .int many)] ⟨⟨rfl, rfl, trivial⟩, r.length, by rw [← hdl]; exact Nat.lt_succ_self _, hd.tail hb, rfl, rfl⟩
    · refine Leaf.mk (c_lenD hD hl60 (And.intro (fun _ => ?_) fun q => absurd (Int.ofNat_lt.mpr hb) q))
      have hq : 0 ≤ x.fdiv many := Int.fdiv_nonneg hx (Int.le_of_lt h1)
      refine Leaf.mk (item_D hD (by decide) (by decide) rfl (And.intro m0 (Leaf.mk (WX_setD hD (we_ok hk (Leaf.mk (item_D hD (by decide) (by decide) rfl (And.intro m9 (Exists.intro _ ⟨rfl, we_ok hk (And.intro rfl (we_ok hk (Exists.intro _ ⟨rfl, by decide, Int.ofNat_lt.mpr (Nat.succ_pos _), by decide, ?_⟩)))⟩)))))))))
      exact hP _ _ (Int.fmod_nonneg_of_pos _ h1) (Int.fmod_lt_of_pos _ h1) (hd.set hq)
  · have hb : r = [] := by
      cases r with
      | nil => rfl
      | cons _ _ => exact absurd (Int.ofNat_lt.mpr (Nat.succ_lt_succ (Nat.succ_pos _))) hb
    subst hb
    refine Leaf.mk (c_lenD hD hl60 (And.intro (fun q => absurd q (Int.lt_irrefl 1)) fun _ => ?_))
    have hq : 0 ≤ (x * 48271 + 11).fmod 2147483647 := Int.fmod_nonneg_of_pos _ (by decide)
    refine Leaf.mk (WX_setD hD (we_ok hk (Leaf.mk (item_D hD (by decide) (by decide) rfl (Leaf.mk (op_mul (.of_right (by decide)) (And.intro (by decide) (Exists.intro _ ⟨rfl, we_ok hk (And.intro rfl (we_ok hk (Exists.intro _ ⟨rfl, by decide, Int.ofNat_lt.mpr (Nat.succ_pos _), by decide, ?_⟩)))⟩))))))))
    refine Leaf.mk (item_D hD (by decide) (by decide) rfl (And.intro (by decide) (And.intro m0 ?_)))
    exact hP _ _ (Int.fmod_nonneg_of_pos _ h1) (Int.fmod_lt_of_pos _ h1) (hd.set hq)
theorem one_spec {x : List Nat} (hD0 : c.D = some D) (hd : DkOk dk) (hx : 0 < x.length) (hx2 : x.length < 1000) (hP : ∀ a d, a ∈ x → DkOk d → P (.str [a]) d) : CallW c (k + 2) (.ref 168) [.raw (.ref D), .str x] dk P := by
  refine defD hD0 (names := [S "_law_deck", S "_law_items"]) (fun _ => rfl) rfl rfl (fun _ => rfl) (by decide) rfl (bind2 fun _ _ => rfl) fun c' hg hD hk => ?_
  refine Leaf.mk (c_lenS (Nat.lt_trans hx2 (by decide)) (Leaf.mk (draw_spec hD hd (Int.ofNat_lt.mpr hx) (by (first | lia | omega)) fun v d h0 h1 hd' => ?_)))
  have hv : v.toNat < x.length := by (first | lia | omega)
  exact Leaf.mk (item_S h0 h1 (Nat.lt_trans hx2 (by decide)) (List.getElem?_eq_getElem hv) (hP _ _ (List.getElem_mem hv) hd'))
theorem some_codes_spec {x : List Nat} {most : Int} (hD0 : c.D = some D) (hd : DkOk dk) (hx : 0 < x.length) (hx2 : x.length < 1000) (h0 : 0 ≤ most) (h1 : most < 1000)
    (hP : ∀ (ns : List Nat) d, (∀ a ∈ ns, a ∈ x) → ns.length ≤ most → DkOk d → P (.list (natsV ns)) d) : CallW c (k + 3) (.ref 173) [.raw (.ref D), .str x, .int most] dk P := by
  refine call_defC c.D (names := [S "_law_deck", S "_law_signs", S "_law_most"]) (fun _ => rfl) rfl rfl (fun _ => rfl) (by decide) rfl (bind3 fun _ _ _ => rfl) (.inr rfl) (fun n y hy => ?_) fun c' L hg hD he => ?_
  · rcases List.mem_cons.mp hy with rfl | hy
    · exact fun _ => rfl
    · rcases List.mem_cons.mp hy with rfl | hy
      · exact fun _ => rfl
      · rw [List.mem_singleton.mp hy]; intro q; cases q
  rw [hD0] at hD
  have hne : c.D ≠ none := by rw [hD0]; intro h; cases h
  have hk : ∀ y : Str, Env.kindOf c'.env y = List.lookup y _ := fun y => by rw [he]; rfl
  refine WS_cons (WX_ret (WE_comp rfl rfl (clOK_of (by rw [he]; rfl)) (we_ok hk (Leaf.mk (draw_spec hD hd (by (first | lia | omega)) (by (first | lia | omega)) fun v d hv0 hv1 hd' => Leaf.mk (c_range1 ?_)))) (fun _ => rfl)))
  refine ⟨_, .rng _ _ (by decide) (by decide) (by (first | lia | omega)) (by (first | lia | omega)), by rw [rangeL_len]; (first | lia | omega), CompAsk.mk (by rw [he]) [(S "_law_deck", .raw (.ref D)), (S "_law_signs", .str x)] (fun i acc d => ∃ ns : List Nat, acc = natsV ns ∧ (∀ a ∈ ns, a ∈ x) ∧ ns.length = i ∧ DkOk d)
    (Seen.cons rfl (by rw [he]; rfl) (by rw [he]; rfl) (by rw [he]; rfl) (Seen.cons rfl (by rw [he]; rfl) (by rw [he]; rfl) (by rw [he]; rfl) Seen.nil)) rfl ⟨[], rfl, (fun a ha => by cases ha), rfl, hd'⟩ ?_ ?_⟩
  · rintro c2 hg2 hD2 hk2 i acc d2 y hy ⟨ns, rfl, hns, hl, hd2⟩
    rw [hD] at hD2
    refine ⟨fun _ => we_ok hk2 (Leaf.mk (one_spec (D := D) hD2 hd2 hx hx2 fun a d3 ha hd3 => Leaf.mk (c_ord ⟨ns ++ [a], by unfold natsV; rw [List.map_append, List.map_append]; rfl, fun b hb => ?_, by rw [List.length_append, hl]; rfl, hd3⟩))), fun q => absurd q.symm Bool.false_ne_true⟩
    rcases List.mem_append.mp hb with hb | hb
    · exact hns b hb
    · rw [List.mem_singleton.mp hb]; exact ha
  · rintro acc d2 ⟨ns, rfl, hns, hl, hd2⟩
    show P _ (if c.D = none then dk else d2)
    rw [if_neg hne]
    refine hP ns d2 hns ?_ hd2
    rw [hl, rangeL_len]; (first | lia | omega)
theorem wide_spec {x col w : Int} (hw : w ≠ 0) (hP : P (.int (wdt x col w)) dk) : CallW c (k + 1) (.ref 180) [.int x, .int col, .int w] dk P := by
  refine def0 (names := [S "_law_code", S "_law_column", S "_law_width"]) (fun _ => rfl) rfl rfl (fun _ => rfl) (by decide) rfl (bind3 fun _ _ _ => rfl) fun c' hg hD hk => ?_
  unfold wdt at hP
  refine And.intro (fun h1 => And.intro hw ?_) fun h1 => And.intro (fun h2 => ?_) fun h2 => And.intro (fun h3 => ?_) fun h3 => And.intro (fun h4 => And.intro (fun h5 => ?_) fun h5 => ?_) fun h4 => ?_
  · rw [if_pos h1] at hP; exact hP
  · rw [if_neg h1, if_pos (.inl h2)] at hP; exact hP
  · rw [if_neg h1, if_pos (.inr h3)] at hP; exact hP
  · rw [if_neg h1, if_neg (not_or.mpr ⟨h2, h3⟩), if_pos ⟨h4, h5⟩] at hP; exact hP
  · rw [if_neg h1, if_neg (not_or.mpr ⟨h2, h3⟩), if_neg fun q => h5 q.2] at hP; exact hP
  · rw [if_neg h1, if_neg (not_or.mpr ⟨h2, h3⟩), if_neg fun q => h4 q.1] at hP; exact hP
theorem item_Dneg {e i : Expr} {D : Addr} {n x : Int} (hD : c.D = some D) (h0 : n < 0) (h1 : -(dk.length : Int) ≤ n) (h2 : -(2 ^ 63) ≤ n) (hx : dk[(n + dk.length).toNat]? = some x) (h : P (.int x) dk) (hi : SubPlain i := by intro _ _; rfl) : Op2 c k (subscriptTail e i) (.raw (.ref D)) (.int n) dk P := by
  intro A F ρ s Q E a b R S r1 r2 hQ
  cases r2; cases r1
  obtain ⟨vs, n', e, ii⟩ := S.deck D hD
  obtain ⟨t, ex⟩ := ii.get _ _ hx
  have el := ii.length
  have hl : s.heap.IsList D vs.toArray := ⟨_, e, rfl, _, rfl⟩
  exact tail_any hl.typeIs list_getitem_lookup (wpAny_getItem_list_neg hl h0 (by simp only [List.size_toArray]; (first | lia | omega)) h2 (by simpa only [List.size_toArray, el, List.getElem?_toArray] using ex) (hQ F s _ _ dk .refl S (.int _ _) h)) (hi _ _)

end
/-- the columns in front of each sign of a line, and behind the last -/
def colsN (l : List Int) (w : Int) (n : Nat) : List Int := (List.range n).map fun j => foldCol (l.take j) 0 w
def colsOf (l : List Int) (w : Int) : List Int := colsN l w (l.length + 1)
theorem colsN_succ {l : List Int} {w : Int} {n : Nat} : colsN l w (n + 1) = colsN l w n ++ [foldCol (l.take n) 0 w] := by
  unfold colsN; rw [List.range_succ, List.map_append]; rfl
theorem colsN_len {l : List Int} {w : Int} {n : Nat} : (colsN l w n).length = n := by simp [colsN]
theorem colsN_last {l : List Int} {w : Int} {n : Nat} : (colsN l w (n + 1))[((-1 : Int) + ((colsN l w (n + 1)).length : Int)).toNat]? = some (foldCol (l.take n) 0 w) := by
  rw [colsN_len, show ((-1 : Int) + ((n + 1 : Nat) : Int)).toNat = n from by (first | lia | omega), colsN_succ]
  rw [List.getElem?_append_right (by rw [colsN_len]; exact Nat.le_refl _), colsN_len, Nat.sub_self]; rfl

theorem signsL_get {l : List Nat} {i : Nat} {y : V} (h : (signsL l)[i]? = some y) : ∃ a, l[i]? = some a ∧ y = .str [a] := by
  unfold signsL at h
  rw [List.getElem?_map] at h
  cases e : l[i]? with
  | none => rw [e] at h; cases h
  | some a => rw [e] at h; cases h; exact ⟨a, rfl, rfl⟩

/-- how many are at most o -/
def cnt (sts : List Int) (o : Int) : Nat := (sts.filter fun b => decide (b ≤ o)).length
theorem cnt_le (sts : List Int) (o : Int) : cnt sts o ≤ sts.length := List.length_filter_le ..

def movedL (nl : Nat) (sts : List Int) (o m size : Int) : Int × Int :=
  let at' : Int := cnt sts o - 1
  if m ≤ 0 then (sts.getD (if at' + m > 0 then at' + m else 0).toNat 0, if at' + m < 0 then at' + m else 0)
  else
    let left : Int := nl - 1 - at'
    if m ≤ left then (sts.getD (at' + m).toNat 0, 0)
    else (size, m - left - (if decide ((if 0 < left then sts.getD (sts.length - 1) 0 else o) < size) = true then 1 else 0))

section
variable {c : Fc} {k : Nat} {dk : List Int} {P : V → List Int → Prop} {D : Addr}
theorem columns_spec {l : List Nat} {w : Int} (hw : w ≠ 0) (hl : l.length ≤ 10000) (hP : P (.list ((colsOf (l.map Int.ofNat) w).map .int)) dk) : CallW c (k + 2) (.ref 187) [.str l, .int w] dk P := by
  refine call_def none (names := [S "_law_line", S "_law_width"]) (fun _ => rfl) rfl rfl (fun _ => rfl) (by decide) rfl (bind2 fun _ _ => rfl) (.inl rfl) fun c' hg hD hk => ?_
  refine WS_new hD ((hk _).trans rfl) (new_disp (WA_cons (WE_int (WA_nil ⟨[0], rfl, rfl, by decide, fun D => ?_⟩))))
  have hDD : (c'.wd D).D = some D := rfl
  have hk : ∀ x, (c'.wd D).env.kindOf x = _ := hk
  refine Ws.has [(S "_law_found", .raw (.ref D)), (S "_law_line", .str l), (S "_law_width", .int w)] ?_ ⟨rfl, rfl, rfl, trivial⟩
  refine wsg_ok hk (stL_ok hk) 3 (for_ok hk rfl (fun _ => rfl) (we_ok hk ⟨_, .str _, fun i L d => d = colsN (l.map Int.ofNat) w (i + 1) ∧ L = [(S "_law_found", .raw (.ref D)), (S "_law_width", .int w)], [(S "_law_found", .raw (.ref D)), (S "_law_width", .int w)], ⟨rfl, rfl, trivial⟩, ⟨rfl, rfl⟩, ?_, ?_⟩))
  · rintro i L d y hy ⟨rfl, rfl⟩
    obtain ⟨a, ha, rfl⟩ := signsL_get hy
    have hi : i < l.length := by
      rcases Nat.lt_or_ge i l.length with q | q
      · exact q
      · rw [List.getElem?_eq_none q] at ha; cases ha
    have hcl : (colsN (l.map Int.ofNat) w (i + 1)).length = i + 1 := colsN_len
    have hm1 : -(((colsN (l.map Int.ofNat) w (i + 1)).length : Nat) : Int) ≤ -1 := by rw [hcl]; (first | lia | omega)
    refine ws_ok hk (stL_ok hk) (Leaf.mk (WX_expr (WE_dmeth hDD PySem.F.slot_list_append PySem.F.type_list_append (WE_var rfl ⟨rfl, we_ok hk (Leaf.mk (item_Dneg hDD (by decide) hm1 (by decide) colsN_last (Leaf.mk (c_ord (Leaf.mk (item_Dneg hDD (by decide) hm1 (by decide) colsN_last (Leaf.mk (wide_spec hw (c_append hDD (by rw [hcl]; (first | lia | omega)) ?_))))))))) ⟩)) not_interactive))
    have e1 : (l.map Int.ofNat).getD i 0 = (a : Int) := by simp [List.getD, ha]
    refine Exists.intro [(S "_law_found", .raw (.ref D)), (S "_law_width", .int w)] ⟨⟨rfl, rfl, trivial⟩, ?_, rfl⟩
    rw [colsN_succ (n := i + 1), take_snoc (by rw [List.length_map]; exact hi), foldCol_snoc, e1]
  · rintro L d ⟨rfl, rfl⟩
    refine ⟨_, .inr ⟨rfl, rfl⟩, ?_⟩
    have : (signsL l).length = (l.map Int.ofNat).length := by simp [signsL]
    rw [this]
    exact hP
theorem moved_spec {lines : List V} {sts : List Int} {o m size : Int} (hl : lines.length ≤ 1000) (hs : sts.length = lines.length) (hc : 0 < cnt sts o) (hP : P (.tup ([(movedL lines.length sts o m size).1, (movedL lines.length sts o m size).2].map .int)) dk) :
    CallW c (k + 2) (.ref 192) [.list lines, .list (sts.map .int), .int o, .int m, .int size] dk P := by
  refine call_defC none (names := [S "_law_lines", S "_law_starts", S "_law_offset", S "_law_many", S "_law_size"]) (fun _ => rfl) rfl rfl (fun _ => rfl) (by decide) rfl (bind5 fun _ _ _ _ _ => rfl) (.inl rfl) (fun n y hy => ?_) fun c' L hg hD he => ?_
  · simp only [List.mem_cons, List.not_mem_nil, or_false] at hy
    rcases hy with rfl | rfl | rfl | rfl | rfl <;> first | (intro q; cases q; done) | exact fun _ => rfl
  have hk : ∀ y : Str, Env.kindOf c'.env y = List.lookup y _ := fun y => by rw [he]; rfl
  have hcl := cnt_le sts o
  unfold movedL at hP
  dsimp only at hP
  have hst := fun x h => stL_ok hk x h
  refine wsg_ok hk hst 1 (Leaf.mk (WE_below (o := o) (ns := sts) rfl rfl (by rw [he]; rfl) (Seen.cons rfl (by rw [he]; rfl) (by rw [he]; rfl) (by rw [he]; rfl) Seen.nil) (by decide) (we_ok hk ⟨rfl, by (first | lia | omega), Leaf.mk (c_lenI (by show cnt sts o ≤ _; (first | lia | omega)) (Leaf.mk ?_))⟩)))
  refine Ws.has [(S "_law_at", .int ((cnt sts o : Int) - 1)), (S "_law_lines", .list lines), (S "_law_starts", .list (sts.map .int)), (S "_law_offset", .int o), (S "_law_many", .int m), (S "_law_size", .int size)] ?_ ⟨rfl, rfl, rfl, rfl, rfl, rfl, trivial⟩
  generalize cnt sts o = n at *
  refine ws_ok hk hst (And.intro (fun hb => ?_) fun hb => ?_)
  · rw [if_pos hb] at hP
    exact Leaf.mk (c_max (Leaf.mk (item_I (by split <;> (first | lia | omega)) (by split <;> (first | lia | omega)) (by (first | lia | omega)) (Leaf.mk (c_min hP)))))
  · rw [if_neg hb] at hP
    refine Leaf.mk (c_lenL (by (first | lia | omega)) (And.intro (fun hb2 => ?_) fun hb2 => And.intro (fun hb3 => ?_) fun hb3 => ?_))
    · rw [if_pos hb2] at hP
      exact Leaf.mk (item_I (by (first | lia | omega)) (by (first | lia | omega)) (by (first | lia | omega)) hP)
    · rw [if_neg hb2, if_pos hb3] at hP
      refine Leaf.mk (item_Lneg (by decide) (by rw [List.length_map]; (first | lia | omega)) (by decide) (x := .int (sts.getD (sts.length - 1) 0)) ?_ (Leaf.mk (c_int hP)))
      rw [List.length_map, show ((-1 : Int) + (sts.length : Int)).toNat = sts.length - 1 from by (first | lia | omega), List.getElem?_map, getD_get (by (first | lia | omega))]; rfl
    · rw [if_neg hb2, if_neg hb3] at hP
      exact Leaf.mk (c_int hP)
theorem deck_spec {a : Addr} {vs : List Value} {ns : List Int} {P : List Int → Prop} (hDn : c.D = none) (hL : c.g.hb.IsList a vs.toArray) (hI : IntsAre vs ns) (hn : ns.length ≤ 63) (hP : ∀ d, DkOk d → P d) : CallN c (k + 3) (.ref 161) [.raw (.ref a)] dk P := by
  refine call_defN (names := [S "script"]) (fun _ => rfl) rfl rfl (fun _ => rfl) (by decide) rfl (bind1 fun _ => rfl) hDn fun c' hg hD hk he => ?_
  rw [← hg] at hL
  have wsl : ∀ (ρ : Rho) (q1 q2 q3 q4 : Pos) (kk : Nat) (P : V → List Int → Prop), ρ.lookup (S "script") = some (.raw (.ref a)) → P (.list ((ns.take 24).map .int)) dk → WE c' (k + 2) (.Subscript (.Name "script" q1) (.Slice none (some (.Constant (.int 24) kk q2)) none q3) q4) ρ dk P := fun ρ q1 q2 q3 q4 kk P hρ hP =>
    WE_sliceB hL hI (by (first | lia | omega)) (WE_var hρ ⟨rfl, WE_int ⟨24, rfl, (by decide : (0 : Int) ≤ 24), by show P (.list ((ns.map V.int).take 24)) dk; rw [← List.map_take]; exact hP⟩⟩)
  have hcell : ∀ {i : Nat} {y : V}, ((ns.take 24).map V.int)[i]? = some y → ∃ x, y = .int x := fun hy => ⟨_, (int_at hy).2⟩
  have hpos : ∀ x : Int, 0 ≤ x.fmod 2147483647 ∧ 0 ≤ x.fmod (10 ^ 60) := fun x => ⟨Int.fmod_nonneg_of_pos _ (by decide), Int.fmod_nonneg_of_pos _ (by decide)⟩
  refine Wsn_cons (WX_let (stL_ok hk _ rfl) (WE_int ⟨rfl, rfl, Wsn_cons ?_⟩) rfl)
  refine (for_ok hk rfl (fun _ => rfl) (wsl _ _ _ _ _ _ _ rfl ?_)).out
  refine ⟨_, .list _, fun i L d => d = dk ∧ ∃ m : Int, 0 ≤ m ∧ L = [(S "script", .raw (.ref a)), (S "_law_mixed", .int m)], [(S "script", .raw (.ref a)), (S "_law_mixed", .int 7)], ⟨rfl, rfl, trivial⟩, ⟨rfl, 7, by decide, rfl⟩, ?_, ?_⟩
  · rintro i L d y hy ⟨rfl, m, hm, rfl⟩
    obtain ⟨x, rfl⟩ := hcell hy
    refine ws_ok hk (stL_ok hk) (Leaf.mk (op_mul (.of_right (by decide)) (Leaf.mk (c_abs (Leaf.mk (op_pow (by decide) (by decide) (And.intro (by decide) (And.intro (by decide) ?_))))))))
    exact Exists.intro [(S "script", .raw (.ref a)), (S "_law_mixed", .int _)] ⟨⟨rfl, rfl, trivial⟩, rfl, _, (hpos _).1, rfl⟩
  · rintro L d ⟨rfl, m, hm, rfl⟩
    refine ⟨rfl, rfl, Wsn_ret (new_cat (WE_comp rfl rfl (clOK_of rfl) (wsl _ _ _ _ _ _ _ rfl ?_) (fun _ => rfl)))⟩
    refine ⟨_, .list _, by rw [List.length_map, List.length_take]; (first | lia | omega), CompAsk.mk rfl [] (fun i acc d' => d' = d ∧ ∃ zs : List Int, acc = zs.map .int ∧ zs.length ≤ i ∧ ∀ z ∈ zs, 0 ≤ z) Seen.nil rfl ⟨rfl, [], rfl, Nat.le_refl _, fun z hz => by cases hz⟩ ?_ ?_⟩
    · rintro c2 hg2 hD2 hk2 i acc d' y hy ⟨rfl, zs, rfl, hzl, hz⟩
      obtain ⟨x, rfl⟩ := hcell hy
      refine wt_ok hk2 (Leaf.mk (c_abs (Leaf.mk (op_pow (by decide) (by decide) (And.intro (fun _ => we_ok hk2 (Leaf.mk (c_abs (Leaf.mk (op_pow (by decide) (by decide) (And.intro (by decide) ⟨rfl, zs ++ [_], by rw [List.map_append]; rfl, by rw [List.length_append]; exact Nat.succ_le_succ hzl, fun z hz' => ?_⟩)))))) fun _ => ⟨rfl, zs, rfl, Nat.le_succ_of_le hzl, hz⟩)))))
      rcases List.mem_append.mp hz' with q | q
      · exact hz z q
      · rw [List.mem_singleton.mp q]; exact (hpos _).2
    · rintro acc d' ⟨rfl, zs, rfl, hzl, hz⟩
      rw [List.length_map, List.length_take] at hzl
      refine ⟨zs, rfl, we_ok hk (Exists.intro [m] ⟨rfl, rfl, by show _ + 1 ≤ _; (first | lia | omega), hP _ ⟨by rw [List.length_append]; exact Nat.le_add_left _ _, by rw [List.length_append]; show _ + 1 ≤ _; (first | lia | omega), fun z hz' => ?_⟩⟩)⟩
      rcases List.mem_append.mp hz' with q | q
      · exact hz z q
      · rw [List.mem_singleton.mp q]; exact hm
end

-- R5
/-- law's names -/
noncomputable abbrev kdL : Str → Option NameKind := fun x => lawScope.names.lookup x
noncomputable def stLaw (x : Str) : Bool := match kdL x with
  | some .local => true
  | some .cell => true
  | _ => false
theorem lookup_memK {x : Str} {v : NameKind} : ∀ {l : List (Str × NameKind)}, l.lookup x = some v → (x, v) ∈ l
  | [], h => by cases h
  | (y, b) :: r, h => by
    cases q : x == y with
    | true =>
      have : x = y := by simpa using q
      subst this
      simp [List.lookup] at h; subst h; exact .head _
    | false => simp only [List.lookup, q] at h; exact .tail _ (lookup_memK h)
theorem law_cells : (lawScope.names.all fun y => y.2 != .cell || [Str.ofString "_law_wanted", Str.ofString "_law_own", Str.ofString "_law_other", Str.ofString "_law_offset", Str.ofString "_law_lines"].contains y.1) = true := by rfl
theorem LawC.hst {c : Fc} {L : Addr} (h : LawC c L) (x : Str) (hx : stLaw x = true) : Storable c x := by
  unfold stLaw at hx
  split at hx
  · rename_i e; exact .inl ((h.hk x).trans e)
  · rename_i e
    have := List.all_eq_true.mp law_cells _ (lookup_memK e)
    exact h.sto (by simpa using this)
  · cases hx
theorem LawC.hall {c : Fc} {L : Addr} (h : LawC c L) {names : List Str} (hn : names.all stLaw = true) : ∀ x ∈ names, Storable c x := fun x hx => h.hst x (List.all_eq_true.mp hn x hx)

section
variable {c : Fc} {k : Nat} {ρ : Rho} {dk : List Int} {P : V → List Int → Prop}
/-- the signs of a list of codes, for join -/
theorem WE_chrs {x : Str} {p1 p2 p3 p4 px : Pos} {iter : Expr} {scope : Scope} (hkind : scope.kind = .function) (hok : compOK scope x = true) (hcl : clOK c.env scope = true)
    (hch : (relabel scope c.env).names.lookup (Str.ofString "chr") = some .globalImplicit) (hdb : (x == ("__debug__" : Str)) = false)
    (h : WE c k iter ρ dk fun v d => ∃ cs : List Int, v = .list (cs.map .int) ∧ (∀ x ∈ cs, 0 ≤ x ∧ x ≤ 1114111) ∧ cs.length ≤ 60000 ∧ P (.str (cs.map Int.toNat)) d)
    (hf : ∀ x, foldedSetIterable iter c.env x = pure x := by intro _; rfl) :
    WE c k (.ListComp (.Call (.Name (Str.ofString "chr") p1) [.Name x p2] [] p3) [⟨.Name x px, iter, [], 0⟩] scope p4) ρ dk fun u d => CallW c k (.builtin "str.join") [.str [], u] d P := by
  refine WE_comp hkind hok (clOK_of hcl) (h.mono ?_) hf
  rintro v d ⟨cs, rfl, hc, hn, hP⟩
  refine ⟨_, .list _, by rw [List.length_map]; (first | lia | omega), CompAsk.mk rfl [] (fun i acc d' => d' = d ∧ acc = ((cs.take i).map fun x => [x.toNat]).map V.str) Seen.nil rfl ⟨rfl, rfl⟩ ?_ ?_⟩
  · rintro c' hg hD hk i acc d' z hz ⟨rfl, rfl⟩
    have hi : i < cs.length := by
      rcases Nat.lt_or_ge i cs.length with q | q
      · exact q
      · rw [List.getElem?_eq_none (by simpa using q)] at hz; cases hz
    have hz' : z = .int (cs.getD i 0) := by
      rw [List.getElem?_map, getD_get hi] at hz
      cases hz; rfl
    subst hz'
    have hm : cs.getD i 0 ∈ cs := by
      have := List.getElem_mem hi
      simpa [List.getD, hi] using this
    refine ⟨fun _ => ?_, fun q => absurd q.symm Bool.false_ne_true⟩
    refine cl_chr ((hk _).trans hch) (WA_cons (WE_var Rho.set_self (WA_nil (c_chr (hc _ hm).1 (hc _ hm).2 ⟨rfl, ?_⟩)) hdb))
    rw [take_snoc hi, List.map_append, List.map_append]; rfl
  · rintro acc d' ⟨rfl, rfl⟩
    rw [List.length_map, List.take_length]
    have key : ∀ l : List Int, (l.map fun x => [x.toNat]).flatten = l.map Int.toNat ∧ ((l.map fun x => [x.toNat]).map List.length).sum = l.length := by
      intro l
      induction l with
      | nil => exact ⟨rfl, rfl⟩
      | cons a r ih =>
        refine ⟨?_, ?_⟩
        · rw [List.map_cons, List.flatten_cons, ih.1]; rfl
        · rw [List.map_cons, List.map_cons, List.sum_cons, ih.2, List.length_cons, Nat.add_comm]; rfl
    refine c_join (by rw [(key cs).2]; (first | lia | omega)) ?_
    rw [(key cs).1]; exact hP
end

-- L1
def lsOf (cs : List Int) : List (List Nat) := parts (cs.map Int.toNat)
/-- where the lines begin -/
def stOf (Ls : List (List Nat)) (i : Nat) : Int := ((Ls.take i).map fun l => (l.length : Int) + 1).sum
def stsOf (Ls : List (List Nat)) : List Int := (List.range Ls.length).map (stOf Ls)
abbrev linesV (Ls : List (List Nat)) : V := .list (Ls.map .str)
theorem sum_small {Ls : List (List Nat)} (hl : ∀ l ∈ Ls, l.length ≤ 100) : 0 ≤ (Ls.map fun l => (l.length : Int) + 1).sum ∧ (Ls.map fun l => (l.length : Int) + 1).sum ≤ 101 * Ls.length := by
  induction Ls with
  | nil => exact ⟨Int.le_refl _, Int.le_refl _⟩
  | cons a r ih =>
    have := ih fun l hm => hl l (.tail _ hm)
    have h2 := hl a (.head _)
    rw [List.map_cons, List.sum_cons, List.length_cons]; (first | lia | omega)
section
variable {c : Fc} {k : Nat} {L : Addr} {ρ : Rho} {dk : List Int} {P : Fl → Rho → List Int → Prop}
theorem seg3 (hC : LawC c L) {Ls : List (List Nat)} (hlen : Ls.length ≤ 100) (hl : ∀ l ∈ Ls, l.length ≤ 100)
    (h : WS c k (turnB.drop 4) ((S "_law_starts", .list ((stsOf Ls).map .int)) :: (S "_law_lines", linesV Ls) :: ρ) dk P) : WS c k (turnB.drop 3) ((S "_law_lines", linesV Ls) :: ρ) dk P := by
  obtain ⟨fa, cd, he⟩ := hC.he
  have hkL := hC.hk
  refine WS_cons (WX_compSet rfl rfl (clOK_of (by rw [he]; rfl)) (by rw [he]; rfl) ((hkL _).trans rfl) ?_)
  refine we_ok hkL (Leaf.mk (c_lenL (by rw [List.length_map]; (first | lia | omega)) (Leaf.mk (c_range1 ?_))))
  rw [List.length_map]
  refine ⟨_, .rng _ _ (by decide) (by decide) (by (first | lia | omega)) (by (first | lia | omega)), by rw [rangeL_len]; (first | lia | omega), CompAsk.mk (by rw [he]) [(S "_law_lines", linesV Ls)] (fun i acc d => d = dk ∧ acc = ((List.range i).map (stOf Ls)).map .int)
    (Seen.cons lk_hd (by rw [he]; rfl) (by rw [he]; rfl) (by rw [he]; rfl) Seen.nil) rfl ⟨rfl, rfl⟩ ?_ ?_⟩
  · rintro c2 hg2 hD2 hk2 i acc d2 y hy ⟨rfl, rfl⟩
    rw [rangeL_get] at hy
    by_cases hi : i < ((Ls.length : Int) - 0).toNat
    · rw [if_pos hi] at hy; cases hy
      refine ⟨fun _ => ?_, fun q => absurd q.symm Bool.false_ne_true⟩
      refine we_ok hk2 (Leaf.mk ?_)
      refine WE_comp rfl rfl (clOK_of rfl) ?_ (fun _ => rfl)
      refine WE_slice (we_ok hk2 (Exists.intro _ ⟨rfl, by rw [List.length_map]; (first | lia | omega), we_ok hk2 (Exists.intro _ ⟨rfl, by show (0 : Int) ≤ 0 + (i : Int); (first | lia | omega), ?_⟩)⟩))
      have hti : ((0 : Int) + (i : Int)).toNat = i := by (first | lia | omega)
      have hle : (Ls.take i).length ≤ 100 := by rw [List.length_take]; (first | lia | omega)
      refine ⟨_, .list _, by show ((Ls.map V.str).take _).length ≤ _; rw [← List.map_take, List.length_map, hti]; (first | lia | omega), CompAsk.mk rfl [] (fun j acc d => d = d2 ∧ acc = (((Ls.take i).take j).map fun l => (l.length : Int) + 1).map .int) Seen.nil rfl ⟨rfl, rfl⟩ ?_ ?_⟩
      · rintro c3 hg3 hD3 hk3 j acc d3 y hy ⟨rfl, rfl⟩
        have hy : ((Ls.map V.str).take ((0 : Int) + (i : Int)).toNat)[j]? = some y := hy
        rw [← List.map_take, hti, List.getElem?_map] at hy
        cases e : (Ls.take i)[j]? with
        | none => rw [e] at hy; cases hy
        | some l =>
          rw [e] at hy; cases hy
          have hm := hl l (List.mem_of_mem_take (List.mem_of_getElem? e))
          refine ⟨fun _ => we_ok hk3 (Leaf.mk (c_lenS (by (first | lia | omega)) ⟨rfl, ?_⟩)), fun q => absurd q.symm Bool.false_ne_true⟩
          rw [List.take_add_one, e, List.map_append, List.map_append]; rfl
      · rintro acc d ⟨rfl, rfl⟩
        have e : ((Ls.take i).take (cutL (Ls.map V.str) none (some ((0 : Int) + (i : Int)))).length) = Ls.take i := by
          show (Ls.take i).take ((Ls.map V.str).take _).length = _
          rw [← List.map_take, List.length_map, hti, List.take_length]
        rw [e]
        have hs := sum_small (Ls := Ls.take i) fun l hm => hl l (List.mem_of_mem_take hm)
        refine Leaf.mk (c_sum (fun n hn => ?_) (by (first | lia | omega)) (by rw [List.length_map]; (first | lia | omega)) ⟨rfl, ?_⟩)
        · obtain ⟨l, _, rfl⟩ := List.mem_map.mp hn; (first | lia | omega)
        · rw [List.range_succ, List.map_append, List.map_append]; rfl
    · rw [if_neg hi] at hy; cases hy
  · rintro acc d ⟨rfl, rfl⟩
    refine Ws.weak ?_ set_cons_lookup
    rw [rangeL_len, show ((Ls.length : Int) - 0).toNat = Ls.length from by (first | lia | omega)]
    exact h
end

-- L2
section
variable {c : Fc} {k : Nat} {L : Addr} {ρ : Rho} {dk : List Int} {P : Fl → Rho → List Int → Prop} {D : Addr}
structure CsOk (cs : List Int) : Prop where
  code : ∀ x ∈ cs, 0 ≤ x ∧ x ≤ 1114111
  pos : 0 < cs.length
  len : cs.length ≤ 13
abbrev ctxA (D : Addr) (cs : List Int) (f w : Int) : Rho := [(S "_law_lines", linesV (lsOf cs)), (S "_law_view", vw cs f), (S "_law_width", .int w), (S "_law_first", .int f), (S "_law_codes", .list (cs.map .int)), (S "_law_deck", .raw (.ref D))]
theorem seg0 (hC : LawC c L) (hD : c.D = some D) (hd : DkOk dk)
    (next : ∀ cs f w d, CsOk cs → 1 ≤ f → f ≤ 4 → 1 ≤ w → w ≤ 9 → DkOk d → WS c (k + 9) (turnB.drop 3) (ctxA D cs f w) d P) : WS c (k + 9) turnB [(S "_law_deck", .raw (.ref D))] dk P := by
  obtain ⟨fa, cd, he⟩ := hC.he
  have hkL := hC.hk
  refine wsg_ok hkL hC.hst 1 (Leaf.mk (some_codes_spec hD hd (by decide) (by decide) (by decide) (by decide) fun ns d1 hns hnl hd1 => And.intro ?_ (Leaf.mk ?_)))
  · simp [natsV]; (first | lia | omega)
  have hcs : CsOk (ns.map Int.ofNat ++ [97]) := by
    refine ⟨fun x hx => ?_, by simp, by simp; (first | lia | omega)⟩
    rcases List.mem_append.mp hx with q | q
    · obtain ⟨a, ha, rfl⟩ := List.mem_map.mp q
      have : ∀ a ∈ (Str.ofString "ab\n\n\t\x01\x85").cps.toList, a ≤ 1000 := by decide
      have := this a (hns a ha)
      exact ⟨Int.natCast_nonneg a, by show (a : Int) ≤ _; (first | lia | omega)⟩
    · rw [List.mem_singleton.mp q]; decide
  generalize hcsE : ns.map Int.ofNat ++ [97] = cs at hcs
  refine Ws.has [(S "_law_codes", .list (cs.map .int)), (S "_law_deck", .raw (.ref D))] ?_ ⟨by rw [← hcsE, List.map_append]; rfl, rfl, trivial⟩
  refine WS_cons (WX_letS (names := [S "_law_text", S "_law_first", S "_law_width"]) (wasF_ok' (fun _ _ _ _ => we_ok hkL) rfl ?_) (hC.hall rfl) rfl (by rw [he]; rfl))
  refine Leaf.mk ?_
  refine' WE_join ?_ ?hn ?he
  case hn => intro _ _; rfl
  case he => rfl
  refine WE_str ⟨[], rfl, WE_chrs rfl rfl (by rw [he]; rfl) (by rw [he]; rfl) (by decide) (we_ok hkL (Exists.intro cs ⟨rfl, hcs.code, by have := hcs.len; (first | lia | omega), ?_⟩))⟩
  refine Leaf.mk (draw_spec hD hd1 (by decide) (by decide) fun v1 d2 h1 h2 hd2 => Leaf.mk (draw_spec hD hd2 (by decide) (by decide) fun v2 d3 h3 h4 hd3 => ⟨Nat.le_of_ble_eq_true rfl, rfl, ?_⟩))
  refine Ws.has [(S "_law_text", .str (cs.map Int.toNat)), (S "_law_width", .int (1 + v2)), (S "_law_first", .int (1 + v1)), (S "_law_codes", .list (cs.map .int)), (S "_law_deck", .raw (.ref D))] ?_ ⟨rfl, rfl, rfl, rfl, rfl, trivial⟩
  refine WS_cons (WX_letT (xs := [S "_law_view", S "_law_lines"]) (we_ok hkL ?_) (hC.hall rfl) ⟨[_, _], rfl, rfl⟩ rfl (by rw [he]; rfl))
  refine Leaf.mk (c_row2 (by rw [List.length_map]; have := hcs.len; (first | lia | omega)) (Leaf.mk ?_))
  refine' WE_split ?_ ?hn ?he
  case hn => intro _ _; rfl
  case he => rfl
  refine WE_var rfl ⟨_, rfl, WE_str (c_split (by rw [List.length_map]; have := hcs.len; (first | lia | omega)) (Exists.intro _ ⟨rfl, rfl, ?_⟩))⟩
  exact Ws.has (ctxA D cs (1 + v1) (1 + v2)) (next cs _ _ _ hcs (by (first | lia | omega)) (by (first | lia | omega)) (by (first | lia | omega)) (by (first | lia | omega)) hd3) ⟨rfl, rfl, rfl, rfl, rfl, rfl, trivial⟩
end

-- L3
/-- the offset o lies in the line i -/
structure Lay (cs : List Int) (o i : Nat) : Prop where
  hi : i < (lsOf cs).length
  cnt : cnt (stsOf (lsOf cs)) o = i + 1
  ls : stOf (lsOf cs) i = lsN cs o
  line : ((lsOf cs).getD i []).map Int.ofNat = lineN cs o
theorem stsOf_get {Ls : List (List Nat)} {i : Nat} (h : i < Ls.length) : (stsOf Ls).getD i 0 = stOf Ls i := by
  simp [stsOf, List.getD, h]
theorem stsOf_len {Ls : List (List Nat)} : (stsOf Ls).length = Ls.length := by simp [stsOf]
theorem getS {Ls : List (List Nat)} {i : Nat} (h : i < Ls.length) : (Ls.map V.str)[i]? = some (.str (Ls.getD i [])) := by
  simp [List.getD, h]
theorem Lay.len {cs : List Int} {o i : Nat} (h : Lay cs o i) : ((lsOf cs).getD i []).length = (lineN cs o).length := by
  rw [← h.line, List.length_map]
section
variable {c : Fc} {k : Nat} {L : Addr} {ρ : Rho} {dk : List Int} {P : Fl → Rho → List Int → Prop} {D : Addr} {cs : List Int} {f w : Int}
abbrev ctxB (D : Addr) (cs : List Int) (f w : Int) (o : Nat) (m : Int) (i : Nat) : Rho :=
  (S "_law_last", .int (leN cs o)) :: (S "_law_begin", .int (lsN cs o)) :: (S "_law_place", .int (f + o)) :: (S "_law_at", .int i) :: (S "_law_many", .int m) :: (S "_law_offset", .int o) :: (S "_law_starts", .list ((stsOf (lsOf cs)).map .int)) :: ctxA D cs f w
/-- what the walk asks of the plain law here -/
structure Asks (cs : List Int) : Prop where
  few : (lsOf cs).length ≤ 100
  short : ∀ l ∈ lsOf cs, l.length ≤ 100
  lay : ∀ o, o ≤ cs.length → ∃ i, Lay cs o i
theorem seg4 (hC : LawC c L) (hD : c.D = some D) (hd : DkOk dk) (hcs : CsOk cs) (ha : Asks cs)
    (next : ∀ (o : Nat) (m : Int) i d, o ≤ cs.length → -4 ≤ m → m ≤ 4 → Lay cs o i → DkOk d → WS c (k + 9) (turnB.drop 7) (ctxB D cs f w o m i) d P) : WS c (k + 9) (turnB.drop 4) ((S "_law_starts", .list ((stsOf (lsOf cs)).map .int)) :: ctxA D cs f w) dk P := by
  obtain ⟨fa, cd, he⟩ := hC.he
  have hkL := hC.hk
  have hlen := hcs.len
  refine WS_cons (WX_letT (xs := [S "_law_offset", S "_law_many"]) (we_ok hkL ?_) (hC.hall rfl) ⟨[_, _], rfl, rfl⟩ rfl (by rw [he]; rfl))
  refine Leaf.mk (c_lenI (by (first | lia | omega)) (Leaf.mk (draw_spec hD hd (by (first | lia | omega)) (by (first | lia | omega)) fun v1 d2 h1 h2 hd2 => Leaf.mk (draw_spec hD hd2 (by decide) (by decide) fun v2 d3 h3 h4 hd3 => Exists.intro _ ⟨rfl, rfl, ?_⟩))))
  obtain ⟨o, rfl⟩ := Int.eq_ofNat_of_zero_le h1
  have ho : o ≤ cs.length := by (first | lia | omega)
  obtain ⟨i, hl⟩ := ha.lay o ho
  refine Ws.has ((S "_law_many", .int (v2 - 4)) :: (S "_law_offset", .int o) :: (S "_law_starts", .list ((stsOf (lsOf cs)).map .int)) :: ctxA D cs f w) ?_ ⟨rfl, rfl, rfl, rfl, rfl, rfl, rfl, rfl, rfl, trivial⟩
  have hi := hl.hi
  have hw := ha.few
  refine wsg_ok hkL hC.hst 1 (Leaf.mk (WE_below (o := o) (ns := stsOf (lsOf cs)) rfl rfl (by rw [he]; rfl) (Seen.cons rfl (by rw [he]; rfl) (by rw [he]; rfl) (by rw [he]; rfl) Seen.nil) (by decide) (we_ok hkL ⟨rfl, by rw [stsOf_len]; (first | lia | omega), Leaf.mk (c_lenI (by show cnt _ _ ≤ _; rw [hl.cnt]; (first | lia | omega)) ?_)⟩)))
  rw [show ((List.filter (fun b => decide (b ≤ (o : Int))) (stsOf (lsOf cs))).length) = cnt (stsOf (lsOf cs)) o from rfl, hl.cnt]
  refine Leaf.mk (Ws.has ((S "_law_at", .int i) :: (S "_law_many", .int (v2 - 4)) :: (S "_law_offset", .int o) :: (S "_law_starts", .list ((stsOf (lsOf cs)).map .int)) :: ctxA D cs f w) ?_ ⟨vi (by (first | lia | omega)), rfl, rfl, rfl, rfl, rfl, rfl, rfl, rfl, rfl, trivial⟩)
  refine WS_cons (WX_letS (names := [S "_law_place", S "_law_begin", S "_law_last"]) (wasF_ok' (fun _ _ _ _ => we_ok hkL) rfl ?_) (hC.hall rfl) rfl (by rw [he]; rfl))
  have hi2 : (i : Int) < (stsOf (lsOf cs)).length := by rw [stsOf_len]; (first | lia | omega)
  have hi3 : (stsOf (lsOf cs)).length ≤ 100000 := by rw [stsOf_len]; (first | lia | omega)
  refine Leaf.mk (item_I (Int.natCast_nonneg i) hi2 hi3 (Leaf.mk (item_I (Int.natCast_nonneg i) hi2 hi3 (Leaf.mk (item_L (Int.natCast_nonneg i) (by (first | lia | omega)) (getS hi) (Leaf.mk (c_lenS ?_ ⟨Nat.le_of_ble_eq_true rfl, rfl, ?_⟩)))))))
  · have := ha.short _ (List.getElem_mem hi)
    simp only [Int.toNat_natCast, List.getD, List.getElem?_eq_getElem hi, Option.getD_some]; (first | lia | omega)
  have hn := lineN_len cs ho
  have e1 : (stsOf (lsOf cs)).getD (Int.toNat i) 0 = lsN cs o := by rw [Int.toNat_natCast, stsOf_get hi, hl.ls]
  refine Ws.has (ctxB D cs f w o (v2 - 4) i) (next o _ i _ ho (by (first | lia | omega)) (by (first | lia | omega)) hl hd3) ⟨vi ?_, vi e1, rfl, rfl, rfl, rfl, rfl, rfl, rfl, rfl, rfl, rfl, rfl, trivial⟩
  rw [e1, Int.toNat_natCast, hl.len]
  (first | lia | omega)
end

-- L4
structure Asks2 (cs : List Int) : Prop extends Asks cs where
  moved : ∀ (o : Nat) m, o ≤ cs.length → movedL (lsOf cs).length (stsOf (lsOf cs)) o m cs.length = (((tgt cs o m).1 : Int), (tgt cs o m).2)
  nx1 : ∀ o i, o ≤ cs.length → Lay cs o i → i + 1 < (lsOf cs).length → stOf (lsOf cs) (i + 1) = leN cs o + 1 ∧ leN cs o < cs.length
  nx2 : ∀ o i, o ≤ cs.length → Lay cs o i → ¬ i + 1 < (lsOf cs).length → ¬ leN cs o < cs.length
section
variable {c : Fc} {k : Nat} {L : Addr} {ρ : Rho} {dk : List Int} {P : Fl → Rho → List Int → Prop} {D : Addr} {cs : List Int} {f w : Int} {T F : List Int → Prop}
theorem same_T {xs ys : List Int} (h : xs = ys) (hF : F dk) : Op2 c (k + 4) (compareOp .NotEq) (.tup (xs.map .int)) (.tup (ys.map .int)) dk fun z d' => ∃ b, z = .bool b ∧ (b = true → T d') ∧ (b = false → F d') :=
  op_neT ⟨_, rfl, fun q => absurd q (by simp [h]), fun _ => hF⟩
theorem same_L {xs ys : List Int} (h : xs = ys) (hF : F dk) : Op2 c (k + 4) (compareOp .NotEq) (.list (xs.map .int)) (.list (ys.map .int)) dk fun z d' => ∃ b, z = .bool b ∧ (b = true → T d') ∧ (b = false → F d') :=
  op_neL ⟨_, rfl, fun q => absurd q (by simp [h]), fun _ => hF⟩
theorem same_I {x y : Int} {A B : Prop} (h : x = y) (hF : B) : (¬ x = y → A) ∧ (x = y → B) := ⟨fun q => absurd h q, fun _ => hF⟩
theorem seg7 (hC : LawC c L) (hcs : CsOk cs) (ha : Asks2 cs) {o i : Nat} {m : Int} (hf : 0 ≤ f) (ho : o ≤ cs.length) (hl : Lay cs o i)
    (next : WS c (k + 9) (turnB.drop 11) (ctxB D cs f w o m i) dk P) : WS c (k + 9) (turnB.drop 7) (ctxB D cs f w o m i) dk P := by
  obtain ⟨fa, cd, he⟩ := hC.he
  have hkL := hC.hk
  have hx : cs.length ≤ 100000 := Nat.le_trans hcs.len (by decide)
  have hx2 : (cs.map Int.toNat).length ≤ 1000 := by rw [List.length_map]; exact Nat.le_trans hcs.len (by decide)
  have hfew := ha.few
  have hi := hl.hi
  refine WS_cons (WX_letT (xs := [S "_law_target", S "_law_lacking"]) (we_ok hkL (Leaf.mk (c_lenI hx (Leaf.mk (moved_spec (by rw [List.length_map]; (first | lia | omega)) (by rw [stsOf_len, List.length_map]) (by rw [hl.cnt]; (first | lia | omega)) ?_))))) (hC.hall rfl) ⟨[_, _], rfl, rfl⟩ rfl (by rw [he]; rfl))
  rw [List.length_map, ha.moved o m ho]
  refine Exists.intro _ ⟨rfl, rfl, ?_⟩
  refine wsg_ok hkL hC.hst 3 ?_
  refine Leaf.mk (lines_target_spec hf hx ho rfl (Leaf.mk (same_T (ys := [f + ((tgt cs o m).1 : Int), (tgt cs o m).2]) rfl ?_)))
  refine Leaf.mk (line_start_spec hx ho rfl (Leaf.mk (line_end_spec hx ho rfl (Leaf.mk (same_L (xs := [f + (lsN cs o : Int), f + (leN cs o : Int)]) (ys := [f + (lsN cs o : Int), f + (leN cs o : Int)]) rfl ?_)))))
  refine Leaf.mk (next_start_spec hx ho rfl (Leaf.mk (c_lenL (by rw [List.length_map]; (first | lia | omega)) ?_)))
  rw [List.length_map]
  have fin : WS c (k + 9) (turnB.drop 11) ((S "_law_lacking", .int (tgt cs o m).2) :: (S "_law_target", .int (tgt cs o m).1) :: ctxB D cs f w o m i) dk P := Ws.has (ctxB D cs f w o m i) next ⟨rfl, rfl, rfl, rfl, rfl, rfl, rfl, rfl, rfl, rfl, rfl, rfl, rfl, trivial⟩
  refine And.intro (fun hb => ?_) fun hb => ?_
  · have hb : i + 1 < (lsOf cs).length := by (first | lia | omega)
    obtain ⟨e1, e2⟩ := ha.nx1 o i ho hl hb
    refine Leaf.mk (item_I (by (first | lia | omega)) (by rw [stsOf_len]; (first | lia | omega)) (by rw [stsOf_len]; (first | lia | omega)) (same_I ?_ (Leaf.mk fin)))
    rw [if_pos e2, show ((i : Int) + 1).toNat = i + 1 from by (first | lia | omega), stsOf_get hb, e1]; (first | lia | omega)
  · have e2 := ha.nx2 o i ho hl (by (first | lia | omega))
    exact same_I (if_neg e2) (Leaf.mk fin)
end

-- L5
section
variable {c : Fc} {k : Nat} {L : Addr} {ρ : Rho} {dk : List Int} {P : Fl → Rho → List Int → Prop} {D : Addr} {cs : List Int} {f w : Int}
theorem seg11 (hC : LawC c L) (hcs : CsOk cs) (ha : Asks2 cs) {o i : Nat} {m : Int} (hf : 0 ≤ f) (ho : o ≤ cs.length) (hl : Lay cs o i)
    (next : WS c (k + 9) (turnB.drop 15) (ctxB D cs f w o m i) dk P) : WS c (k + 9) (turnB.drop 11) (ctxB D cs f w o m i) dk P := by
  obtain ⟨fa, cd, he⟩ := hC.he
  have hkL := hC.hk
  have hx : cs.length ≤ 100000 := Nat.le_trans hcs.len (by decide)
  have hfew := ha.few
  have hi := hl.hi
  refine wsg_ok hkL hC.hst 1 (Leaf.mk (c_lenI hx (Leaf.mk (moved_spec (by rw [List.length_map]; (first | lia | omega)) (by rw [stsOf_len, List.length_map]) (by rw [hl.cnt]; (first | lia | omega)) ?_))))
  rw [List.length_map, ha.moved o (m - 1) ho]
  have ho2 := tgt_le cs (m - 1) ho
  generalize ht : (tgt cs o (m - 1)).1 = o2 at ho2
  obtain ⟨i2, hl2⟩ := ha.lay o2 ho2
  have hi2 := hl2.hi
  have hi2' : (i2 : Int) < (stsOf (lsOf cs)).length := by rw [stsOf_len]; (first | lia | omega)
  have hi3 : (stsOf (lsOf cs)).length ≤ 100000 := by rw [stsOf_len]; (first | lia | omega)
  refine Leaf.mk (item_T (by decide) (by show (0 : Int) < ((2 : Nat) : Int); decide) (by decide) rfl (Leaf.mk ?_))
  refine wsg_ok hkL hC.hst 1 (Leaf.mk (WE_below (o := o2) (ns := stsOf (lsOf cs)) rfl rfl (by rw [he]; rfl) (Seen.cons rfl (by rw [he]; rfl) (by rw [he]; rfl) (by rw [he]; rfl) Seen.nil) (by decide) (we_ok hkL ⟨rfl, hi3, Leaf.mk (c_lenI (by show cnt _ _ ≤ _; rw [hl2.cnt]; (first | lia | omega)) ?_)⟩)))
  rw [show ((List.filter (fun b => decide (b ≤ (o2 : Int))) (stsOf (lsOf cs))).length) = cnt (stsOf (lsOf cs)) o2 from rfl, hl2.cnt]
  refine Leaf.mk (Ws.has ((S "_law_mate", .int i2) :: (S "_law_other", .int o2) :: ctxB D cs f w o m i) ?_ ⟨vi (by (first | lia | omega)), rfl, rfl, rfl, rfl, rfl, rfl, rfl, rfl, rfl, rfl, rfl, rfl, rfl, rfl, trivial⟩)
  refine wsg_ok hkL hC.hst 2 ?_
  refine Leaf.mk (beginning_spec hf hx ho rfl (same_I (by rw [ht]) ?_))
  refine Leaf.mk (ending_spec hf hx ho rfl (Leaf.mk (item_I (Int.natCast_nonneg i2) hi2' hi3 (Leaf.mk (item_L (Int.natCast_nonneg i2) (by (first | lia | omega)) (getS hi2) (Leaf.mk (c_lenS ?_ (same_I ?_ (Leaf.mk (Ws.has (ctxB D cs f w o m i) next ⟨rfl, rfl, rfl, rfl, rfl, rfl, rfl, rfl, rfl, rfl, rfl, rfl, rfl, trivial⟩))))))))))
  · have := ha.short _ (List.getElem_mem hi2)
    simp only [Int.toNat_natCast, List.getD, List.getElem?_eq_getElem hi2, Option.getD_some]; (first | lia | omega)
  · have e1 : (stsOf (lsOf cs)).getD (Int.toNat i2) 0 = lsN cs o2 := by rw [Int.toNat_natCast, stsOf_get hi2, hl2.ls]
    have := lineN_len cs ho2
    rw [e1, Int.toNat_natCast, hl2.len, ht]
    (first | lia | omega)
end

-- L6
/-- [x for x in range(len(own)) if own[x] >= y] -/
def rchL (own : List Int) (want : Int) (n : Nat) : List Int := ((List.range n).filter fun j => decide (want ≤ own.getD j 0)).map Int.ofNat
theorem rchL_succ {own : List Int} {want : Int} {n : Nat} : rchL own want (n + 1) = rchL own want n ++ (if want ≤ own.getD n 0 then [(n : Int)] else []) := by
  unfold rchL
  rw [List.range_succ, List.filter_append, List.map_append]
  by_cases h : want ≤ own.getD n 0
  · rw [if_pos h, List.filter_cons_of_pos (by simpa using h)]; rfl
  · rw [if_neg h, List.filter_cons_of_neg (by simpa using h)]; rfl
section
variable {c : Fc} {k : Nat} {L : Addr} {ρ : Rho} {dk : List Int} {P : Fl → Rho → List Int → Prop} {D : Addr} {cs : List Int} {f w : Int}
abbrev ctxC (D : Addr) (cs : List Int) (f w : Int) (o : Nat) (m : Int) (i : Nat) (want : Int) : Rho :=
  (S "_law_wanted", .int want) :: (S "_law_own", .list ((colsOf (lineN cs o) w).map .int)) :: ctxB D cs f w o m i
theorem colsOf_len {l : List Int} {w : Int} : (colsOf l w).length = l.length + 1 := colsN_len
theorem colsOf_get {l : List Int} {w : Int} {j : Nat} (h : j ≤ l.length) : (colsOf l w).getD j 0 = foldCol (l.take j) 0 w := by
  simp [colsOf, colsN, List.getD, Nat.lt_succ_of_le h]
/-- what is asked of the columns -/
structure AskC (cs : List Int) (w : Int) (o : Nat) (want : Int) : Prop where
  col1 : foldCol ((cs.take o).drop (lsN cs o)) 0 w = foldCol ((lineN cs o).take (o - lsN cs o)) 0 w
  col2 : foldColN ((cs.drop (lsN cs o)).take (o - lsN cs o)) 0 w = foldCol ((lineN cs o).take (o - lsN cs o)) 0 w
  rch : ∃ r, rchL (colsOf (lineN cs o) w) want (colsOf (lineN cs o) w).length ++ [((lineN cs o).length : Int)] = ((reach (lineN cs o) 0 want w).1 : Int) :: r
theorem seg15 (hC : LawC c L) (hD : c.D = some D) (hd : DkOk dk) (hcs : CsOk cs) (hfew : (lsOf cs).length ≤ 100) {o i : Nat} {m : Int} (hf : 1 ≤ f) (hf2 : f ≤ 4) (hw : 1 ≤ w) (hw2 : w ≤ 9) (ho : o ≤ cs.length) (hl : Lay cs o i) (ha : ∀ want, AskC cs w o want)
    (next : ∀ want r d, 0 ≤ want → want < 20 → DkOk d → WS c (k + 9) (turnB.drop 19) ((S "_law_reach", .list ((((reach (lineN cs o) 0 want w).1 : Int) :: r).map .int)) :: ctxC D cs f w o m i want) d P) : WS c (k + 9) (turnB.drop 15) (ctxB D cs f w o m i) dk P := by
  obtain ⟨fa, cd, he⟩ := hC.he
  have hkL := hC.hk
  have hx : cs.length ≤ 100000 := Nat.le_trans hcs.len (by decide)
  have hi := hl.hi
  have hn := lineN_len cs ho
  have hlen := hcs.len
  have hls := lsN_le cs o
  have hle := leN_ge cs o
  have hll : ((lsOf cs).getD i []).length ≤ 13 := by rw [hl.len]; (first | lia | omega)
  refine WS_cons (WX_letT (xs := [S "_law_own", S "_law_wanted"]) (we_ok hkL ?_) (hC.hall rfl) ⟨[_, _], rfl, rfl⟩ rfl (by rw [he]; rfl))
  refine Leaf.mk (item_L (Int.natCast_nonneg i) (by (first | lia | omega)) (getS hi) ?_)
  rw [Int.toNat_natCast]
  refine Leaf.mk (columns_spec (by (first | lia | omega)) (by (first | lia | omega)) ?_)
  rw [hl.line]
  refine Leaf.mk (draw_spec hD hd (by decide) (by decide) fun want d h1 h2 hd2 => Exists.intro _ ⟨rfl, rfl, ?_⟩)
  have hA := ha want
  have hcl : (colsOf (lineN cs o) w).length = (lineN cs o).length + 1 := colsOf_len
  have it : ∀ (e i : Expr) (P : V → List Int → Prop) (d : List Int) (j : Int), 0 ≤ j → j ≤ (lineN cs o).length → SubPlain i → P (.int (foldCol ((lineN cs o).take j.toNat) 0 w)) d → Op2 c (k + 9) (subscriptTail e i) (.list ((colsOf (lineN cs o) w).map .int)) (.int j) d P := fun e i P d j h0 h1 hp h => item_I h0 (by (first | lia | omega)) (by (first | lia | omega)) (by rw [colsOf_get (by (first | lia | omega))]; exact h) hp
  have hro := reach_fold (lineN cs o) 0 want w
  refine wsg_ok hkL hC.hst 1 ?_
  refine Leaf.mk (column_at_spec (by (first | lia | omega)) (by (first | lia | omega)) (by (first | lia | omega)) hx ho rfl (Leaf.mk (it _ _ _ _ _ (by (first | lia | omega)) (by (first | lia | omega)) (fun _ _ => rfl) (same_I ?_ ?_))))
  · rw [hA.col1, show ((o : Int) - (lsN cs o : Int)).toNat = o - lsN cs o from by (first | lia | omega)]
  refine Leaf.mk (WE_slice (we_ok hkL (Exists.intro _ ⟨rfl, by rw [List.length_map]; (first | lia | omega), we_ok hkL (Exists.intro _ ⟨rfl, we_ok hkL (Exists.intro _ ⟨rfl, ⟨by (first | lia | omega), by (first | lia | omega), by rw [List.length_map]; (first | lia | omega)⟩, ?_⟩)⟩)⟩)))
  have e1 : cutL (cs.map V.int) (some (lsN cs o : Int)) (some (o : Int)) = ((cs.drop (lsN cs o)).take (o - lsN cs o)).map V.int := by
    show ((cs.map V.int).drop _).take _ = _
    rw [← List.map_drop, ← List.map_take, Int.toNat_natCast, Int.toNat_natCast]
  rw [e1]
  refine Leaf.mk (column_of_codes_spec (by (first | lia | omega)) (Leaf.mk (it _ _ _ _ _ (by (first | lia | omega)) (by (first | lia | omega)) (fun _ _ => rfl) (same_I ?_ (Leaf.mk ?_)))))
  · rw [hA.col2, show ((o : Int) - (lsN cs o : Int)).toNat = o - lsN cs o from by (first | lia | omega)]
  obtain ⟨r, hr⟩ := hA.rch
  have hrl : (((reach (lineN cs o) 0 want w).1 : Int) :: r).length ≤ 1000 := by
    rw [← hr, List.length_append]
    have : (rchL (colsOf (lineN cs o) w) want (colsOf (lineN cs o) w).length).length ≤ (colsOf (lineN cs o) w).length := by
      unfold rchL
      rw [List.length_map]
      exact Nat.le_trans (List.length_filter_le ..) (by rw [List.length_range]; exact Nat.le_refl _)
    show _ + 1 ≤ _
    (first | lia | omega)
  refine wsg_ok hkL hC.hst 1 (Leaf.mk (WE_comp rfl rfl (clOK_of (by rw [he]; rfl)) (we_ok hkL (Leaf.mk (c_lenI (by (first | lia | omega)) (Leaf.mk (c_range1 ?_))))) (fun _ => rfl)))
  refine ⟨_, .rng _ _ (by decide) (by decide) (by (first | lia | omega)) (by (first | lia | omega)), by rw [rangeL_len]; (first | lia | omega), CompAsk.mk (by rw [he]) [(S "_law_own", .list ((colsOf (lineN cs o) w).map .int)), (S "_law_wanted", .int want)] (fun j acc d' => d' = d ∧ acc = (rchL (colsOf (lineN cs o) w) want j).map .int)
    (Seen.cons rfl (by rw [he]; rfl) (by rw [he]; rfl) (by rw [he]; rfl) (Seen.cons rfl (by rw [he]; rfl) (by rw [he]; rfl) (by rw [he]; rfl) Seen.nil)) rfl ⟨rfl, rfl⟩ ?_ ?_⟩
  · rintro c2 hg2 hD2 hk2 j acc d' y hy ⟨rfl, rfl⟩
    rw [rangeL_get] at hy
    by_cases hj : j < (((colsOf (lineN cs o) w).length : Int) - 0).toNat
    · rw [if_pos hj] at hy; cases hy
      refine wt_ok hk2 (Leaf.mk (item_I (by (first | lia | omega)) (by (first | lia | omega)) (by (first | lia | omega)) ?_))
      rw [show ((0 : Int) + (j : Int)).toNat = j from by (first | lia | omega)]
      refine And.intro (fun hb => we_ok hk2 ⟨rfl, ?_⟩) fun hb => ⟨rfl, ?_⟩
      · rw [rchL_succ, if_pos hb, List.map_append, Int.zero_add]; rfl
      · rw [rchL_succ, if_neg hb, List.append_nil]
    · rw [if_neg hj] at hy; cases hy
  · rintro acc d' ⟨rfl, rfl⟩
    rw [rangeL_len, show (((colsOf (lineN cs o) w).length : Int) - 0).toNat = (colsOf (lineN cs o) w).length from by (first | lia | omega)]
    refine Leaf.mk (c_lenI (by (first | lia | omega)) (And.intro ?_ (Leaf.mk ?_)))
    · rw [← hr, List.length_append] at hrl
      rw [List.length_map]
      exact Nat.le_trans hrl (by decide)
    · refine Ws.has ((S "_law_reach", .list ((((reach (lineN cs o) 0 want w).1 : Int) :: r).map .int)) :: ctxC D cs f w o m i want) ?_ ⟨?_, rfl, rfl, rfl, rfl, rfl, rfl, rfl, rfl, rfl, rfl, rfl, rfl, rfl, rfl, rfl, trivial⟩
      · refine wsg_ok hkL hC.hst 1 (Leaf.mk (place_at_spec (by (first | lia | omega)) hx ho rfl ?_))
        refine Leaf.mk (item_I (n := 0) (by decide) (by simp only [List.length_cons]; (first | lia | omega)) (by (first | lia | omega)) (Leaf.mk (item_I (n := 0) (by decide) (by simp only [List.length_cons]; (first | lia | omega)) (by (first | lia | omega)) (Leaf.mk (it _ _ _ _ _ ?_ ?_ (fun _ _ => rfl) (Leaf.mk (same_T (ys := [_, _]) ?_ (Leaf.mk (next want r _ h1 h2 hd2)))))))))
        · exact Int.natCast_nonneg _
        · exact Int.ofNat_le.mpr hro.1
        · rw [hro.2, Int.natCast_add, ← Int.add_assoc]; rfl
      · rw [← hr, List.map_append, hcl, show (((lineN cs o).length + 1 : Nat) : Int) - 1 = (lineN cs o).length from by (first | lia | omega)]; rfl
end

-- L7
/-- what is asked of the blanks at a line's start -/
structure AskI (cs : List Int) (o i : Nat) : Prop where
  bare : ∃ b : Nat, (((lsOf cs).getD i []).length : Int) - ((((lsOf cs).getD i []).dropWhile fun n => decide (n ∈ [32, 9])).length : Int) = b ∧ b ≤ (lineN cs o).length ∧ bareN (cs.drop (lsN cs o)) = (lineN cs o).take b
section
variable {c : Fc} {k : Nat} {L : Addr} {ρ : Rho} {dk : List Int} {P : Fl → Rho → List Int → Prop} {D : Addr} {cs : List Int} {f w : Int}
theorem seg19 (hC : LawC c L) (hD : c.D = some D) (hd : DkOk dk) (hcs : CsOk cs) (hfew : (lsOf cs).length ≤ 100) {o i : Nat} {m want : Int} {r : List Int} (hw : 1 ≤ w) (hw2 : w ≤ 9) (hwa : 0 ≤ want) (hwb : want < 20) (ho : o ≤ cs.length) (hl : Lay cs o i) (hb : AskI cs o i)
    (hbl : ∀ s tb, 0 ≤ s → s < 12 → foldColN (blanksL s want w tb) s w = (if want > s then want else s) ∧ (tb = false → 9 ∉ blanksL s want w tb))
    (next : ∀ tb d, DkOk d → WS c (k + 9) (turnB.drop 24) ((S "_law_tabs", .bool tb) :: (S "_law_reach", .list ((((reach (lineN cs o) 0 want w).1 : Int) :: r).map .int)) :: ctxC D cs f w o m i want) d P) :
    WS c (k + 9) (turnB.drop 19) ((S "_law_reach", .list ((((reach (lineN cs o) 0 want w).1 : Int) :: r).map .int)) :: ctxC D cs f w o m i want) dk P := by
  obtain ⟨fa, cd, he⟩ := hC.he
  have hkL := hC.hk
  have hx : cs.length ≤ 100000 := Nat.le_trans hcs.len (by decide)
  have hi := hl.hi
  have hn := lineN_len cs ho
  have hlen := hcs.len
  have hls := lsN_le cs o
  have hle := leN_ge cs o
  have hll : ((lsOf cs).getD i []).length ≤ 13 := by rw [hl.len]; (first | lia | omega)
  have hi0 : (i : Int) < 2 ^ 63 := by (first | lia | omega)
  obtain ⟨b, hb1, hb2, hb3⟩ := hb.bare
  have hdw : (((lsOf cs).getD i []).dropWhile fun n => decide (n ∈ [32, 9])).length ≤ 13 := by (first | lia | omega)
  refine wsg_ok hkL hC.hst 1 (Leaf.mk (item_L (Int.natCast_nonneg i) hi0 (getS hi) ?_))
  rw [Int.toNat_natCast]
  refine Leaf.mk (c_lenS (by (first | lia | omega)) (Leaf.mk ?_))
  refine' WE_lstrip ?_ ?hn ?he
  case hn => intro _ _; rfl
  case he => rfl
  refine we_ok hkL (Leaf.mk (item_L (Int.natCast_nonneg i) hi0 (getS hi) (Exists.intro _ ⟨rfl, WE_str ?_⟩)))
  rw [Int.toNat_natCast]
  refine c_lstrip (y := [32, 9]) (by (first | lia | omega)) (Leaf.mk (c_lenS (by (first | lia | omega)) ?_))
  refine Leaf.mk (Ws.has ((S "_law_bare", .int b) :: (S "_law_reach", .list ((((reach (lineN cs o) 0 want w).1 : Int) :: r).map .int)) :: ctxC D cs f w o m i want) ?_ ⟨vi hb1, rfl, rfl, rfl, rfl, rfl, rfl, rfl, rfl, rfl, rfl, rfl, rfl, rfl, rfl, rfl, rfl, trivial⟩)
  refine wsg_ok hkL hC.hst 1 (Leaf.mk (indentation_at_spec (by (first | lia | omega)) hx ho rfl (Leaf.mk (item_I (Int.natCast_nonneg b) (by rw [colsOf_len]; (first | lia | omega)) (by rw [colsOf_len]; (first | lia | omega)) (same_I ?_ (Leaf.mk ?_))))))
  · rw [Int.toNat_natCast, colsOf_get hb2, hb3]
  refine WS_cons (WX_letS (names := [S "_law_start", S "_law_tabs"]) (wasF_ok' (fun _ _ _ _ => we_ok hkL) rfl ?_) (hC.hall rfl) rfl (by rw [he]; rfl))
  refine Leaf.mk (draw_spec hD hd (by decide) (by decide) fun s d2 h1 h2 hd2 => Leaf.mk (draw_spec hD hd2 (by decide) (by decide) fun v d3 h3 h4 hd3 => ⟨Nat.le_of_ble_eq_true rfl, rfl, ?_⟩))
  generalize decide (v = 1) = tb
  refine wsg_ok hkL hC.hst 2 (Leaf.mk (blanks_to_spec hw (by (first | lia | omega)) h1 (by (first | lia | omega)) hwa (by (first | lia | omega)) ?_))
  obtain ⟨q1, q2⟩ := hbl s tb h1 h2
  have fin := Ws.has (ρ := (S "_law_blanks", .list ((blanksL s want w tb).map .int)) :: (S "_law_start", .int s) :: (S "_law_tabs", .bool tb) :: (S "_law_bare", .int b) :: (S "_law_reach", .list ((((reach (lineN cs o) 0 want w).1 : Int) :: r).map .int)) :: ctxC D cs f w o m i want)
    ((S "_law_tabs", .bool tb) :: (S "_law_reach", .list ((((reach (lineN cs o) 0 want w).1 : Int) :: r).map .int)) :: ctxC D cs f w o m i want) (next tb d3 hd3) ⟨rfl, rfl, rfl, rfl, rfl, rfl, rfl, rfl, rfl, rfl, rfl, rfl, rfl, rfl, rfl, rfl, rfl, trivial⟩
  refine Leaf.mk (column_of_codes_spec (by (first | lia | omega)) (Leaf.mk (c_max (same_I q1 ?_))))
  refine And.intro (fun _ => Leaf.mk fin) fun ht => ?_
  refine Leaf.mk (op_inL ⟨_, rfl, fun hm => absurd (of_decide_eq_true hm) (q2 ht), fun _ => Leaf.mk fin⟩)
end

-- L8
def madeOf (cs : List Int) (e : Edit) : List Int := cs.take e.a ++ e.codes ++ cs.drop e.b
/-- what is asked of the forced place -/
structure AskE (cs : List Int) (w : Int) (o i : Nat) (want : Int) (tb : Bool) : Prop where
  code : ∀ x ∈ madeOf cs (editOf cs o want w tb), 0 ≤ x ∧ x ≤ 1114111
  len : (editOf cs o want w tb).codes.length ≤ 5000
  beh : (editOf cs o want w tb).behind ≤ (madeOf cs (editOf cs o want w tb)).length
  pos : ¬ foldCol (lineN cs o) 0 w < want → want ∉ colsOf (lineN cs o) w → 1 ≤ (reach (lineN cs o) 0 want w).1
  told1 : foldCol (lineN cs o) 0 w < want ∨ want ∈ colsOf (lineN cs o) w ∨ (lineN cs o).getD ((reach (lineN cs o) 0 want w).1 - 1) 0 = 9 →
    foldCol (((madeOf cs (editOf cs o want w tb)).take (editOf cs o want w tb).behind).drop (lsN (madeOf cs (editOf cs o want w tb)) (editOf cs o want w tb).behind)) 0 w = want
  told2 : ¬ foldCol (lineN cs o) 0 w < want → want ∉ colsOf (lineN cs o) w → ¬ (lineN cs o).getD ((reach (lineN cs o) 0 want w).1 - 1) 0 = 9 →
    foldCol (((madeOf cs (editOf cs o want w tb)).take (editOf cs o want w tb).behind).drop (lsN (madeOf cs (editOf cs o want w tb)) (editOf cs o want w tb).behind)) 0 w = (reach (lineN cs o) 0 want w).2
  hi : i < (lsOf (madeOf cs (editOf cs o want w tb))).length
  short : ((lsOf (madeOf cs (editOf cs o want w tb))).getD i []).length ≤ 6000
  all : foldCol (((lsOf (madeOf cs (editOf cs o want w tb))).getD i []).map Int.ofNat) 0 w = if want > foldCol (lineN cs o) 0 w then want else foldCol (lineN cs o) 0 w
theorem getD_getN {l : List Nat} {i : Nat} (h : i < l.length) : l[i]? = some (l.getD i 0) := by simp [List.getD, h]
theorem map_getD {l : List Nat} {i : Nat} (h : i < l.length) : (l.map Int.ofNat).getD i 0 = ((l.getD i 0 : Nat) : Int) := by simp [List.getD, h]
theorem colsOf_last {l : List Int} {w : Int} : ((colsOf l w).map V.int)[((-1 : Int) + (((colsOf l w).map V.int).length : Int)).toNat]? = some (.int (foldCol l 0 w)) := by
  have := colsN_last (l := l) (w := w) (n := l.length)
  rw [List.take_length] at this
  rw [List.length_map, List.getElem?_map]
  exact congrArg (Option.map V.int) this
section
variable {c : Fc} {k : Nat} {L : Addr} {ρ : Rho} {dk : List Int} {P : Fl → Rho → List Int → Prop} {D : Addr} {cs : List Int} {f w : Int}
theorem seg24 (hC : LawC c L) (hcs : CsOk cs) (hfew : (lsOf cs).length ≤ 100) {o i : Nat} {m want : Int} {r : List Int} {tb : Bool} (hf : 1 ≤ f) (hf2 : f ≤ 4) (hw : 1 ≤ w) (hw2 : w ≤ 9) (hwa : 0 ≤ want) (hwb : want < 20) (ho : o ≤ cs.length) (hl : Lay cs o i) (hE : AskE cs w o i want tb)
    (next : P .next [(S "_law_deck", .raw (.ref D))] dk) :
    WS c (k + 9) (turnB.drop 24) ((S "_law_tabs", .bool tb) :: (S "_law_reach", .list ((((reach (lineN cs o) 0 want w).1 : Int) :: r).map .int)) :: ctxC D cs f w o m i want) dk P := by
  obtain ⟨fa, cd, he⟩ := hC.he
  have hkL := hC.hk
  have hx : cs.length ≤ 100 := Nat.le_trans hcs.len (by decide)
  have hi := hl.hi
  have hn := lineN_len cs ho
  have hlen := hcs.len
  have hi0 : (i : Int) < 2 ^ 63 := by (first | lia | omega)
  have hro := reach_fold (lineN cs o) 0 want w
  obtain ⟨hcode, hclen, hbeh, hpos, htold1, htold2, hmi, hmshort, hmall⟩ := hE
  refine WS_cons (WX_letT (xs := [S "_law_edit", S "_law_behind"]) (we_ok hkL (Leaf.mk (forced_place_spec hw (by (first | lia | omega)) (by (first | lia | omega)) (by (first | lia | omega)) hx ho hwa (by (first | lia | omega)) rfl (Exists.intro _ ⟨rfl, rfl, ?_⟩)))) (hC.hall rfl) ⟨[_, _], rfl, rfl⟩ rfl (by rw [he]; rfl))
  generalize editOf cs o want w tb = e at *
  refine wsg_ok hkL hC.hst 1 (Leaf.mk (WE_slice (we_ok hkL (Exists.intro _ ⟨rfl, by rw [List.length_map]; (first | lia | omega), we_ok hkL (Leaf.mk (item_T (by decide) (by show (0 : Int) < ((3 : Nat) : Int); decide) (by decide) rfl (Exists.intro _ ⟨rfl, ?_, ?_⟩)))⟩))))
  · show (0 : Int) ≤ _; (first | lia | omega)
  have ht : ∀ x : Int, (cutL (cs.map V.int) none (some x)).length ≤ 13 := fun x => by
    show ((cs.map V.int).take _).length ≤ _
    rw [List.length_take, List.length_map]; (first | lia | omega)
  have hdr : ∀ x : Int, (cutL (cs.map V.int) (some x) none).length ≤ 13 := fun x => by
    show ((cs.map V.int).drop _).length ≤ _
    rw [List.length_drop, List.length_map]; (first | lia | omega)
  refine Leaf.mk (item_T (by decide) (by show (2 : Int) < ((3 : Nat) : Int); decide) (by decide) rfl (And.intro ?_ ?_))
  · rw [List.length_map]; have := ht (f + e.a - f); (first | lia | omega)
  refine Leaf.mk (WE_slice (we_ok hkL (Exists.intro _ ⟨rfl, by rw [List.length_map]; (first | lia | omega), we_ok hkL (Leaf.mk (item_T (by decide) (by show (1 : Int) < ((3 : Nat) : Int); decide) (by decide) rfl (Exists.intro _ ⟨rfl, ?_, ?_⟩)))⟩)))
  · show (0 : Int) ≤ _; (first | lia | omega)
  refine And.intro ?_ (Leaf.mk ?_)
  · rw [List.length_append, List.length_map]; have := ht (f + e.a - f); have := hdr (f + e.b - f); (first | lia | omega)
  have hmade : cutL (cs.map V.int) none (some (f + e.a - f)) ++ e.codes.map V.int ++ cutL (cs.map V.int) (some (f + e.b - f)) none = (madeOf cs e).map V.int := by
    show (cs.map V.int).take _ ++ _ ++ (cs.map V.int).drop _ = _
    rw [show (f + (e.a : Int) - f).toNat = e.a from by (first | lia | omega), show (f + (e.b : Int) - f).toNat = e.b from by (first | lia | omega), madeOf, List.map_append, List.map_append, List.map_take, List.map_drop]
  have hml : (madeOf cs e).length ≤ 5100 := by
    rw [madeOf, List.length_append, List.length_append, List.length_take, List.length_drop]; (first | lia | omega)
  generalize madeOf cs e = made at *
  refine Ws.has [(S "_law_behind", .int (f + e.behind)), (S "_law_made", .list (made.map .int)), (S "_law_reach", .list ((((reach (lineN cs o) 0 want w).1 : Int) :: r).map .int)), (S "_law_wanted", .int want), (S "_law_own", .list ((colsOf (lineN cs o) w).map .int)),
    (S "_law_at", .int i), (S "_law_lines", linesV (lsOf cs)), (S "_law_width", .int w), (S "_law_first", .int f), (S "_law_deck", .raw (.ref D))] ?_ ⟨rfl, congrArg (fun z => some (V.list z)) hmade, rfl, rfl, rfl, rfl, rfl, rfl, rfl, rfl, trivial⟩
  refine wsg_ok hkL hC.hst 1 (Leaf.mk (c_row2 (by rw [List.length_map]; (first | lia | omega)) (Leaf.mk (column_at_spec (by (first | lia | omega)) (by (first | lia | omega)) (by (first | lia | omega)) (by (first | lia | omega)) hbeh rfl (Leaf.mk ?_)))))
  generalize foldCol ((made.take e.behind).drop (lsN made e.behind)) 0 w = told at *
  have hcl : (colsOf (lineN cs o) w).length = (lineN cs o).length + 1 := colsOf_len
  have lastI : ∀ (e i : Expr) (P : V → List Int → Prop) (d : List Int) (l : List Int), l.length ≤ 20000 → SubPlain i → P (.int (foldCol l 0 w)) d → Op2 c (k + 9) (subscriptTail e i) (.list ((colsOf l w).map .int)) (.int (-1)) d P := fun e i P d l h1 hp h => item_Lneg (by decide) (by rw [List.length_map, colsOf_len]; (first | lia | omega)) (by decide) colsOf_last h hp
  refine wsg_ok hkL hC.hst 1 ?_
  have fin : ∀ due : Int, told = due → WS c (k + 9) (turnB.drop 28) ((S "_law_due", .int due) :: (S "_law_told", .int told) :: [(S "_law_behind", .int (f + e.behind)), (S "_law_made", .list (made.map .int)), (S "_law_reach", .list ((((reach (lineN cs o) 0 want w).1 : Int) :: r).map .int)), (S "_law_wanted", .int want), (S "_law_own", .list ((colsOf (lineN cs o) w).map .int)),
    (S "_law_at", .int i), (S "_law_lines", linesV (lsOf cs)), (S "_law_width", .int w), (S "_law_first", .int f), (S "_law_deck", .raw (.ref D))]) dk P := by
    intro due hdue
    refine wsg_ok hkL hC.hst 1 (same_I hdue ?_)
    refine Leaf.mk ?_
    refine' WE_split ?_ ?hn ?he
    case hn => intro _ _; rfl
    case he => rfl
    refine' WE_join ?_ ?hn ?he
    case hn => intro _ _; rfl
    case he => rfl
    refine WE_str ⟨[], rfl, WE_chrs rfl rfl (by rw [he]; rfl) (by rw [he]; rfl) (by decide) (we_ok hkL (Exists.intro made ⟨rfl, hcode, by (first | lia | omega), ?_⟩))⟩
    refine Exists.intro _ ⟨rfl, WE_str (c_split (by rw [List.length_map]; (first | lia | omega)) (Leaf.mk (item_L (Int.natCast_nonneg i) hi0 (getS (Ls := lsOf made) (by rw [Int.toNat_natCast]; exact hmi)) ?_)))⟩
    rw [Int.toNat_natCast]
    refine Leaf.mk (columns_spec (by (first | lia | omega)) (by (first | lia | omega)) (Leaf.mk (lastI _ _ _ _ _ (by rw [List.length_map]; (first | lia | omega)) (fun _ _ => rfl) ?_)))
    rw [hmall]
    refine Leaf.mk (lastI _ _ _ _ _ (by (first | lia | omega)) (fun _ _ => rfl) (Leaf.mk (c_max (same_I rfl ?_))))
    exact Leaf.mk (Ws.has [(S "_law_deck", .raw (.ref D))] (WS_nil next) ⟨rfl, trivial⟩)
  refine Leaf.mk (lastI _ _ _ _ _ (by (first | lia | omega)) (fun _ _ => rfl) (And.intro (fun h1 => Leaf.mk (fin _ (htold1 (.inl h1)))) fun h1 => ?_))
  refine Leaf.mk (op_inL ⟨_, rfl, fun h2 => Leaf.mk (fin _ (htold1 (.inr (.inl (of_decide_eq_true h2))))), fun h2 => ?_⟩)
  have h2 := of_decide_eq_false h2
  have hp1 := hpos h1 h2
  have hll : ((lsOf cs).getD i []).length = (lineN cs o).length := hl.len
  have hidx : (((reach (lineN cs o) 0 want w).1 : Int) - 1).toNat = (reach (lineN cs o) 0 want w).1 - 1 := by (first | lia | omega)
  have hlt : (reach (lineN cs o) 0 want w).1 - 1 < ((lsOf cs).getD i []).length := by (first | lia | omega)
  refine Leaf.mk (item_L (Int.natCast_nonneg i) hi0 (getS hi) (Leaf.mk (item_L (n := 0) (by decide) (by decide) rfl (Leaf.mk (item_S (a := ((lsOf cs).getD i []).getD ((reach (lineN cs o) 0 want w).1 - 1) 0) ?_ ?_ ?_ ?_ ?_)))))
  · (first | lia | omega)
  · rw [Int.toNat_natCast]; (first | lia | omega)
  · rw [Int.toNat_natCast]; (first | lia | omega)
  · rw [Int.toNat_natCast, hidx]; exact getD_getN hlt
  have e9 : (lineN cs o).getD ((reach (lineN cs o) 0 want w).1 - 1) 0 = ((((lsOf cs).getD i []).getD ((reach (lineN cs o) 0 want w).1 - 1) 0 : Nat) : Int) := by
    rw [← map_getD hlt, hl.line]
  rw [e9] at htold1 htold2
  generalize ((lsOf cs).getD i []).getD ((reach (lineN cs o) 0 want w).1 - 1) 0 = ch at *
  refine Leaf.mk (op_eqs ⟨_, rfl, fun h3 => Leaf.mk (fin _ (htold1 (.inr (.inr ?_)))), fun h3 => Leaf.mk (item_L (n := 0) (by decide) (by decide) rfl (Leaf.mk (item_I (Int.natCast_nonneg _) (by (first | lia | omega)) (by (first | lia | omega)) (Leaf.mk (fin _ ?_)))))⟩)
  · have h4 : [ch] = [9] := of_decide_eq_true h3
    rw [(List.cons.inj h4).1]; rfl
  · have h3 := of_decide_eq_false h3
    rw [htold2 h1 h2 (fun q => h3 (by rw [show ch = 9 from by (first | lia | omega)]; rfl)), Int.toNat_natCast, colsOf_get hro.1]
    exact hro.2
end

-- L9
/-- all that the walk asks of the plain law -/
structure AskAll (cs : List Int) : Prop extends Asks2 cs where
  col : ∀ o w want, o ≤ cs.length → 1 ≤ w → w ≤ 9 → AskC cs w o want
  ind : ∀ o i, o ≤ cs.length → Lay cs o i → AskI cs o i
  edit : ∀ o i w want tb, o ≤ cs.length → Lay cs o i → 1 ≤ w → w ≤ 9 → 0 ≤ want → want < 20 → AskE cs w o i want tb
structure Plain : Prop where
  all : ∀ cs, CsOk cs → AskAll cs
  bl : ∀ s want w tb, 0 ≤ s → 0 ≤ want → 1 ≤ w → foldColN (blanksL s want w tb) s w = (if want > s then want else s) ∧ (tb = false → 9 ∉ blanksL s want w tb)
section
variable {c : Fc} {k : Nat} {L : Addr} {ρ : Rho} {dk : List Int} {D : Addr}
theorem turn_ok {P : Fl → Rho → List Int → Prop} (hP : Plain) (hC : LawC c L) (hD : c.D = some D) (hd : DkOk dk) (next : ∀ d, DkOk d → P .next [(S "_law_deck", .raw (.ref D))] d) : WS c (k + 9) turnB [(S "_law_deck", .raw (.ref D))] dk P := by
  refine seg0 hC hD hd fun cs f w d hcs hf hf2 hw hw2 hd => ?_
  have hA := hP.all cs hcs
  refine seg3 hC hA.few hA.short ?_
  refine seg4 hC hD hd hcs hA.toAsks fun o m i d ho hm hm2 hl hd => ?_
  refine seg7 hC hcs hA.toAsks2 (by (first | lia | omega)) ho hl (seg11 hC hcs hA.toAsks2 (by (first | lia | omega)) ho hl ?_)
  refine seg15 hC hD hd hcs hA.few hf hf2 hw hw2 ho hl (fun want => hA.col o w want ho hw hw2) fun want r d h1 h2 hd => ?_
  refine seg19 hC hD hd hcs hA.few hw hw2 h1 h2 ho hl (hA.ind o i ho hl) (fun s tb a b => hP.bl s want w tb a h1 hw) fun tb d hd => ?_
  exact seg24 hC hcs hA.few hf hf2 hw hw2 h1 h2 ho hl (hA.edit o i w want tb ho hl hw hw2 h1 h2) (next d hd)
theorem law_ok {a : Addr} {vs : List Value} {ns : List Int} (hP : Plain) (hC : LawC c L) (hDn : c.D = none) (hL : c.g.hb.IsList a vs.toArray) (hI : IntsAre vs ns) (hn : ns.length ≤ 63) :
    WS c (k + 9) (bodyAt 197) [(S "script", .raw (.ref a))] dk fun fl _ _ => fl = .ret (.bool true) := by
  have hkL := hC.hk
  refine WS_new hDn ((hkL _).trans rfl) (new_call (we_ok hkL (Exists.intro _ ⟨rfl, isCallee_ok rfl, rfl, WA_cons (we_ok hkL (And.intro rfl (deck_spec hDn hL hI hn fun d hd D => ?_)))⟩)))
  have hC' : LawC (c.wd D) L := ⟨hC.he, hC.ho⟩
  have hDD : (c.wd D).D = some D := rfl
  have hkL := hC'.hk
  refine Ws.has [(S "_law_deck", .raw (.ref D))] ?_ ⟨rfl, trivial⟩
  refine wsg_ok hkL hC'.hst 3 (for_ok hkL rfl (fun _ => rfl) (we_ok hkL (Leaf.mk (c_range1 ⟨_, .rng _ _ (by decide) (by decide) (by decide) (by decide), fun i L' d => L' = [(S "_law_deck", .raw (.ref D))] ∧ DkOk d, [(S "_law_deck", .raw (.ref D))], ⟨rfl, trivial⟩, ⟨rfl, hd⟩, ?_, ?_⟩))))
  · rintro i L' d' y hy ⟨rfl, hd'⟩
    refine Ws.has [(S "_law_deck", .raw (.ref D))] (turn_ok hP hC' hDD hd' fun d hd => ?_) ⟨rfl, trivial⟩
    exact Exists.intro [(S "_law_deck", .raw (.ref D))] ⟨⟨rfl, trivial⟩, rfl, hd⟩
  · rintro L' d' ⟨rfl, hd'⟩
    refine Leaf.mk (c_row1 (xs := [97, 10, 98].map .int) (Nat.le_of_ble_eq_true rfl) ?_)
    refine Leaf.mk (WE_and2 (we_ok hkL (Leaf.mk (lines_target_spec (o := 0) (cs := [97, 10, 98]) (by decide) (by decide) (by decide) rfl (Leaf.mk (op_eqT (ys := [4, 0]) (Exists.intro _ ⟨rfl, Exists.intro _ ⟨rfl, fun _ => we_ok hkL ?_, fun q => ?_⟩⟩)))))))
    · refine Leaf.mk (c_row1 (xs := [97, 10].map .int) (Nat.le_of_ble_eq_true rfl) (Leaf.mk (lines_target_spec (o := 0) (cs := [97, 10]) (by decide) (by decide) (by decide) rfl (Leaf.mk (op_eqT (ys := [3, 1]) (Exists.intro _ ⟨rfl, Exists.intro _ ⟨rfl, ?_⟩⟩))))))
      exact ⟨_, .inl rfl, congrArg (fun b => Fl.ret (V.bool b)) (decide_eq_true (by decide))⟩
    · exact absurd q (by decide)
end

-- L10
theorem cells_data {cm : Str → Option Value} {cs : List (Str × Addr)} {cells : List (Addr × Obj)} (X : CellsAre cm cs cells) : ∀ p ∈ cells, ∃ u, p.2.data = .cell u := by
  induction X with
  | nil => intro p hp; cases hp
  | cons hd _ ih =>
    intro p hp
    rcases List.mem_cons.mp hp with rfl | hp
    · exact ⟨_, hd⟩
    · exact ih p hp
theorem law_walk (hP : Plain) (g : Gd) {fa : Addr} {cd : Value} {m cm : Str → Option Value} {cs : List (Str × Addr)} {cells : List (Addr × Obj)} {a : Addr} {vs : List Value} {ns : List Int} {s : Shared} {Q : Flow → Shared → Prop} {E : Value → Shared → Prop}
    (F : Fr g.hb g.hb.objs.size s.heap m) (N : News g.hb g.hb.objs.size s.heap cells) (X : CellsAre cm cs cells) (hc : cells.map (·.1) = [g.hb.objs.size + 5, g.hb.objs.size + 4, g.hb.objs.size + 3, g.hb.objs.size + 2, g.hb.objs.size + 1])
    (hm : m (S "script") = some (.ref a)) (hL : g.hb.IsList a vs.toArray) (hI : IntsAre vs ns) (hn : ns.length ≤ 63)
    (hQ : ∀ h' tk' m', Fr g.hb g.hb.objs.size h' m' → Q (.ret (.bool true)) { s with heap := h', toks := tk' }) :
    wpAny (model PR g.w) (callerA.deeper (envOfC (Str.ofString "law") lawScope g.hb.objs.size fa cd)) (execs (bodyAt 197) (envOfC (Str.ofString "law") lawScope g.hb.objs.size fa cd)) Q E s := by
  let c : Fc := { g := g, env := envOfC (Str.ofString "law") lawScope g.hb.objs.size fa cd, D := none, own := [g.hb.objs.size + 1, g.hb.objs.size + 2, g.hb.objs.size + 3, g.hb.objs.size + 4, g.hb.objs.size + 5], kf := rfl, gl := rfl, bl := rfl }
  have hC : LawC c g.hb.objs.size := ⟨⟨fa, cd, rfl⟩, rfl⟩
  have own : ∀ b ∈ c.own, ∃ o, (b, o) ∈ cells := fun b hb => by
    have : b ∈ cells.map (·.1) := by
      rw [hc]
      have hb : b ∈ [g.hb.objs.size + 5, g.hb.objs.size + 4, g.hb.objs.size + 3, g.hb.objs.size + 2, g.hb.objs.size + 1].reverse := hb
      exact List.mem_reverse.mp hb
    obtain ⟨p, hp, rfl⟩ := List.mem_map.mp this
    exact ⟨p.2, hp⟩
  have kp : ∀ b o, g.hb.get? b = some o → s.heap.get? b = some o := F.keep
  have S0 : Sta c (fun b => g.hb.get? b) [(S "script", .raw (.ref a))] [] s.heap := by
    refine ⟨fun _ _ e => e, kp, fun b hb => ?_, (fun D hD => by cases hD), ⟨m, F.ns, fun x v e => ?_⟩, fun b hb => ?_⟩
    · rcases hb with e | e | e
      · subst e
        obtain ⟨o, _, _, e', _⟩ := F.ns
        exact ⟨get_none (Nat.le_refl _), o, e'⟩
      · cases e
      · obtain ⟨o, ho⟩ := own b e
        exact ⟨(N _ ho).2.2, o, (N _ ho).1⟩
    · cases q : x == S "script" with
      | true =>
        have : x = S "script" := by simpa using q
        subst this
        rw [lk_hd] at e; cases e
        exact .inl ⟨(hC.hk _).trans rfl, _, hm, .raw _⟩
      | false => simp only [List.lookup, q] at e; cases e
    · obtain ⟨o, ho⟩ := own b hb
      obtain ⟨u, hu⟩ := cells_data X _ ho
      exact ⟨o, u, (N _ ho).1, hu⟩
  refine law_ok (k := 0) hP hC rfl hL hI hn (callerA.deeper _) _ s Q E ⟨rfl, Nat.le_of_ble_eq_true rfl, Nat.le_of_ble_eq_true rfl⟩ S0 fun F' s' x y ρ' dk' G S' r p => ?_
  subst p
  cases r with | ret r =>
  cases r
  obtain ⟨h', t', rfl⟩ := G.st
  obtain ⟨m', hm', _⟩ := S'.ns
  exact hQ h' t' m' ⟨hm', S'.nsBase, Nat.le_refl _⟩

-- P1
abbrev toI (l : List Nat) : List Int := l.map Int.ofNat
/-- lines put together -/
def jn : List (List Int) → List Int
  | [] => []
  | [l] => l
  | l :: r => l ++ 10 :: jn r
theorem join_jn : ∀ (T : List Str), toI (Str.join ⟨#[10]⟩ T).cps.toList = jn (T.map fun p => toI p.cps.toList)
  | [] => rfl
  | [p] => rfl
  | p :: q :: r => by
    have ih := join_jn (q :: r)
    show toI (p ++ ⟨#[10]⟩ ++ Str.join ⟨#[10]⟩ (q :: r)).cps.toList = toI p.cps.toList ++ 10 :: jn ((q :: r).map fun p => toI p.cps.toList)
    rw [← ih, Str.cps_append, Str.cps_append, Array.toList_append, Array.toList_append, toI, List.map_append, List.map_append, List.append_assoc]; rfl
theorem parts_jn (x : List Nat) : jn ((parts x).map toI) = toI x := by
  have := join_jn (Txt.split (toStr x) ⟨#[10]⟩)
  rw [StrLaws.join_split] at this
  rw [parts, List.map_map]
  exact this.symm
theorem parts_free {x p : List Nat} (h : p ∈ parts x) : 10 ∉ p := by
  obtain ⟨q, hq, rfl⟩ := List.mem_map.mp h
  exact StrLaws.split_free _ _ q hq
theorem parts_ne (x : List Nat) : 0 < (parts x).length := by
  rw [parts, List.length_map]
  unfold Txt.split
  split
  · exact Nat.zero_lt_one
  · split
    · exact Nat.zero_lt_one
    · rw [length_partsBetween]; exact Nat.succ_pos _

theorem stOf_zero {L : List (List Nat)} : stOf L 0 = 0 := rfl
theorem stOf_cons {L : List (List Nat)} {l : List Nat} {i : Nat} : stOf (l :: L) (i + 1) = l.length + 1 + stOf L i := by
  rw [stOf, List.take_succ_cons, List.map_cons, List.sum_cons]; rfl
theorem free_count {l : List Nat} (h : 10 ∉ l) : (toI l).count 10 = 0 := by
  rw [List.count_eq_zero]
  intro q
  obtain ⟨a, ha, e⟩ := List.mem_map.mp q
  have : a = 10 := Int.ofNat.inj e
  exact h (this ▸ ha)
theorem decomp : ∀ (L : List (List Nat)) (i : Nat), (∀ l ∈ L, 10 ∉ l) → i < L.length → ∃ A B, jn (L.map toI) = A ++ (toI (L.getD i []) ++ B) ∧ (A.length : Int) = stOf L i ∧ (A = [] ∨ ∃ A', A = A' ++ [10]) ∧ A.count 10 = i ∧ (i + 1 < L.length → ∃ B', B = 10 :: B') ∧ (¬ i + 1 < L.length → B = [])
  | [], _, _, h => absurd h (Nat.not_lt_zero _)
  | [l], 0, _, _ => ⟨[], [], (List.append_nil _).symm, rfl, .inl rfl, rfl, fun h => absurd h (Nat.lt_irrefl _), fun _ => rfl⟩
  | [l], i + 1, _, h => absurd (Nat.lt_of_succ_lt_succ h) (Nat.not_lt_zero _)
  | l :: a :: r, 0, _, _ => ⟨[], 10 :: jn ((a :: r).map toI), rfl, rfl, .inl rfl, rfl, fun _ => ⟨_, rfl⟩, fun h => absurd (Nat.succ_lt_succ (Nat.succ_pos _)) h⟩
  | l :: a :: r, i + 1, hf, h => by
    obtain ⟨A, B, e1, e2, e3, e4, e5, e6⟩ := decomp (a :: r) i (fun l hl => hf l (.tail _ hl)) (Nat.lt_of_succ_lt_succ h)
    refine ⟨toI l ++ 10 :: A, B, ?_, ?_, .inr ?_, ?_, fun h => e5 (Nat.lt_of_succ_lt_succ h), fun h => e6 fun q => h (Nat.succ_lt_succ q)⟩
    · show toI l ++ 10 :: jn ((a :: r).map toI) = _
      rw [e1, List.append_assoc]; rfl
    · rw [stOf_cons, ← e2, List.length_append, List.length_cons, List.length_map]; (first | lia | omega)
    · rcases e3 with rfl | ⟨A', rfl⟩
      · exact ⟨toI l, rfl⟩
      · exact ⟨toI l ++ 10 :: A', by rw [List.append_assoc]; rfl⟩
    · rw [List.count_append, free_count (hf l (.head _)), List.count_cons_self, e4, Nat.zero_add]

theorem tw_free {l B : List Int} (h : (10 : Int) ∉ l) (hB : B = [] ∨ ∃ B', B = 10 :: B') : (l ++ B).takeWhile (fun x => decide (x ≠ 10)) = l := by
  induction l with
  | nil => rcases hB with rfl | ⟨B', rfl⟩ <;> rfl
  | cons a r ih =>
    rw [List.cons_append, List.takeWhile_cons, if_pos (decide_eq_true (p := a ≠ 10) fun e => h (e ▸ List.Mem.head _)), ih fun q => h (.tail _ q)]
/-- where an offset's line begins and ends -/
theorem loc {cs A l B : List Int} (hc : cs = A ++ (l ++ B)) (hA : A = [] ∨ ∃ A', A = A' ++ [10]) (hl : (10 : Int) ∉ l) (hB : B = [] ∨ ∃ B', B = 10 :: B') : ∀ {j : Nat}, j ≤ l.length → lsN cs (A.length + j) = A.length ∧ leN cs (A.length + j) = A.length + l.length := by
  subst hc
  intro j hj
  constructor
  · induction j with
    | zero =>
      rcases hA with rfl | ⟨A', rfl⟩
      · rfl
      · rw [Nat.add_zero, List.length_append]
        show lsN _ (A'.length + 1) = _
        rw [lsN, if_pos]
        · rfl
        · rw [List.append_assoc, List.getElem?_append_right (Nat.le_refl _), Nat.sub_self]; rfl
    | succ j ih =>
      show lsN _ (A.length + j + 1) = _
      rw [lsN, if_neg, ih (Nat.le_of_succ_le hj)]
      rw [List.getElem?_append_right (Nat.le_add_right _ _), Nat.add_sub_cancel_left, List.getElem?_append_left hj]
      intro q
      exact hl (List.mem_of_getElem? q)
  · unfold leN
    rw [← List.drop_drop, List.drop_left, List.drop_append_of_le_length hj, tw_free (fun q => hl (List.mem_of_mem_drop q)) hB, List.length_drop]
    (first | lia | omega)
theorem loc_line {cs A l B : List Int} (hc : cs = A ++ (l ++ B)) (hA : A = [] ∨ ∃ A', A = A' ++ [10]) (hl : (10 : Int) ∉ l) (hB : B = [] ∨ ∃ B', B = 10 :: B') {j : Nat} (hj : j ≤ l.length) : lineN cs (A.length + j) = l := by
  have h := loc hc hA hl hB hj
  rw [lineN, h.1, h.2, hc, List.drop_take, List.drop_left, Nat.add_sub_cancel_left, List.take_left]

-- P2
/-- the lines of a text, by their places -/
structure Lns (cs : List Int) (L : List (List Nat)) : Prop where
  ne : 0 < L.length
  free : ∀ l ∈ L, 10 ∉ l
  eq : jn (L.map toI) = cs
theorem toI_toNat {cs : List Int} (h : ∀ x ∈ cs, 0 ≤ x) : toI (cs.map Int.toNat) = cs := by
  rw [toI, List.map_map]
  exact (List.map_congr_left fun x hx => Int.toNat_of_nonneg (h x hx)).trans (List.map_id _)
theorem lns_of {cs : List Int} (h : ∀ x ∈ cs, 0 ≤ x) : Lns cs (lsOf cs) := ⟨parts_ne _, fun _ hl => parts_free hl, (parts_jn _).trans (toI_toNat h)⟩
section
variable {cs : List Int} {L : List (List Nat)} (h : Lns cs L) {i o : Nat}
include h
theorem Lns.at (hi : i < L.length) : ∃ A B, cs = A ++ (toI (L.getD i []) ++ B) ∧ (A.length : Int) = stOf L i ∧ (A = [] ∨ ∃ A', A = A' ++ [10]) ∧ A.count 10 = i ∧ (i + 1 < L.length → ∃ B', B = 10 :: B') ∧ (¬ i + 1 < L.length → B = []) ∧ (10 : Int) ∉ toI (L.getD i []) ∧ (B = [] ∨ ∃ B', B = 10 :: B') := by
  obtain ⟨A, B, e1, e2, e3, e4, e5, e6⟩ := decomp L i h.free hi
  refine ⟨A, B, h.eq.symm.trans e1, e2, e3, e4, e5, e6, ?_, ?_⟩
  · intro q
    have := free_count (h.free _ (show L.getD i [] ∈ L from by simp [List.getD, hi]))
    rw [List.count_eq_zero] at this
    exact this q
  · by_cases q : i + 1 < L.length
    · exact .inr (e5 q)
    · exact .inl (e6 q)
/-- an offset in the line i -/
theorem Lns.pos (hi : i < L.length) (h1 : stOf L i ≤ o) (h2 : (o : Int) ≤ stOf L i + (L.getD i []).length) :
    (lsN cs o : Int) = stOf L i ∧ (leN cs o : Int) = stOf L i + (L.getD i []).length ∧ lineN cs o = toI (L.getD i []) ∧ (cs.take (lsN cs o)).count 10 = i ∧ o ≤ cs.length ∧ (i + 1 < L.length → leN cs o < cs.length) ∧ (¬ i + 1 < L.length → leN cs o = cs.length) := by
  obtain ⟨A, B, e1, e2, e3, e4, e5, e6, e7, e8⟩ := h.at hi
  obtain ⟨j, rfl⟩ : ∃ j, o = A.length + j := ⟨o - A.length, by (first | lia | omega)⟩
  have hj : j ≤ (toI (L.getD i [])).length := by rw [List.length_map]; (first | lia | omega)
  obtain ⟨q1, q2⟩ := loc e1 e3 e7 e8 hj
  have hlen : cs.length = A.length + ((toI (L.getD i [])).length + B.length) := by rw [e1, List.length_append, List.length_append]
  refine ⟨by rw [q1, e2], by rw [q2, ← e2, List.length_map]; exact Int.natCast_add .., loc_line e1 e3 e7 e8 hj, by rw [q1, e1, List.take_left, e4], by (first | lia | omega), fun q => ?_, fun q => ?_⟩
  · obtain ⟨B', rfl⟩ := e5 q
    rw [q2, hlen, List.length_cons]; (first | lia | omega)
  · rw [q2, hlen, e6 q]; rfl
omit h in
theorem stOf_succ (hi : i < L.length) : stOf L (i + 1) = stOf L i + (L.getD i []).length + 1 := by
  rw [stOf, List.take_add_one, List.map_append, List.sum_append, List.getElem?_eq_getElem hi]
  simp [stOf, List.getD, hi, Int.add_assoc]
omit h in
theorem stOf_mono : ∀ {j i : Nat}, j ≤ L.length → i ≤ j → stOf L i ≤ stOf L j
  | 0, i, _, hi => by rw [Nat.le_zero.mp hi]; exact Int.le_refl _
  | j + 1, i, hj, hi => by
    rcases Nat.eq_or_lt_of_le hi with rfl | q
    · exact Int.le_refl _
    · have := stOf_mono (Nat.le_of_succ_le hj) (Nat.le_of_lt_succ q)
      rw [stOf_succ hj]; (first | lia | omega)
theorem Lns.find (ho : o ≤ cs.length) : ∃ i, i < L.length ∧ stOf L i ≤ o ∧ (o : Int) ≤ stOf L i + (L.getD i []).length := by
  have key : ∀ n, 0 < n → n ≤ L.length → ∃ i, i < n ∧ stOf L i ≤ o ∧ (i + 1 < n → (o : Int) < stOf L (i + 1)) := by
    intro n
    induction n with
    | zero => intro q; exact absurd q (Nat.lt_irrefl _)
    | succ n ih =>
      intro _ hn
      by_cases q : stOf L n ≤ o
      · exact ⟨n, Nat.lt_succ_self _, q, fun q => absurd q (Nat.lt_irrefl _)⟩
      · have hn0 : 0 < n := Nat.pos_of_ne_zero fun e => q (by subst e; exact Int.natCast_nonneg o)
        obtain ⟨i, h1, h2, h3⟩ := ih hn0 (Nat.le_of_succ_le hn)
        refine ⟨i, Nat.lt_succ_of_lt h1, h2, fun _ => ?_⟩
        by_cases e : i + 1 < n
        · exact h3 e
        · have : i + 1 = n := by (first | lia | omega)
          rw [this]; (first | lia | omega)
  obtain ⟨i, h1, h2, h3⟩ := key L.length h.ne (Nat.le_refl _)
  refine ⟨i, h1, h2, ?_⟩
  by_cases q : i + 1 < L.length
  · have := h3 q
    rw [stOf_succ h1] at this; (first | lia | omega)
  · obtain ⟨A, B, e1, e2, _, _, _, e6, _⟩ := h.at h1
    have hlen : cs.length = A.length + ((toI (L.getD i [])).length + B.length) := by rw [e1, List.length_append, List.length_append]
    rw [e6 q, List.length_map] at hlen
    rw [List.length_nil] at hlen
    (first | lia | omega)
omit h in
theorem cnt_range {p : Nat → Bool} {i : Nat} (hp : ∀ j, p j = true ↔ j ≤ i) : ∀ n, ((List.range n).filter p).length = if i < n then i + 1 else n
  | 0 => rfl
  | n + 1 => by
    rw [List.range_succ, List.filter_append, List.length_append, cnt_range hp n]
    by_cases q : n ≤ i
    · rw [List.filter_cons_of_pos ((hp n).mpr q), if_neg (Nat.not_lt.mpr q)]
      by_cases e : i < n + 1
      · rw [if_pos e]; show n + 1 = _; (first | lia | omega)
      · rw [if_neg e]; rfl
    · rw [List.filter_cons_of_neg (fun e => q ((hp n).mp e)), if_pos (Nat.lt_of_not_le q), if_pos (Nat.lt_succ_of_lt (Nat.lt_of_not_le q))]; rfl
omit h in
theorem cnt_line (hi : i < L.length) (h1 : stOf L i ≤ o) (h2 : (o : Int) ≤ stOf L i + (L.getD i []).length) : cnt (stsOf L) o = i + 1 := by
  have hlt : ∀ j, j < L.length → (decide (stOf L j ≤ o) = true ↔ j ≤ i) := fun j hj => by
    rw [decide_eq_true_iff]
    constructor
    · intro q
      by_cases e : j ≤ i
      · exact e
      · have a := stOf_mono (L := L) (Nat.le_of_lt hj) (Nat.lt_of_not_le e)
        rw [stOf_succ hi] at a; (first | lia | omega)
    · intro q
      have a := stOf_mono (L := L) (Nat.le_of_lt hi) q
      (first | lia | omega)
  rw [cnt, stsOf, List.filter_map, List.length_map]
  have e : (List.range L.length).filter ((fun b => decide (b ≤ (o : Int))) ∘ stOf L) = (List.range L.length).filter fun j => decide (j ≤ i) := by
    refine List.filter_congr fun j hj => ?_
    have := hlt j (List.mem_range.mp hj)
    rw [Function.comp]
    by_cases q : j ≤ i
    · rw [this.mpr q, decide_eq_true q]
    · rw [decide_eq_false q, Bool.eq_false_iff]; exact fun e => q (this.mp e)
  rw [e, cnt_range (fun j => decide_eq_true_iff) L.length, if_pos hi]
theorem Lns.lay (ho : o ≤ cs.length) : ∃ i, i < L.length ∧ cnt (stsOf L) o = i + 1 ∧ stOf L i = lsN cs o ∧ toI (L.getD i []) = lineN cs o := by
  obtain ⟨i, hi, h1, h2⟩ := h.find ho
  have q := h.pos hi h1 h2
  exact ⟨i, hi, cnt_line hi h1 h2, q.1.symm, q.2.2.1.symm⟩
end

-- P3
section
variable {cs : List Int} {L : List (List Nat)} {i o : Nat}
theorem Lns.goUp (h : Lns cs L) : ∀ (n i : Nat), i < L.length → ∀ s : Nat, (s : Int) = stOf L i → goUp cs s n = if n ≤ i then ((stOf L (i - n)).toNat, 0) else (0, (i : Int) - n)
  | 0, i, hi, s, hs => by
    rw [goUp_zero, if_pos (Nat.zero_le _), Nat.sub_zero, ← hs]; rfl
  | n + 1, 0, hi, s, hs => by
    have : s = 0 := Int.ofNat.inj hs
    subst this
    rw [goUp_top, if_neg (Nat.not_succ_le_zero _)]
    exact Prod.ext rfl (Int.zero_sub _).symm
  | n + 1, i + 1, hi, s, hs => by
    have hi' := Nat.lt_of_succ_lt hi
    have e := stOf_succ hi'
    have h0 := stOf_mono (L := L) (Nat.le_of_lt hi') (Nat.zero_le i)
    rw [stOf_zero] at h0
    have q := h.pos (o := s - 1) hi' (by (first | lia | omega)) (by (first | lia | omega))
    rw [goUp_step (by (first | lia | omega)), h.goUp n i hi' _ q.1]
    by_cases c : n ≤ i
    · rw [if_pos c, if_pos (Nat.succ_le_succ c), Nat.succ_sub_succ]
    · rw [if_neg c, if_neg fun q => c (Nat.le_of_succ_le_succ q)]
      congr 1; (first | lia | omega)
theorem Lns.down1 (h : Lns cs L) (hi : i < L.length) (h1 : stOf L i ≤ o) (h2 : (o : Int) ≤ stOf L i + (L.getD i []).length) {n : Nat} :
    goDown cs o (n + 1) = if i + 1 < L.length then goDown cs (stOf L (i + 1)).toNat n else (cs.length, (n : Int) + 1 - (if o < cs.length then 1 else 0)) := by
  have q := h.pos hi h1 h2
  have e := stOf_succ hi
  rw [goDown]
  by_cases c : i + 1 < L.length
  · rw [if_pos c, if_pos (q.2.2.2.2.2.1 c), e, ← q.2.1]; congr 1
  · rw [if_neg c, if_neg (by rw [q.2.2.2.2.2.2 c]; exact Nat.lt_irrefl _)]
theorem Lns.goDown (h : Lns cs L) : ∀ (n i : Nat), i < L.length → goDown cs (stOf L i).toNat n = if i + n < L.length then ((stOf L (i + n)).toNat, 0) else (cs.length, (n : Int) - ((L.length : Int) - 1 - i) - (if (stOf L (L.length - 1)).toNat < cs.length then 1 else 0))
  | 0, i, hi => by rw [Nat.add_zero, if_pos hi]; rfl
  | n + 1, i, hi => by
    have h0 := stOf_mono (L := L) (Nat.le_of_lt hi) (Nat.zero_le i)
    rw [stOf_zero] at h0
    rw [h.down1 hi (o := (stOf L i).toNat) (by (first | lia | omega)) (by (first | lia | omega))]
    by_cases c : i + 1 < L.length
    · rw [if_pos c, h.goDown n (i + 1) c, show i + 1 + n = i + (n + 1) from by (first | lia | omega)]
      by_cases q : i + (n + 1) < L.length
      · rw [if_pos q, if_pos q]
      · rw [if_neg q, if_neg q]
        congr 1
        have : ((i + 1 : Nat) : Int) = i + 1 := rfl
        have : ((n + 1 : Nat) : Int) = n + 1 := rfl
        (first | lia | omega)
    · have e : L.length - 1 = i := by (first | lia | omega)
      have e2 : (L.length : Int) = i + 1 := by (first | lia | omega)
      rw [if_neg c, if_neg (show ¬ i + (n + 1) < L.length from by (first | lia | omega)), e, e2]
      refine Prod.ext rfl ?_
      show (n : Int) + 1 - _ = ((n + 1 : Nat) : Int) - ((i : Int) + 1 - 1 - i) - _
      have e5 : ((stOf L i).toNat < cs.length) = ((stOf L i).toNat < cs.length) := rfl
      (first | lia | omega)
theorem Lns.moved (h : Lns cs L) (ho : o ≤ cs.length) (m : Int) : movedL L.length (stsOf L) o m cs.length = (((tgt cs o m).1 : Int), (tgt cs o m).2) := by
  obtain ⟨i, hi, h1, h2⟩ := h.find ho
  have q := h.pos hi h1 h2
  have st0 : ∀ j, j < L.length → 0 ≤ stOf L j := fun j hj => by
    have := stOf_mono (L := L) (Nat.le_of_lt hj) (Nat.zero_le j)
    rwa [stOf_zero] at this
  unfold movedL tgt
  rw [cnt_line hi h1 h2]
  dsimp only
  by_cases hm : m ≤ 0
  · rw [if_pos hm, if_pos hm, h.goUp _ i hi _ q.1]
    by_cases c : (-m).toNat ≤ i
    · rw [if_pos c]
      have e : (if ((i + 1 : Nat) : Int) - 1 + m > 0 then ((i + 1 : Nat) : Int) - 1 + m else 0).toNat = i - (-m).toNat := by split <;> (first | lia | omega)
      rw [e, stsOf_get (by (first | lia | omega)), if_neg (by (first | lia | omega))]
      have := st0 (i - (-m).toNat) (by (first | lia | omega))
      rw [Int.toNat_of_nonneg this]
    · rw [if_neg c, if_neg (by (first | lia | omega)), if_pos (by (first | lia | omega)), Int.toNat_zero, stsOf_get (by (first | lia | omega)), stOf_zero]
      congr 1; (first | lia | omega)
  · rw [if_neg hm, if_neg hm]
    obtain ⟨n, hn⟩ : ∃ n, m.toNat = n + 1 := ⟨m.toNat - 1, by (first | lia | omega)⟩
    rw [hn, h.down1 hi h1 h2]
    by_cases c : m ≤ (L.length : Int) - 1 - (((i + 1 : Nat) : Int) - 1)
    · have c2 : i + 1 + n < L.length := by (first | lia | omega)
      rw [if_pos c, if_pos (show i + 1 < L.length from by (first | lia | omega)), h.goDown n (i + 1) (by (first | lia | omega)), if_pos c2, show (((i + 1 : Nat) : Int) - 1 + m).toNat = i + 1 + n from by (first | lia | omega), stsOf_get c2, Int.toNat_of_nonneg (st0 _ c2)]
    · rw [if_neg c]
      by_cases c1 : i + 1 < L.length
      · have hN : L.length - 1 < L.length := Nat.sub_lt h.ne Nat.zero_lt_one
        rw [if_pos c1, h.goDown n (i + 1) c1, if_neg (show ¬ i + 1 + n < L.length from by (first | lia | omega)), if_pos (show 0 < (L.length : Int) - 1 - (((i + 1 : Nat) : Int) - 1) from by (first | lia | omega)), stsOf_len, stsOf_get hN]
        have hs := st0 _ hN
        congr 1
        by_cases d : (stOf L (L.length - 1)).toNat < cs.length
        · rw [if_pos d, if_pos (decide_eq_true (by (first | lia | omega)))]; (first | lia | omega)
        · rw [if_neg d, if_neg (by rw [decide_eq_true_iff]; (first | lia | omega))]; (first | lia | omega)
      · rw [if_neg c1, if_neg (show ¬ 0 < (L.length : Int) - 1 - (((i + 1 : Nat) : Int) - 1) from by (first | lia | omega))]
        congr 1
        by_cases d : o < cs.length
        · rw [if_pos d, if_pos (decide_eq_true (by (first | lia | omega)))]; (first | lia | omega)
        · rw [if_neg d, if_neg (by rw [decide_eq_true_iff]; (first | lia | omega))]; (first | lia | omega)
end
theorem CsOk.lns {cs : List Int} (h : CsOk cs) : Lns cs (lsOf cs) := lns_of fun x hx => (h.code x hx).1
theorem Lay.at {cs : List Int} (h : Lns cs (lsOf cs)) {o i : Nat} (ho : o ≤ cs.length) (hl : Lay cs o i) : stOf (lsOf cs) i ≤ o ∧ (o : Int) ≤ stOf (lsOf cs) i + ((lsOf cs).getD i []).length := by
  obtain ⟨j, hj, h1, h2⟩ := h.find ho
  have := cnt_line hj h1 h2
  rw [hl.cnt] at this
  have e : i = j := Nat.succ.inj this
  subst e
  exact ⟨h1, h2⟩
theorem asks2 {cs : List Int} (h : CsOk cs) : Asks2 cs where
  few := by
    have hL := h.lns
    obtain ⟨A, B, e1, _, _, e4, _⟩ := hL.at (i := (lsOf cs).length - 1) (Nat.sub_lt hL.ne Nat.zero_lt_one)
    have a := List.count_le_length (a := (10 : Int)) (l := A)
    have b := congrArg List.length e1
    rw [List.length_append] at b
    have := h.len
    (first | lia | omega)
  short := fun l hl => by
    obtain ⟨i, hi, e⟩ := List.getElem_of_mem hl
    obtain ⟨A, B, e1, _⟩ := h.lns.at hi
    have b := congrArg List.length e1
    rw [List.length_append, List.length_append, List.length_map, show (lsOf cs).getD i [] = l from by simp [List.getD, hi, e]] at b
    have := h.len
    (first | lia | omega)
  lay := fun o ho => by
    obtain ⟨i, a, b, c, d⟩ := h.lns.lay ho
    exact ⟨i, a, b, c, d⟩
  moved := fun o m ho => h.lns.moved ho m
  nx1 := fun o i ho hl hi => by
    obtain ⟨h1, h2⟩ := hl.at h.lns ho
    have q := h.lns.pos hl.hi h1 h2
    exact ⟨by rw [stOf_succ hl.hi, q.2.1], q.2.2.2.2.2.1 hi⟩
  nx2 := fun o i ho hl hi => by
    obtain ⟨h1, h2⟩ := hl.at h.lns ho
    have q := h.lns.pos hl.hi h1 h2
    rw [q.2.2.2.2.2.2 hi]; exact Nat.lt_irrefl _

-- P4
theorem foldCol_app {a b : List Int} {c w : Int} : foldCol (a ++ b) c w = foldCol b (foldCol a c w) w := List.foldl_append
theorem foldColN_free : ∀ {l : List Int} {c w : Int}, (10 : Int) ∉ l → foldColN l c w = foldCol l c w
  | [], _, _, _ => rfl
  | x :: r, c, w, h => by
    show foldColN r (if x = 10 then 0 else c + wdt x c w) w = foldCol r (c + wdt x c w) w
    rw [if_neg (fun e : x = 10 => h (e ▸ List.Mem.head _)), foldColN_free fun q => h (.tail _ q)]
/-- the reach stops where the column is had -/
theorem reach_lt : ∀ (l : List Int) (c want w : Int) (j : Nat), j < (reach l c want w).1 → foldCol (l.take j) c w < want
  | [], _, _, _, _, h => absurd h (Nat.not_lt_zero _)
  | x :: r, c, want, w, j, h => by
    rw [reach] at h
    split at h
    · rename_i hc
      cases j with
      | zero => exact hc
      | succ j => exact reach_lt r _ want w j (Nat.lt_of_succ_lt_succ h)
    · exact absurd h (Nat.not_lt_zero _)
theorem reach_ge : ∀ (l : List Int) (c want w : Int), (reach l c want w).1 = l.length ∨ want ≤ (reach l c want w).2
  | [], _, _, _ => .inl rfl
  | x :: r, c, want, w => by
    rw [reach]
    split
    · exact (reach_ge r (c + wdt x c w) want w).imp (fun e => congrArg Nat.succ e) id
    · rename_i hc; exact .inr (Int.not_lt.mp hc)
theorem foldCol_lt {l : List Int} {w : Int} (h1 : 1 ≤ w) (h2 : w ≤ 100) {i j : Nat} (hij : i < j) (hj : j ≤ l.length) : foldCol (l.take i) 0 w < foldCol (l.take j) 0 w := by
  have e : l.take j = l.take i ++ (l.take j).drop i := by
    refine (List.take_append_drop i (l.take j)).symm.trans (congrArg (· ++ _) ?_)
    rw [List.take_take, Nat.min_eq_left (Nat.le_of_lt hij)]
  rw [e, foldCol_app]
  have := (foldCol_bounds h1 h2 ((l.take j).drop i) (foldCol (l.take i) 0 w)).1
  rw [List.length_drop, List.length_take, Nat.min_eq_left hj] at this
  (first | lia | omega)
theorem rch_low {own : List Int} {want : Int} : ∀ {n : Nat}, (∀ j, j < n → own.getD j 0 < want) → rchL own want n = []
  | 0, _ => rfl
  | n + 1, h => by
    rw [rchL_succ, rch_low fun j hj => h j (Nat.lt_succ_of_lt hj), if_neg (Int.not_le.mpr (h n (Nat.lt_succ_self n)))]; rfl
theorem rch_head {own : List Int} {want : Int} {r : Nat} (h : ∀ j, j < r → own.getD j 0 < want) (hr : want ≤ own.getD r 0) : ∀ t, ∃ q, rchL own want (r + 1 + t) = (r : Int) :: q
  | 0 => ⟨[], by rw [Nat.add_zero, rchL_succ, rch_low h, if_pos hr]; rfl⟩
  | t + 1 => by
    obtain ⟨q, e⟩ := rch_head h hr t
    exact ⟨q ++ _, by rw [← Nat.add_assoc, rchL_succ, e]; rfl⟩
theorem line_dt {cs : List Int} {o : Nat} (ho : o ≤ cs.length) : (cs.drop (lsN cs o)).take (o - lsN cs o) = (lineN cs o).take (o - lsN cs o) := by
  have := leN_ge cs o
  have := lsN_le cs o
  rw [lineN, List.drop_take, List.take_take, Nat.min_eq_left (by (first | lia | omega))]
theorem askC {cs : List Int} (h : CsOk cs) {o : Nat} {w want : Int} (ho : o ≤ cs.length) (h1 : 1 ≤ w) (h2 : w ≤ 9) : AskC cs w o want where
  col1 := by rw [List.drop_take, line_dt ho]
  col2 := by
    rw [line_dt ho]
    obtain ⟨i, hi, a, b⟩ := h.lns.find ho
    have q := h.lns.pos hi a b
    obtain ⟨A, B, _, _, _, _, _, _, e7, _⟩ := h.lns.at hi
    rw [q.2.2.1]
    exact foldColN_free fun q => e7 (List.mem_of_mem_take q)
  rch := by
    generalize lineN cs o = l
    have hr := reach_fold l 0 want w
    have hl : ∀ j, j < (reach l 0 want w).1 → (colsOf l w).getD j 0 < want := fun j hj => by
      rw [colsOf_get (Nat.le_trans (Nat.le_of_lt hj) hr.1)]; exact reach_lt l 0 want w j hj
    rw [colsOf_len]
    by_cases c : want ≤ (reach l 0 want w).2
    · obtain ⟨q, e⟩ := rch_head hl (by rw [colsOf_get hr.1, ← hr.2]; exact c) (l.length - (reach l 0 want w).1)
      rw [show (reach l 0 want w).1 + 1 + (l.length - (reach l 0 want w).1) = l.length + 1 from by (first | lia | omega)] at e
      exact ⟨q ++ [(l.length : Int)], by rw [e]; rfl⟩
    · have e := (reach_ge l 0 want w).resolve_right c
      refine ⟨[], ?_⟩
      rw [rch_low fun j hj => ?_, e]; rfl
      rcases Nat.lt_or_eq_of_le (Nat.le_of_lt_succ hj) with q | q
      · exact hl j (by rw [e]; exact q)
      · rw [q, colsOf_get (Nat.le_refl _), ← e, ← hr.2]; exact Int.not_le.mp c
theorem tw_map (p : Int → Bool) (q : Nat → Bool) (hpq : ∀ n : Nat, p (n : Int) = q n) : ∀ l : List Nat, (toI l).takeWhile p = toI (l.takeWhile q)
  | [] => rfl
  | a :: r => by
    show ((a : Int) :: toI r).takeWhile p = _
    rw [List.takeWhile_cons, List.takeWhile_cons, hpq a]
    split
    · rw [tw_map p q hpq r]; rfl
    · rfl
theorem tw_append {p : Int → Bool} {l B : List Int} (hB : B = [] ∨ ∃ B', B = 10 :: B') (hp : p 10 = false) : (l ++ B).takeWhile p = l.takeWhile p := by
  induction l with
  | nil =>
    rcases hB with rfl | ⟨B', rfl⟩
    · rfl
    · rw [List.nil_append, List.takeWhile_cons, hp]; rfl
  | cons a r ih =>
    rw [List.cons_append, List.takeWhile_cons, List.takeWhile_cons, ih]
theorem tw_dw (q : Nat → Bool) : ∀ l : List Nat, l.length = (l.takeWhile q).length + (l.dropWhile q).length ∧ l.take (l.takeWhile q).length = l.takeWhile q
  | [] => ⟨rfl, rfl⟩
  | a :: r => by
    have ih := tw_dw q r
    rw [List.takeWhile_cons, List.dropWhile_cons]
    split
    · exact ⟨by rw [List.length_cons, List.length_cons, ih.1]; (first | lia | omega), by rw [List.length_cons, List.take_succ_cons, ih.2]⟩
    · exact ⟨(Nat.zero_add _).symm, rfl⟩
theorem askI {cs : List Int} (h : CsOk cs) {o i : Nat} (ho : o ≤ cs.length) (hl : Lay cs o i) : AskI cs o i where
  bare := by
    obtain ⟨a, b⟩ := hl.at h.lns ho
    have q := h.lns.pos hl.hi a b
    obtain ⟨A, B, e1, e2, _, _, _, _, e7, e8⟩ := h.lns.at hl.hi
    have t := tw_dw (fun n => decide (n ∈ [32, 9])) ((lsOf cs).getD i [])
    have hA : lsN cs o = A.length := by (first | lia | omega)
    have e : bareN (cs.drop (lsN cs o)) = toI (((lsOf cs).getD i []).takeWhile fun n => decide (n ∈ [32, 9])) := by
      rw [hA, congrArg (List.drop A.length) e1, List.drop_left, bareN, tw_append e8 rfl]
      exact tw_map _ _ (fun n => decide_eq_decide.mpr (by rw [List.mem_cons, List.mem_singleton]; (first | lia | omega))) _
    refine ⟨(((lsOf cs).getD i []).takeWhile fun n => decide (n ∈ [32, 9])).length, by (first | lia | omega), by rw [q.2.2.1, List.length_map]; (first | lia | omega), ?_⟩
    rw [e, q.2.2.1, toI, toI, ← List.map_take, t.2]

-- P5
theorem fold_sp {w : Int} : ∀ (n : Nat) (c : Int), foldCol (List.replicate n 32) c w = c + n
  | 0, c => (Int.add_zero c).symm
  | n + 1, c => by
    show foldCol (List.replicate n 32) (c + 1) w = _
    rw [fold_sp n]; (first | lia | omega)
theorem fold_tab {w : Int} (hw : 1 ≤ w) : ∀ (n : Nat) (c : Int), foldCol (List.replicate (n + 1) 9) c w = (c.fdiv w + (n + 1)) * w
  | 0, c => by
    show c + (w - c.fmod w) = _
    have := Int.mul_fdiv_add_fmod c w
    rw [Int.add_mul, Int.mul_comm (c.fdiv w)]; (first | lia | omega)
  | n + 1, c => by
    show foldCol (List.replicate (n + 1) 9) (c + (w - c.fmod w)) w = _
    have e : c + (w - c.fmod w) = (c.fdiv w + 1) * w := by
      have := Int.mul_fdiv_add_fmod c w
      rw [Int.add_mul, Int.mul_comm (c.fdiv w)]; (first | lia | omega)
    rw [fold_tab hw n, e, Int.mul_fdiv_cancel _ (by (first | lia | omega))]
    congr 1; (first | lia | omega)
theorem blanks_two (s want w : Int) (tb : Bool) : (tb = true ∧ s < want ∧ 0 < want.fdiv w - s.fdiv w ∧ blanksL s want w tb = List.replicate (want.fdiv w - s.fdiv w).toNat 9 ++ List.replicate (want.fmod w).toNat 32) ∨
    blanksL s want w tb = List.replicate (if want - s > 0 then want - s else 0).toNat 32 := by
  unfold blanksL
  dsimp only
  by_cases hc : tb = true ∧ s < want
  · rw [if_pos hc]
    by_cases ht : 0 < want.fdiv w - s.fdiv w
    · rw [if_pos ht]; exact .inl ⟨hc.1, hc.2, ht, rfl⟩
    · rw [if_neg ht]; exact .inr rfl
  · rw [if_neg hc, if_neg (Int.lt_irrefl _)]; exact .inr rfl
theorem blanks_mem {s want w : Int} {tb : Bool} {x : Int} (h : x ∈ blanksL s want w tb) : x = 9 ∨ x = 32 := by
  rcases blanks_two s want w tb with ⟨_, _, _, e⟩ | e
  · rw [e] at h
    rcases List.mem_append.mp h with q | q
    · exact .inl (List.eq_of_mem_replicate q)
    · exact .inr (List.eq_of_mem_replicate q)
  · rw [e] at h; exact .inr (List.eq_of_mem_replicate h)
theorem blanks_free {s want w : Int} {tb : Bool} : (10 : Int) ∉ blanksL s want w tb := fun h => by
  rcases blanks_mem h with q | q <;> exact absurd q (by decide)
theorem blanks_fold {s want w : Int} {tb : Bool} (hw : 1 ≤ w) : foldCol (blanksL s want w tb) s w = if want > s then want else s := by
  rcases blanks_two s want w tb with ⟨_, hlt, ht, e⟩ | e
  · obtain ⟨n, hn⟩ : ∃ n, (want.fdiv w - s.fdiv w).toNat = n + 1 := ⟨(want.fdiv w - s.fdiv w).toNat - 1, by (first | lia | omega)⟩
    have hn' : want.fdiv w = s.fdiv w + (n + 1) := by (first | lia | omega)
    have hm := Int.fmod_nonneg_of_pos want (b := w) (by (first | lia | omega))
    rw [e, if_pos hlt, foldCol_app, hn, fold_tab hw, fold_sp, ← hn', Int.mul_comm, Int.toNat_of_nonneg hm]
    exact Int.mul_fdiv_add_fmod want w
  · rw [e, fold_sp]
    split <;> split <;> (first | lia | omega)
theorem blanks_len {s want w : Int} {tb : Bool} (h0 : 0 ≤ s) (h1 : 0 ≤ want) (hw : 1 ≤ w) (hw2 : w ≤ 9) : ((blanksL s want w tb).length : Int) ≤ want + 9 := by
  have a := Int.fmod_nonneg_of_pos want (b := w) (by (first | lia | omega))
  have b := Int.fmod_lt_of_pos want (b := w) (by (first | lia | omega))
  have d := (fdiv_bounds hw h1).2
  have d2 := (fdiv_bounds hw h0).1
  rcases blanks_two s want w tb with ⟨_, hlt, ht, e⟩ | e
  · rw [e, List.length_append, List.length_replicate, List.length_replicate]; (first | lia | omega)
  · rw [e, List.length_replicate]; split <;> (first | lia | omega)
theorem bl_ok {s want w : Int} {tb : Bool} (hw : 1 ≤ w) : foldColN (blanksL s want w tb) s w = (if want > s then want else s) ∧ (tb = false → 9 ∉ blanksL s want w tb) := by
  refine ⟨(foldColN_free blanks_free).trans (blanks_fold hw), fun ht hm => ?_⟩
  rcases blanks_two s want w tb with ⟨q, _⟩ | e
  · rw [ht] at q; cases q
  · rw [e] at hm
    exact absurd (List.eq_of_mem_replicate hm) (by decide)

-- P6
section
variable {A l B : List Int} {j : Nat}
theorem tk (hj : j ≤ l.length) : (A ++ (l ++ B)).take (A.length + j) = A ++ l.take j := by
  rw [List.take_length_add_append, List.take_append_of_le_length hj]
theorem dr (hj : j ≤ l.length) : (A ++ (l ++ B)).drop (A.length + j) = l.drop j ++ B := by
  rw [← List.drop_drop, List.drop_left, List.drop_append_of_le_length hj]
theorem td (hj : j ≤ l.length) : ((A ++ (l ++ B)).take (A.length + j)).drop A.length = l.take j := by
  rw [tk hj, List.drop_left]
theorem gd (hj : j < l.length) : (A ++ (l ++ B)).getD (A.length + j) 0 = l.getD j 0 := by
  rw [List.getD, List.getElem?_append_right (Nat.le_add_right _ _), Nat.add_sub_cancel_left, List.getElem?_append_left hj]; rfl
end
/-- a line put in another's place -/
theorem made_ok {A l' B : List Int} (hn : ∀ x ∈ A ++ (l' ++ B), 0 ≤ x) (hA : A = [] ∨ ∃ A', A = A' ++ [10]) (hl : (10 : Int) ∉ l') (hB : B = [] ∨ ∃ B', B = 10 :: B') :
    A.count 10 < (lsOf (A ++ (l' ++ B))).length ∧ toI ((lsOf (A ++ (l' ++ B))).getD (A.count 10) []) = l' := by
  have hL := lns_of hn
  obtain ⟨i, hi, a, b⟩ := hL.find (o := A.length) (by rw [List.length_append]; exact Nat.le_add_right _ _)
  have q := hL.pos hi a b
  have e := loc (j := 0) rfl hA hl hB (Nat.zero_le _)
  have e2 := loc_line (j := 0) rfl hA hl hB (Nat.zero_le _)
  rw [Nat.add_zero] at e e2
  have hc := q.2.2.2.1
  rw [e.1, List.take_left] at hc
  rw [hc]
  exact ⟨hi, q.2.2.1.symm.trans e2⟩
/-- what the edit makes of the line l -/
structure EdOk (A l B : List Int) (w want : Int) (cs : List Int) (e : Edit) (n : Nat) (rc : Int) : Prop where
  ex : ∃ l' j, madeOf cs e = A ++ (l' ++ B) ∧ e.behind = A.length + j ∧ j ≤ l'.length ∧ (10 : Int) ∉ l' ∧ (∀ x ∈ l', 0 ≤ x ∧ x ≤ 1114111) ∧ foldCol l' 0 w = (if want > foldCol l 0 w then want else foldCol l 0 w) ∧
    (foldCol l 0 w < want ∨ want ∈ colsOf l w ∨ l.getD (n - 1) 0 = 9 → foldCol (l'.take j) 0 w = want) ∧
    (¬ foldCol l 0 w < want → want ∉ colsOf l w → ¬ l.getD (n - 1) 0 = 9 → foldCol (l'.take j) 0 w = rc)
  len : e.codes.length ≤ 5000
theorem blanks_code {s want w : Int} {tb : Bool} : ∀ x ∈ blanksL s want w tb, 0 ≤ x ∧ x ≤ 1114111 := fun x h => by
  rcases blanks_mem h with rfl | rfl <;> decide
theorem edit_ok {A l B cs : List Int} {o : Nat} {w want : Int} {tb : Bool} (hc : cs = A ++ (l ++ B)) (hA : A = [] ∨ ∃ A', A = A' ++ [10]) (hl : (10 : Int) ∉ l) (hB : B = [] ∨ ∃ B', B = 10 :: B') (hlen : l.length ≤ 13) (hcode : ∀ x ∈ l, 0 ≤ x ∧ x ≤ 1114111)
    (e1 : lsN cs o = A.length) (e2 : lineN cs o = l) (hw : 1 ≤ w) (hw2 : w ≤ 9) (h0 : 0 ≤ want) (h20 : want < 20) : EdOk A l B w want cs (editOf cs o want w tb) (reach l 0 want w).1 (reach l 0 want w).2 := by
  have hr := reach_fold l 0 want w
  have hge := reach_ge l 0 want w
  have hlt := reach_lt l 0 want w
  unfold editOf
  rw [e1, e2]
  generalize reach l 0 want w = R at *
  obtain ⟨n, rc⟩ := R
  dsimp only at hr hge hlt ⊢
  have hb := foldCol_bounds hw (by (first | lia | omega) : w ≤ 100) (l.take n) 0
  rw [← hr.2, List.length_take] at hb
  have hsplit : foldCol l 0 w = foldCol (l.drop n) rc w := by
    rw [hr.2, ← foldCol_app, List.take_append_drop]
  have hup := (foldCol_bounds hw (by (first | lia | omega) : w ≤ 100) (l.drop n) rc).1
  rw [← hsplit] at hup
  by_cases c1 : rc < want
  · rw [if_pos c1]
    have hn : n = l.length := hge.resolve_right (Int.not_le.mpr c1)
    have hrc : rc = foldCol l 0 w := by rw [hr.2, hn, List.take_length]
    have hbl := blanks_len (s := rc) (want := want) (tb := tb) (by (first | lia | omega)) h0 hw hw2
    have hf : foldCol (l ++ blanksL rc want w tb) 0 w = want := by
      rw [foldCol_app, ← hrc, blanks_fold hw, if_pos c1]
    refine ⟨⟨l ++ blanksL rc want w tb, (l ++ blanksL rc want w tb).length, ?_, ?_, Nat.le_refl _, ?_, ?_, ?_, fun _ => ?_, fun q => absurd (hrc ▸ c1) q⟩, by dsimp only; (first | lia | omega)⟩
    · rw [madeOf, hc, hn]
      dsimp only
      rw [tk (Nat.le_refl _), dr (Nat.le_refl _), List.take_length, List.drop_length, List.nil_append, List.append_assoc, List.append_assoc, List.append_assoc]
    · rw [List.length_append, hn, Nat.add_assoc]
    · intro q
      rcases List.mem_append.mp q with q | q
      · exact hl q
      · exact blanks_free q
    · intro x q
      rcases List.mem_append.mp q with q | q
      · exact hcode x q
      · exact blanks_code x q
    · rw [hf, ← hrc, if_pos c1]
    · rw [List.take_length]; exact hf
  · rw [if_neg c1]
    have hmax : (if want > foldCol l 0 w then want else foldCol l 0 w) = foldCol l 0 w := if_neg (by (first | lia | omega))
    by_cases c2 : want < rc ∧ cs.getD (A.length + n - 1) 0 = 9
    · rw [if_pos c2]
      obtain ⟨m, rfl⟩ : ∃ m, n = m + 1 := ⟨n - 1, by (first | lia | omega)⟩
      have hm : m ≤ l.length := Nat.le_of_succ_le hr.1
      have e5 : foldCol ((cs.take (A.length + (m + 1) - 1)).drop (lsN cs (A.length + (m + 1) - 1))) 0 w = foldCol (l.take m) 0 w := by
        show foldCol ((cs.take (A.length + m)).drop (lsN cs (A.length + m))) 0 w = _
        rw [(loc hc hA hl hB hm).1, hc, td hm]
      rw [e5]
      have hbf := hlt m (Nat.lt_succ_self m)
      have hb0 := (foldCol_bounds hw (by (first | lia | omega) : w ≤ 100) (l.take m) 0).1
      generalize hbE : foldCol (l.take m) 0 w = b at *
      have hbl := blanks_len (s := want) (want := rc) (tb := tb) h0 (by (first | lia | omega)) hw hw2
      have h9 : l.getD m 0 = 9 := by
        have := c2.2
        rw [hc] at this
        rw [← this, ← gd (A := A) (B := B) hr.1]; rfl
      have hcd : (List.replicate (want - b).toNat (32 : Int)).length = (want - b).toNat := List.length_replicate
      have hf1 : foldCol (l.take m ++ List.replicate (want - b).toNat 32) 0 w = want := by
        rw [foldCol_app, fold_sp, ← hbE]; (first | lia | omega)
      refine ⟨⟨l.take m ++ List.replicate (want - b).toNat 32 ++ (blanksL want rc w tb ++ l.drop (m + 1)), m + (want - b).toNat, ?_, ?_, ?_, ?_, ?_, ?_, fun _ => ?_, fun _ _ q => absurd h9 q⟩, ?_⟩
      · rw [madeOf, hc]
        dsimp only
        rw [show A.length + (m + 1) - 1 = A.length + m from rfl, tk hm, dr hr.1]
        simp only [List.append_assoc]
      · dsimp only
        rw [hcd]; (first | lia | omega)
      · rw [List.length_append, List.length_append, List.length_take, hcd]; (first | lia | omega)
      · intro q
        rcases List.mem_append.mp q with q | q
        · rcases List.mem_append.mp q with q | q
          · exact hl (List.mem_of_mem_take q)
          · exact absurd (List.eq_of_mem_replicate q) (by decide)
        · rcases List.mem_append.mp q with q | q
          · exact blanks_free q
          · exact hl (List.mem_of_mem_drop q)
      · intro x q
        rcases List.mem_append.mp q with q | q
        · rcases List.mem_append.mp q with q | q
          · exact hcode x (List.mem_of_mem_take q)
          · rw [List.eq_of_mem_replicate q]; decide
        · rcases List.mem_append.mp q with q | q
          · exact blanks_code x q
          · exact hcode x (List.mem_of_mem_drop q)
      · rw [foldCol_app, hf1, foldCol_app, blanks_fold hw, if_pos c2.1, ← hsplit, hmax]
      · rw [List.take_left' (by rw [List.length_append, List.length_take, hcd]; (first | lia | omega))]; exact hf1
      · dsimp only
        rw [List.length_append, hcd]; (first | lia | omega)
    · rw [if_neg c2]
      have hmade : madeOf cs ⟨A.length + n, A.length + n, [], A.length + n⟩ = cs := by
        rw [madeOf]; dsimp only
        rw [List.append_nil, List.take_append_drop]
      refine ⟨⟨l, n, hmade.trans hc, rfl, hr.1, hl, hcode, hmax.symm, fun q => ?_, fun _ _ _ => hr.2.symm⟩, Nat.zero_le _⟩
      rw [← hr.2]
      rcases q with q | q | q
      · (first | lia | omega)
      · obtain ⟨j, hj, ej⟩ := List.mem_map.mp q
        have hj : j < l.length + 1 := List.mem_range.mp hj
        rcases Nat.lt_or_ge j n with a | a
        · have := hlt j a; (first | lia | omega)
        · rcases Nat.lt_or_eq_of_le a with a | a
          · have := foldCol_lt hw (by (first | lia | omega) : w ≤ 100) a (Nat.le_of_lt_succ hj)
            rw [← hr.2] at this; (first | lia | omega)
          · rw [hr.2, a]; exact ej
      · rcases Nat.eq_zero_or_pos n with z | z
        · subst z
          have : rc = 0 := hr.2
          (first | lia | omega)
        · by_cases d : want < rc
          · refine absurd ⟨d, ?_⟩ c2
            rw [hc, Nat.add_sub_assoc z, gd (by (first | lia | omega))]; exact q
          · (first | lia | omega)

-- P7
theorem askE {cs : List Int} (h : CsOk cs) {o i : Nat} {w want : Int} {tb : Bool} (ho : o ≤ cs.length) (hL : Lay cs o i) (hw : 1 ≤ w) (hw2 : w ≤ 9) (h0 : 0 ≤ want) (h20 : want < 20) : AskE cs w o i want tb := by
  obtain ⟨a, b⟩ := hL.at h.lns ho
  have q := h.lns.pos hL.hi a b
  obtain ⟨A, B, e1, e2, e3, e4, _, _, e7, e8⟩ := h.lns.at hL.hi
  have hA : lsN cs o = A.length := by (first | lia | omega)
  have hlen : (toI ((lsOf cs).getD i [])).length ≤ 13 := by
    have := congrArg List.length e1
    have := h.len
    rw [List.length_append, List.length_append] at *
    (first | lia | omega)
  have hl := q.2.2.1
  rw [← hl] at e1 e7 hlen
  generalize hlE : lineN cs o = l at *
  have hcode : ∀ x ∈ l, 0 ≤ x ∧ x ≤ 1114111 := fun x hx => h.code x (by rw [e1]; exact List.mem_append_right _ (List.mem_append_left _ hx))
  obtain ⟨⟨l', j, m1, m2, m3, m4, m5, m6, m7, m8⟩, mlen⟩ := edit_ok (tb := tb) (o := o) e1 e3 e7 e8 hlen hcode hA hlE hw hw2 h0 h20
  have hmc : ∀ x ∈ A ++ (l' ++ B), 0 ≤ x ∧ x ≤ 1114111 := fun x hx => by
    rcases List.mem_append.mp hx with z | z
    · exact h.code x (by rw [e1]; exact List.mem_append_left _ z)
    · rcases List.mem_append.mp z with z | z
      · exact m5 x z
      · exact h.code x (by rw [e1]; exact List.mem_append_right _ (List.mem_append_right _ z))
  obtain ⟨g1, g2⟩ := made_ok (fun x hx => (hmc x hx).1) e3 m4 e8
  rw [e4] at g1 g2
  have tl : ((madeOf cs (editOf cs o want w tb)).take (editOf cs o want w tb).behind).drop (lsN (madeOf cs (editOf cs o want w tb)) (editOf cs o want w tb).behind) = l'.take j := by
    rw [m2, m1, (loc rfl e3 m4 e8 m3).1, td m3]
  have hml : l'.length ≤ 6000 := by
    have z := congrArg List.length m1
    rw [madeOf, List.length_append, List.length_append, List.length_append, List.length_append, List.length_take, List.length_drop] at z
    have := h.len
    have := congrArg List.length e1
    rw [List.length_append, List.length_append] at this
    (first | lia | omega)
  refine ⟨by rw [m1]; exact hmc, mlen, ?_, fun c1 c2 => ?_, ?_, ?_, by rw [m1]; exact g1, ?_, ?_⟩
  · rw [m1, m2, List.length_append, List.length_append]; (first | lia | omega)
  · rw [hlE] at c1 c2 ⊢
    rcases Nat.eq_zero_or_pos (reach l 0 want w).1 with z | z
    · refine absurd (List.mem_map.mpr ⟨0, List.mem_range.mpr (Nat.succ_pos _), ?_⟩) c2
      have hr := (reach_fold l 0 want w).2
      rw [z] at hr
      have hr : (reach l 0 want w).2 = 0 := hr
      rcases reach_ge l 0 want w with g | g
      · rw [z] at g
        have : l = [] := List.eq_nil_of_length_eq_zero g.symm
        rw [this] at c1
        have c1 : ¬ (0 : Int) < want := c1
        show (0 : Int) = want
        (first | lia | omega)
      · show (0 : Int) = want
        (first | lia | omega)
    · exact z
  · rw [tl, hlE]; exact m7
  · rw [tl, hlE]; exact m8
  · rw [m1]
    have := congrArg List.length g2
    rw [toI, List.length_map] at this
    rw [this]; exact hml
  · rw [m1, hlE]
    show foldCol (toI _) 0 w = _
    rw [g2]; exact m6
theorem plain : Plain where
  all := fun cs h => { asks2 h with
    col := fun o w want ho h1 h2 => askC h ho h1 h2
    ind := fun o i ho hl => askI h ho hl
    edit := fun o i w want tb ho hl h1 h2 h3 h4 => askE h ho hl h1 h2 h3 h4 }
  bl := fun s want w tb _ _ hw => bl_ok hw

end Mine

-- Fin
set_option maxRecDepth 100000 in
set_option maxHeartbeats 8000000 in
theorem PySem.Challenge.cw_np0022_01_holds : PySem.Challenge.rw_np0022_01.Holds :=
  by
  w_on
  o_law
  refine holds_open (q := Mine.q) (loose := Mine.loo) (Xt := Mine.xt) (XP := XL Mine.q []) (Yf := Mine.hk.obs) (Ya := Mine.hk.val) (YP := Mine.hk.says) (N := 2238) Mine.left_ok (Hook.of Mine.hk) (Hook.keeps Mine.hk) (fun s e => xl_of s (Bool.and_eq_true_iff.mp e).1) XL.keeps (by rfl) (by rfl) (by rfl) (fun s e => recFacts_of (Bool.and_eq_true_iff.mp e).2) (by rfl) (by first | assumption | decide +kernel) (by decide +kernel) ⟨rfl, rfl, rfl, rfl, rfl, by decide +kernel⟩ ?hw ?hc
  · w_witness2
  · w_strict (k_go0
              rename Fr _ _ _ _ => F
              rename News _ _ _ _ => N
              rename CellsAre _ _ _ => X
              rename Glob _ _ _ _ _ _ _ _ => GL
              rename Frag.In _ _ => K
              rename Heap.IsList _ _ _ => hL
              rename IntsAre _ _ => hI
              rename _ = (#[] : Array GenState) => hg
              refine Mine.law_walk Mine.plain ⟨_, _, _, _, K, GL.g, GL.b, GL.nolimit, GL.builtins⟩ F N X rfl rfl hL hI (by (first | lia | omega)) fun h' tk' m' F' => ?_
              refine goodW_bool F' hg (fun _ => rfl) ?_
              wrow_post)
