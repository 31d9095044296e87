import PyProof.Rows.All
import Wide.All
import OpenK.AllK
import Wide.FinOn
import Lean
import PySem.Challenge.RW_pq0280_01
set_option Elab.async false
set_option compiler.extract_closed false
set_option maxRecDepth 100000
set_option linter.unusedVariables false
set_option linter.unusedSimpArgs false
section
open PySem PySem.W PyProof.Rows
set_option maxHeartbeats 0
namespace Mine
noncomputable abbrev pw : Program := PySem.Challenge.pw_pq0280_01
noncomputable abbrev u (s : String) : Str := Str.ofString s
noncomputable def topS (i : Nat) : Stmt := (pw.main.body[i]?).getD (.Pass ⟨0, 0, 0, 0⟩)
noncomputable def inCls (i j : Nat) : Stmt := match topS i with
  | .ClassDef _ _ _ b _ _ _ _ _ _ _ => (b[j]?).getD (.Pass ⟨0, 0, 0, 0⟩)
  | s => s
noncomputable def fnO (st : Stmt) (qual : Str) (dV pm cd : Value) : Obj := match st with
  | .FunctionDef name args body _ _ _ scope _ _ _ => ⟨.type "function", none, .func { name := name, qualname := qual, params := args, body := .stmts body, scope := scope, globals := 3, closure := [], defaults := dV, kwdefaults := .none, doc := .none, pyModule := pm, annotations := none, code := cd, closureTuple := .none, builtins := 0 }, #[]⟩
  | _ => ⟨.none, none, .plain, #[]⟩
noncomputable abbrev en (P : Params) (k : String) (t : Nat) (v : Value) : DictEntry := ⟨PyData.keyHash P (Str.ofString k), .str (Str.ofString k) t, v⟩
/-- the written part of the heap behind the top's run -/
noncomputable def Kf (P : Params) : Frag :=
  [ (2, ⟨.none, none, (.dict #[en P "type.__subclasses__.Exception.0" 223 (.int 38 0), en P "type.__subclasses__.Exception.n" 224 (.int 1 0)] 2), #[]⟩),
    (3, ⟨(.type "dict"), none, (.dict #[en P "__name__" 165 (.str (u "law_pq0280_01") 756), en P "__doc__" 166 .none, en P "__package__" 167 .none, en P "__loader__" 168 (.builtin "__main__.__loader__#opaque"), en P "__spec__" 169 .none, en P "__annotations__" 170 (.ref 6), en P "__builtins__" 171 (.ref 4), en P "__file__" 173 (.str (u "/claim/cut.py") 172), en P "__cached__" 174 .none, en P "_wall" 193 (.ref 21), en P "LispSignal" 226 (.ref 38), en P "NEWLINE" 230 (.int 10 229), en P "line_start" 239 (.ref 48), en P "line_end" 248 (.ref 55), en P "next_start" 257 (.ref 62), en P "lines_target" 268 (.ref 69), en P "is_line_end" 276 (.ref 76), en P "codes_between" 284 (.ref 81), en P "in_order" 294 (.ref 88), en P "regions_edit" 306 (.ref 95), en P "unit_around" 318 (.ref 102), en P "units_regions" 332 (.ref 109), en P "units_edit" 345 (.ref 116), en P "by_chars" 355 (.ref 123), en P "chars_regions" 364 (.ref 130), en P "chars_edit" 376 (.ref 137), en P "lines_ahead" 387 (.ref 144), en P "lines_edit" 403 (.ref 151), en P "lines_back_regions" 415 (.ref 158), en P "lines_back_edit" 427 (.ref 165), en P "WHITESPACE" 431 (.str (u " ") 430), en P "WORD" 433 (.str (u "w") 432), en P "PUNCTUATION" 435 (.str (u ".") 434), en P "INHERITS" 437 (.str (u "@") 436), en P "KINDS" 439 (.str (u " w_.()'\"\\/$<>@!|") 438), en P "FLAGS" 441 (.str (u "1234bcnp") 440), en P "Syntax" 503 (.ref 210), en P "sorted_flags" 509 (.ref 219), en P "read_syntax" 515 (.ref 224), en P "SyntaxTable" 609 (.ref 291), en P "letters" 615 (.ref 302), en P "standard_table" 624 (.ref 309), en P "TextRow" 680 (.ref 348), en P "syntax_at" 692 (.ref 359), en P "is_of" 706 (.ref 367), en P "skip_forward" 718 (.ref 375), en P "skip_backward" 730 (.ref 383), en P "forward_by" 745 (.ref 390), en P "forward_word" 755 (.ref 397), en P "_law_draw" 766 (.ref 404), en P "_law_deck_of" 772 (.ref 409), en P "_law_one" 780 (.ref 416), en P "_law_some_codes" 786 (.ref 421), en P "_law_done" 797 (.ref 428), en P "_law_stepped" 812 (.ref 435), en P "_law_mover_of" 819 (.ref 442), en P "_law_are_chars_right" 832 (.ref 449), en P "_law_are_words_right" 848 (.ref 456), en P "_law_are_lines_right" 854 (.ref 461), en P "_law_line_two" 862 (.ref 468), en P "law" 884 (.ref 475)] 61), #[]⟩),
    (20, ⟨(.type "code"), none, (.fields #[(.str (u "_wall") 187), (.str (u "_wall") 188), (.str (u "/claim/cut.py") 189), (.int 1 0), (.int 1 0), (.int 0 0), (.int 0 0), (.int 3 0), (.ref 15), (.bool true), (.int 181 0), (.ref 16), .none, (.ref 17), (.ref 18), (.ref 19), (.int 191 0), (.int 1 0), (.str (u "/claim/cut.py") 192)]), #[]⟩),
    (21, fnO (topS 0) (u "_wall") .none (.str (u "__main__") 164) (.ref 20)),
    (22, ⟨(.type "tuple"), none, (.seq #[(.type "Exception")] 0), #[]⟩),
    (34, ⟨(.type "code"), none, (.fields #[(.str (u "__init__") 208), (.str (u "LispSignal.__init__") 209), (.str (u "/claim/cut.py") 210), (.int 7 0), (.int 3 0), (.int 0 0), (.int 0 0), (.int 3 0), (.ref 29), (.bool true), (.int 181 0), (.ref 30), .none, (.ref 31), (.ref 32), (.ref 33), (.int 214 0), (.int 7 0), (.str (u "/claim/cut.py") 215)]), #[]⟩),
    (35, fnO (inCls 2 0) (u "LispSignal.__init__") .none (.str (u "emacs.errors") 194) (.ref 34)),
    (37, ⟨(.type "dict"), none, (.dict #[en P "__module__" 203 (.str (u "emacs.errors") 194), en P "__firstlineno__" 207 (.int 5 206), en P "__init__" 216 (.ref 35), en P "__static_attributes__" 219 (.ref 36), en P "__weakref__" 221 (.ref 39), en P "__doc__" 222 .none] 3), #[]⟩),
    (38, ⟨(.type "type"), none, (.cls { name := (u "LispSignal"), bases := [(.type "Exception")], mro := [(.ref 38), (.type "Exception"), (.type "BaseException"), (.type "object")], ns := 37, qualname := (u "LispSignal"), hasDict := true, slotNames := [], subclasses := [], abstract := false, collection := none, hasDel := false }), #[some (.ref 22), none, some (.str (u "LispSignal") 196), some (.str (u "LispSignal") 204), some (.builtin "Exception.__new__"), some (.bool true)]⟩),
    (47, ⟨(.type "code"), none, (.fields #[(.str (u "line_start") 231), (.str (u "line_start") 232), (.str (u "/claim/cut.py") 233), (.int 12 0), (.int 2 0), (.int 0 0), (.int 0 0), (.int 3 0), (.ref 42), (.bool true), (.int 181 0), (.ref 43), .none, (.ref 44), (.ref 45), (.ref 46), (.int 237 0), (.int 12 0), (.str (u "/claim/cut.py") 238)]), #[]⟩),
    (48, fnO (topS 5) (u "line_start") .none (.str (u "emacs.lines") 227) (.ref 47)),
    (54, ⟨(.type "code"), none, (.fields #[(.str (u "line_end") 240), (.str (u "line_end") 241), (.str (u "/claim/cut.py") 242), (.int 17 0), (.int 2 0), (.int 0 0), (.int 0 0), (.int 3 0), (.ref 49), (.bool true), (.int 181 0), (.ref 50), .none, (.ref 51), (.ref 52), (.ref 53), (.int 246 0), (.int 17 0), (.str (u "/claim/cut.py") 247)]), #[]⟩),
    (55, fnO (topS 6) (u "line_end") .none (.str (u "emacs.lines") 227) (.ref 54)),
    (61, ⟨(.type "code"), none, (.fields #[(.str (u "next_start") 249), (.str (u "next_start") 250), (.str (u "/claim/cut.py") 251), (.int 22 0), (.int 2 0), (.int 0 0), (.int 0 0), (.int 3 0), (.ref 56), (.bool true), (.int 181 0), (.ref 57), .none, (.ref 58), (.ref 59), (.ref 60), (.int 255 0), (.int 22 0), (.str (u "/claim/cut.py") 256)]), #[]⟩),
    (62, fnO (topS 7) (u "next_start") .none (.str (u "emacs.lines") 227) (.ref 61)),
    (68, ⟨(.type "code"), none, (.fields #[(.str (u "lines_target") 258), (.str (u "lines_target") 259), (.str (u "/claim/cut.py") 260), (.int 25 0), (.int 3 0), (.int 0 0), (.int 0 0), (.int 3 0), (.ref 63), (.bool true), (.int 181 0), (.ref 64), .none, (.ref 65), (.ref 66), (.ref 67), (.int 266 0), (.int 25 0), (.str (u "/claim/cut.py") 267)]), #[]⟩),
    (69, fnO (topS 8) (u "lines_target") .none (.str (u "emacs.lines") 227) (.ref 68)),
    (75, ⟨(.type "code"), none, (.fields #[(.str (u "is_line_end") 269), (.str (u "is_line_end") 270), (.str (u "/claim/cut.py") 271), (.int 40 0), (.int 2 0), (.int 0 0), (.int 0 0), (.int 3 0), (.ref 70), (.bool true), (.int 181 0), (.ref 71), .none, (.ref 72), (.ref 73), (.ref 74), (.int 274 0), (.int 40 0), (.str (u "/claim/cut.py") 275)]), #[]⟩),
    (76, fnO (topS 9) (u "is_line_end") .none (.str (u "emacs.lines") 227) (.ref 75)),
    (80, ⟨(.type "code"), none, (.fields #[(.str (u "codes_between") 279), (.str (u "codes_between") 280), (.str (u "/claim/cut.py") 281), (.int 43 0), (.int 3 0), (.int 0 0), (.int 0 0), (.int 3 0), (.ref 77), (.bool true), (.int 181 0), (.ref 78), .none, .none, .none, (.ref 79), (.int 282 0), (.int 43 0), (.str (u "/claim/cut.py") 283)]), #[]⟩),
    (81, fnO (topS 11) (u "codes_between") .none (.str (u "emacs.transpose") 277) (.ref 80)),
    (87, ⟨(.type "code"), none, (.fields #[(.str (u "in_order") 285), (.str (u "in_order") 286), (.str (u "/claim/cut.py") 287), (.int 45 0), (.int 2 0), (.int 0 0), (.int 0 0), (.int 3 0), (.ref 82), (.bool true), (.int 181 0), (.ref 83), .none, (.ref 84), (.ref 85), (.ref 86), (.int 292 0), (.int 45 0), (.str (u "/claim/cut.py") 293)]), #[]⟩),
    (88, fnO (topS 12) (u "in_order") .none (.str (u "emacs.transpose") 277) (.ref 87)),
    (94, ⟨(.type "code"), none, (.fields #[(.str (u "regions_edit") 295), (.str (u "regions_edit") 296), (.str (u "/claim/cut.py") 297), (.int 50 0), (.int 3 0), (.int 0 0), (.int 0 0), (.int 3 0), (.ref 89), (.bool true), (.int 181 0), (.ref 90), .none, (.ref 91), (.ref 92), (.ref 93), (.int 304 0), (.int 50 0), (.str (u "/claim/cut.py") 305)]), #[]⟩),
    (95, fnO (topS 13) (u "regions_edit") .none (.str (u "emacs.transpose") 277) (.ref 94)),
    (101, ⟨(.type "code"), none, (.fields #[(.str (u "unit_around") 307), (.str (u "unit_around") 308), (.str (u "/claim/cut.py") 309), (.int 54 0), (.int 4 0), (.int 0 0), (.int 0 0), (.int 3 0), (.ref 96), (.bool true), (.int 181 0), (.ref 97), .none, (.ref 98), (.ref 99), (.ref 100), (.int 316 0), (.int 54 0), (.str (u "/claim/cut.py") 317)]), #[]⟩),
    (102, fnO (topS 14) (u "unit_around") .none (.str (u "emacs.transpose") 277) (.ref 101)),
    (108, ⟨(.type "code"), none, (.fields #[(.str (u "units_regions") 319), (.str (u "units_regions") 320), (.str (u "/claim/cut.py") 321), (.int 58 0), (.int 4 0), (.int 0 0), (.int 0 0), (.int 3 0), (.ref 103), (.bool true), (.int 181 0), (.ref 104), .none, (.ref 105), (.ref 106), (.ref 107), (.int 330 0), (.int 58 0), (.str (u "/claim/cut.py") 331)]), #[]⟩),
    (109, fnO (topS 15) (u "units_regions") .none (.str (u "emacs.transpose") 277) (.ref 108)),
    (115, ⟨(.type "code"), none, (.fields #[(.str (u "units_edit") 333), (.str (u "units_edit") 334), (.str (u "/claim/cut.py") 335), (.int 65 0), (.int 4 0), (.int 0 0), (.int 0 0), (.int 3 0), (.ref 110), (.bool true), (.int 181 0), (.ref 111), .none, (.ref 112), (.ref 113), (.ref 114), (.int 343 0), (.int 65 0), (.str (u "/claim/cut.py") 344)]), #[]⟩),
    (116, fnO (topS 16) (u "units_edit") .none (.str (u "emacs.transpose") 277) (.ref 115)),
    (122, ⟨(.type "code"), none, (.fields #[(.str (u "by_chars") 346), (.str (u "by_chars") 347), (.str (u "/claim/cut.py") 348), (.int 68 0), (.int 3 0), (.int 0 0), (.int 0 0), (.int 3 0), (.ref 117), (.bool true), (.int 181 0), (.ref 118), .none, (.ref 119), (.ref 120), (.ref 121), (.int 353 0), (.int 68 0), (.str (u "/claim/cut.py") 354)]), #[]⟩),
    (123, fnO (topS 17) (u "by_chars") .none (.str (u "emacs.transpose") 277) (.ref 122)),
    (129, ⟨(.type "code"), none, (.fields #[(.str (u "chars_regions") 356), (.str (u "chars_regions") 357), (.str (u "/claim/cut.py") 358), (.int 75 0), (.int 3 0), (.int 0 0), (.int 0 0), (.int 3 0), (.ref 124), (.bool true), (.int 181 0), (.ref 125), .none, (.ref 126), (.ref 127), (.ref 128), (.int 362 0), (.int 75 0), (.str (u "/claim/cut.py") 363)]), #[]⟩),
    (130, fnO (topS 18) (u "chars_regions") .none (.str (u "emacs.transpose") 277) (.ref 129)),
    (136, ⟨(.type "code"), none, (.fields #[(.str (u "chars_edit") 365), (.str (u "chars_edit") 366), (.str (u "/claim/cut.py") 367), (.int 79 0), (.int 3 0), (.int 0 0), (.int 0 0), (.int 3 0), (.ref 131), (.bool true), (.int 181 0), (.ref 132), .none, (.ref 133), (.ref 134), (.ref 135), (.int 374 0), (.int 79 0), (.str (u "/claim/cut.py") 375)]), #[]⟩),
    (137, fnO (topS 19) (u "chars_edit") .none (.str (u "emacs.transpose") 277) (.ref 136)),
    (143, ⟨(.type "code"), none, (.fields #[(.str (u "lines_ahead") 377), (.str (u "lines_ahead") 378), (.str (u "/claim/cut.py") 379), (.int 82 0), (.int 3 0), (.int 0 0), (.int 0 0), (.int 3 0), (.ref 138), (.bool true), (.int 181 0), (.ref 139), .none, (.ref 140), (.ref 141), (.ref 142), (.int 385 0), (.int 82 0), (.str (u "/claim/cut.py") 386)]), #[]⟩),
    (144, fnO (topS 20) (u "lines_ahead") .none (.str (u "emacs.transpose") 277) (.ref 143)),
    (150, ⟨(.type "code"), none, (.fields #[(.str (u "lines_edit") 388), (.str (u "lines_edit") 389), (.str (u "/claim/cut.py") 390), (.int 85 0), (.int 3 0), (.int 0 0), (.int 0 0), (.int 3 0), (.ref 145), (.bool true), (.int 181 0), (.ref 146), .none, (.ref 147), (.ref 148), (.ref 149), (.int 401 0), (.int 85 0), (.str (u "/claim/cut.py") 402)]), #[]⟩),
    (151, fnO (topS 21) (u "lines_edit") .none (.str (u "emacs.transpose") 277) (.ref 150)),
    (157, ⟨(.type "code"), none, (.fields #[(.str (u "lines_back_regions") 404), (.str (u "lines_back_regions") 405), (.str (u "/claim/cut.py") 406), (.int 92 0), (.int 3 0), (.int 0 0), (.int 0 0), (.int 3 0), (.ref 152), (.bool true), (.int 181 0), (.ref 153), .none, (.ref 154), (.ref 155), (.ref 156), (.int 413 0), (.int 92 0), (.str (u "/claim/cut.py") 414)]), #[]⟩),
    (158, fnO (topS 22) (u "lines_back_regions") .none (.str (u "emacs.transpose") 277) (.ref 157)),
    (164, ⟨(.type "code"), none, (.fields #[(.str (u "lines_back_edit") 416), (.str (u "lines_back_edit") 417), (.str (u "/claim/cut.py") 418), (.int 97 0), (.int 3 0), (.int 0 0), (.int 0 0), (.int 3 0), (.ref 159), (.bool true), (.int 181 0), (.ref 160), .none, (.ref 161), (.ref 162), (.ref 163), (.int 425 0), (.int 97 0), (.str (u "/claim/cut.py") 426)]), #[]⟩),
    (165, fnO (topS 23) (u "lines_back_edit") .none (.str (u "emacs.transpose") 277) (.ref 164)),
    (178, ⟨(.type "code"), none, (.fields #[(.str (u "__init__") 454), (.str (u "Syntax.__init__") 455), (.str (u "/claim/cut.py") 456), (.int 109 0), (.int 4 0), (.int 0 0), (.int 0 0), (.int 3 0), (.ref 173), (.bool true), (.int 181 0), (.ref 174), .none, (.ref 175), (.ref 176), (.ref 177), (.int 461 0), (.int 109 0), (.str (u "/claim/cut.py") 462)]), #[]⟩),
    (179, fnO (inCls 31 0) (u "Syntax.__init__") .none (.str (u "emacs.syntax") 428) (.ref 178)),
    (185, ⟨(.type "code"), none, (.fields #[(.str (u "has") 464), (.str (u "Syntax.has") 465), (.str (u "/claim/cut.py") 466), (.int 114 0), (.int 2 0), (.int 0 0), (.int 0 0), (.int 3 0), (.ref 180), (.bool true), (.int 181 0), (.ref 181), .none, (.ref 182), (.ref 183), (.ref 184), (.int 469 0), (.int 114 0), (.str (u "/claim/cut.py") 470)]), #[]⟩),
    (186, fnO (inCls 31 1) (u "Syntax.has") .none (.str (u "emacs.syntax") 428) (.ref 185)),
    (192, ⟨(.type "code"), none, (.fields #[(.str (u "is_escape") 472), (.str (u "Syntax.is_escape") 473), (.str (u "/claim/cut.py") 474), (.int 117 0), (.int 1 0), (.int 0 0), (.int 0 0), (.int 3 0), (.ref 187), (.bool true), (.int 181 0), (.ref 188), .none, (.ref 189), (.ref 190), (.ref 191), (.int 476 0), (.int 117 0), (.str (u "/claim/cut.py") 477)]), #[]⟩),
    (193, fnO (inCls 31 2) (u "Syntax.is_escape") .none (.str (u "emacs.syntax") 428) (.ref 192)),
    (199, ⟨(.type "code"), none, (.fields #[(.str (u "is_word_part") 479), (.str (u "Syntax.is_word_part") 480), (.str (u "/claim/cut.py") 481), (.int 120 0), (.int 1 0), (.int 0 0), (.int 0 0), (.int 3 0), (.ref 194), (.bool true), (.int 181 0), (.ref 195), .none, (.ref 196), (.ref 197), (.ref 198), (.int 483 0), (.int 120 0), (.str (u "/claim/cut.py") 484)]), #[]⟩),
    (200, fnO (inCls 31 3) (u "Syntax.is_word_part") .none (.str (u "emacs.syntax") 428) (.ref 199)),
    (206, ⟨(.type "code"), none, (.fields #[(.str (u "style") 486), (.str (u "Syntax.style") 487), (.str (u "/claim/cut.py") 488), (.int 123 0), (.int 1 0), (.int 0 0), (.int 0 0), (.int 3 0), (.ref 201), (.bool true), (.int 181 0), (.ref 202), .none, (.ref 203), (.ref 204), (.ref 205), (.int 490 0), (.int 123 0), (.str (u "/claim/cut.py") 491)]), #[]⟩),
    (207, fnO (inCls 31 4) (u "Syntax.style") .none (.str (u "emacs.syntax") 428) (.ref 206)),
    (209, ⟨(.type "dict"), none, (.dict #[en P "__module__" 449 (.str (u "emacs.syntax") 428), en P "__firstlineno__" 453 (.int 107 452), en P "__init__" 463 (.ref 179), en P "has" 471 (.ref 186), en P "is_escape" 478 (.ref 193), en P "is_word_part" 485 (.ref 200), en P "style" 492 (.ref 207), en P "__static_attributes__" 496 (.ref 208), en P "__dict__" 498 (.ref 211), en P "__weakref__" 500 (.ref 212), en P "__doc__" 501 .none] 4), #[]⟩),
    (210, ⟨(.type "type"), none, (.cls { name := (u "Syntax"), bases := [(.type "object")], mro := [(.ref 210), (.type "object")], ns := 209, qualname := (u "Syntax"), hasDict := true, slotNames := [], subclasses := [], abstract := false, collection := none, hasDel := false }), #[none, none, some (.str (u "Syntax") 442), some (.str (u "Syntax") 450), some (.builtin "object.__new__"), some (.bool true)]⟩),
    (218, ⟨(.type "code"), none, (.fields #[(.str (u "sorted_flags") 504), (.str (u "sorted_flags") 505), (.str (u "/claim/cut.py") 506), (.int 125 0), (.int 1 0), (.int 0 0), (.int 0 0), (.int 3 0), (.ref 215), (.bool true), (.int 181 0), (.ref 216), .none, .none, .none, (.ref 217), (.int 507 0), (.int 125 0), (.str (u "/claim/cut.py") 508)]), #[]⟩),
    (219, fnO (topS 32) (u "sorted_flags") .none (.str (u "emacs.syntax") 428) (.ref 218)),
    (223, ⟨(.type "code"), none, (.fields #[(.str (u "read_syntax") 510), (.str (u "read_syntax") 511), (.str (u "/claim/cut.py") 512), (.int 127 0), (.int 1 0), (.int 0 0), (.int 0 0), (.int 3 0), (.ref 220), (.bool true), (.int 181 0), (.ref 221), .none, .none, .none, (.ref 222), (.int 513 0), (.int 127 0), (.str (u "/claim/cut.py") 514)]), #[]⟩),
    (224, fnO (topS 33) (u "read_syntax") .none (.str (u "emacs.syntax") 428) (.ref 223)),
    (232, ⟨(.type "tuple"), none, (.seq #[.none] 0), #[]⟩),
    (238, ⟨(.type "code"), none, (.fields #[(.str (u "__init__") 528), (.str (u "SyntaxTable.__init__") 529), (.str (u "/claim/cut.py") 530), (.int 138 0), (.int 2 0), (.int 0 0), (.int 0 0), (.int 3 0), (.ref 233), (.bool true), (.int 181 0), (.ref 234), .none, (.ref 235), (.ref 236), (.ref 237), (.int 533 0), (.int 138 0), (.str (u "/claim/cut.py") 534)]), #[]⟩),
    (239, fnO (inCls 34 0) (u "SyntaxTable.__init__") (.ref 232) (.str (u "emacs.syntax") 428) (.ref 238)),
    (245, ⟨(.type "code"), none, (.fields #[(.str (u "modify") 536), (.str (u "SyntaxTable.modify") 537), (.str (u "/claim/cut.py") 538), (.int 142 0), (.int 3 0), (.int 0 0), (.int 0 0), (.int 3 0), (.ref 240), (.bool true), (.int 181 0), (.ref 241), .none, (.ref 242), (.ref 243), (.ref 244), (.int 542 0), (.int 142 0), (.str (u "/claim/cut.py") 543)]), #[]⟩),
    (246, fnO (inCls 34 1) (u "SyntaxTable.modify") .none (.str (u "emacs.syntax") 428) (.ref 245)),
    (252, ⟨(.type "code"), none, (.fields #[(.str (u "modify_all") 545), (.str (u "SyntaxTable.modify_all") 546), (.str (u "/claim/cut.py") 547), (.int 145 0), (.int 3 0), (.int 0 0), (.int 0 0), (.int 3 0), (.ref 247), (.bool true), (.int 181 0), (.ref 248), .none, (.ref 249), (.ref 250), (.ref 251), (.int 553 0), (.int 145 0), (.str (u "/claim/cut.py") 554)]), #[]⟩),
    (253, fnO (inCls 34 2) (u "SyntaxTable.modify_all") .none (.str (u "emacs.syntax") 428) (.ref 252)),
    (259, ⟨(.type "code"), none, (.fields #[(.str (u "modify_range") 556), (.str (u "SyntaxTable.modify_range") 557), (.str (u "/claim/cut.py") 558), (.int 150 0), (.int 4 0), (.int 0 0), (.int 0 0), (.int 3 0), (.ref 254), (.bool true), (.int 181 0), (.ref 255), .none, (.ref 256), (.ref 257), (.ref 258), (.int 563 0), (.int 150 0), (.str (u "/claim/cut.py") 564)]), #[]⟩),
    (260, fnO (inCls 34 3) (u "SyntaxTable.modify_range") .none (.str (u "emacs.syntax") 428) (.ref 259)),
    (266, ⟨(.type "code"), none, (.fields #[(.str (u "own") 566), (.str (u "SyntaxTable.own") 567), (.str (u "/claim/cut.py") 568), (.int 153 0), (.int 2 0), (.int 0 0), (.int 0 0), (.int 3 0), (.ref 261), (.bool true), (.int 181 0), (.ref 262), .none, (.ref 263), (.ref 264), (.ref 265), (.int 572 0), (.int 153 0), (.str (u "/claim/cut.py") 573)]), #[]⟩),
    (267, fnO (inCls 34 4) (u "SyntaxTable.own") .none (.str (u "emacs.syntax") 428) (.ref 266)),
    (273, ⟨(.type "code"), none, (.fields #[(.str (u "at") 575), (.str (u "SyntaxTable.at") 576), (.str (u "/claim/cut.py") 577), (.int 157 0), (.int 2 0), (.int 0 0), (.int 0 0), (.int 3 0), (.ref 268), (.bool true), (.int 181 0), (.ref 269), .none, (.ref 270), (.ref 271), (.ref 272), (.int 582 0), (.int 157 0), (.str (u "/claim/cut.py") 583)]), #[]⟩),
    (274, fnO (inCls 34 5) (u "SyntaxTable.at") .none (.str (u "emacs.syntax") 428) (.ref 273)),
    (280, ⟨(.type "code"), none, (.fields #[(.str (u "kind_of") 585), (.str (u "SyntaxTable.kind_of") 586), (.str (u "/claim/cut.py") 587), (.int 166 0), (.int 2 0), (.int 0 0), (.int 0 0), (.int 3 0), (.ref 275), (.bool true), (.int 181 0), (.ref 276), .none, (.ref 277), (.ref 278), (.ref 279), (.int 590 0), (.int 166 0), (.str (u "/claim/cut.py") 591)]), #[]⟩),
    (281, fnO (inCls 34 6) (u "SyntaxTable.kind_of") .none (.str (u "emacs.syntax") 428) (.ref 280)),
    (287, ⟨(.type "code"), none, (.fields #[(.str (u "copy") 593), (.str (u "SyntaxTable.copy") 594), (.str (u "/claim/cut.py") 595), (.int 169 0), (.int 1 0), (.int 0 0), (.int 0 0), (.int 3 0), (.ref 282), (.bool true), (.int 181 0), (.ref 283), .none, (.ref 284), (.ref 285), (.ref 286), (.int 597 0), (.int 169 0), (.str (u "/claim/cut.py") 598)]), #[]⟩),
    (288, fnO (inCls 34 7) (u "SyntaxTable.copy") .none (.str (u "emacs.syntax") 428) (.ref 287)),
    (290, ⟨(.type "dict"), none, (.dict #[en P "__module__" 523 (.str (u "emacs.syntax") 428), en P "__firstlineno__" 527 (.int 136 526), en P "__init__" 535 (.ref 239), en P "modify" 544 (.ref 246), en P "modify_all" 555 (.ref 253), en P "modify_range" 565 (.ref 260), en P "own" 574 (.ref 267), en P "at" 584 (.ref 274), en P "kind_of" 592 (.ref 281), en P "copy" 599 (.ref 288), en P "__static_attributes__" 602 (.ref 289), en P "__dict__" 604 (.ref 292), en P "__weakref__" 606 (.ref 293), en P "__doc__" 607 .none] 4), #[]⟩),
    (291, ⟨(.type "type"), none, (.cls { name := (u "SyntaxTable"), bases := [(.type "object")], mro := [(.ref 291), (.type "object")], ns := 290, qualname := (u "SyntaxTable"), hasDict := true, slotNames := [], subclasses := [], abstract := false, collection := none, hasDel := false }), #[none, none, some (.str (u "SyntaxTable") 516), some (.str (u "SyntaxTable") 524), some (.builtin "object.__new__"), some (.bool true)]⟩),
    (301, ⟨(.type "code"), none, (.fields #[(.str (u "letters") 610), (.str (u "letters") 611), (.str (u "/claim/cut.py") 612), (.int 171 0), (.int 0 0), (.int 0 0), (.int 0 0), (.int 3 0), (.ref 296), (.bool true), (.int 181 0), (.ref 297), .none, (.ref 298), (.ref 299), (.ref 300), (.int 613 0), (.int 171 0), (.str (u "/claim/cut.py") 614)]), #[]⟩),
    (302, fnO (topS 35) (u "letters") .none (.str (u "emacs.syntax") 428) (.ref 301)),
    (308, ⟨(.type "code"), none, (.fields #[(.str (u "standard_table") 616), (.str (u "standard_table") 617), (.str (u "/claim/cut.py") 618), (.int 173 0), (.int 0 0), (.int 0 0), (.int 0 0), (.int 3 0), (.ref 303), (.bool true), (.int 181 0), (.ref 304), .none, (.ref 305), (.ref 306), (.ref 307), (.int 622 0), (.int 173 0), (.str (u "/claim/cut.py") 623)]), #[]⟩),
    (309, fnO (topS 36) (u "standard_table") .none (.str (u "emacs.syntax") 428) (.ref 308)),
    (317, ⟨(.type "tuple"), none, (.seq #[(.int 1 639)] 0), #[]⟩),
    (323, ⟨(.type "code"), none, (.fields #[(.str (u "__init__") 640), (.str (u "TextRow.__init__") 641), (.str (u "/claim/cut.py") 642), (.int 188 0), (.int 3 0), (.int 0 0), (.int 0 0), (.int 3 0), (.ref 318), (.bool true), (.int 181 0), (.ref 319), .none, (.ref 320), (.ref 321), (.ref 322), (.int 646 0), (.int 188 0), (.str (u "/claim/cut.py") 647)]), #[]⟩),
    (324, fnO (inCls 38 0) (u "TextRow.__init__") (.ref 317) (.str (u "emacs.textrow") 625) (.ref 323)),
    (330, ⟨(.type "code"), none, (.fields #[(.str (u "begin") 649), (.str (u "TextRow.begin") 650), (.str (u "/claim/cut.py") 651), (.int 192 0), (.int 1 0), (.int 0 0), (.int 0 0), (.int 3 0), (.ref 325), (.bool true), (.int 181 0), (.ref 326), .none, (.ref 327), (.ref 328), (.ref 329), (.int 653 0), (.int 192 0), (.str (u "/claim/cut.py") 654)]), #[]⟩),
    (331, fnO (inCls 38 1) (u "TextRow.begin") .none (.str (u "emacs.textrow") 625) (.ref 330)),
    (337, ⟨(.type "code"), none, (.fields #[(.str (u "end") 656), (.str (u "TextRow.end") 657), (.str (u "/claim/cut.py") 658), (.int 195 0), (.int 1 0), (.int 0 0), (.int 0 0), (.int 3 0), (.ref 332), (.bool true), (.int 181 0), (.ref 333), .none, (.ref 334), (.ref 335), (.ref 336), (.int 660 0), (.int 195 0), (.str (u "/claim/cut.py") 661)]), #[]⟩),
    (338, fnO (inCls 38 2) (u "TextRow.end") .none (.str (u "emacs.textrow") 625) (.ref 337)),
    (344, ⟨(.type "code"), none, (.fields #[(.str (u "code_at") 663), (.str (u "TextRow.code_at") 664), (.str (u "/claim/cut.py") 665), (.int 198 0), (.int 2 0), (.int 0 0), (.int 0 0), (.int 3 0), (.ref 339), (.bool true), (.int 181 0), (.ref 340), .none, (.ref 341), (.ref 342), (.ref 343), (.int 668 0), (.int 198 0), (.str (u "/claim/cut.py") 669)]), #[]⟩),
    (345, fnO (inCls 38 3) (u "TextRow.code_at") .none (.str (u "emacs.textrow") 625) (.ref 344)),
    (347, ⟨(.type "dict"), none, (.dict #[en P "__module__" 634 (.str (u "emacs.textrow") 625), en P "__firstlineno__" 638 (.int 186 637), en P "__init__" 648 (.ref 324), en P "begin" 655 (.ref 331), en P "end" 662 (.ref 338), en P "code_at" 670 (.ref 345), en P "__static_attributes__" 673 (.ref 346), en P "__dict__" 675 (.ref 349), en P "__weakref__" 677 (.ref 350), en P "__doc__" 678 .none] 4), #[]⟩),
    (348, ⟨(.type "type"), none, (.cls { name := (u "TextRow"), bases := [(.type "object")], mro := [(.ref 348), (.type "object")], ns := 347, qualname := (u "TextRow"), hasDict := true, slotNames := [], subclasses := [], abstract := false, collection := none, hasDel := false }), #[none, none, some (.str (u "TextRow") 627), some (.str (u "TextRow") 635), some (.builtin "object.__new__"), some (.bool true)]⟩),
    (358, ⟨(.type "code"), none, (.fields #[(.str (u "syntax_at") 683), (.str (u "syntax_at") 684), (.str (u "/claim/cut.py") 685), (.int 203 0), (.int 3 0), (.int 0 0), (.int 0 0), (.int 3 0), (.ref 353), (.bool true), (.int 181 0), (.ref 354), .none, (.ref 355), (.ref 356), (.ref 357), (.int 690 0), (.int 203 0), (.str (u "/claim/cut.py") 691)]), #[]⟩),
    (359, fnO (topS 40) (u "syntax_at") .none (.str (u "emacs.syntaxpairs") 681) (.ref 358)),
    (360, ⟨(.type "tuple"), none, (.seq #[(.bool false)] 0), #[]⟩),
    (366, ⟨(.type "code"), none, (.fields #[(.str (u "is_of") 695), (.str (u "is_of") 696), (.str (u "/claim/cut.py") 697), (.int 207 0), (.int 5 0), (.int 0 0), (.int 0 0), (.int 3 0), (.ref 361), (.bool true), (.int 181 0), (.ref 362), .none, (.ref 363), (.ref 364), (.ref 365), (.int 704 0), (.int 207 0), (.str (u "/claim/cut.py") 705)]), #[]⟩),
    (367, fnO (topS 42) (u "is_of") (.ref 360) (.str (u "emacs.skips") 693) (.ref 366)),
    (368, ⟨(.type "tuple"), none, (.seq #[(.bool false)] 0), #[]⟩),
    (374, ⟨(.type "code"), none, (.fields #[(.str (u "skip_forward") 707), (.str (u "skip_forward") 708), (.str (u "/claim/cut.py") 709), (.int 210 0), (.int 6 0), (.int 0 0), (.int 0 0), (.int 3 0), (.ref 369), (.bool true), (.int 181 0), (.ref 370), .none, (.ref 371), (.ref 372), (.ref 373), (.int 716 0), (.int 210 0), (.str (u "/claim/cut.py") 717)]), #[]⟩),
    (375, fnO (topS 43) (u "skip_forward") (.ref 368) (.str (u "emacs.skips") 693) (.ref 374)),
    (376, ⟨(.type "tuple"), none, (.seq #[(.bool false)] 0), #[]⟩),
    (382, ⟨(.type "code"), none, (.fields #[(.str (u "skip_backward") 719), (.str (u "skip_backward") 720), (.str (u "/claim/cut.py") 721), (.int 214 0), (.int 6 0), (.int 0 0), (.int 0 0), (.int 3 0), (.ref 377), (.bool true), (.int 181 0), (.ref 378), .none, (.ref 379), (.ref 380), (.ref 381), (.int 728 0), (.int 214 0), (.str (u "/claim/cut.py") 729)]), #[]⟩),
    (383, fnO (topS 44) (u "skip_backward") (.ref 376) (.str (u "emacs.skips") 693) (.ref 382)),
    (389, ⟨(.type "code"), none, (.fields #[(.str (u "forward_by") 733), (.str (u "forward_by") 734), (.str (u "/claim/cut.py") 735), (.int 219 0), (.int 5 0), (.int 0 0), (.int 0 0), (.int 3 0), (.ref 384), (.bool true), (.int 181 0), (.ref 385), .none, (.ref 386), (.ref 387), (.ref 388), (.int 743 0), (.int 219 0), (.str (u "/claim/cut.py") 744)]), #[]⟩),
    (390, fnO (topS 46) (u "forward_by") .none (.str (u "emacs.words") 731) (.ref 389)),
    (396, ⟨(.type "code"), none, (.fields #[(.str (u "forward_word") 746), (.str (u "forward_word") 747), (.str (u "/claim/cut.py") 748), (.int 233 0), (.int 4 0), (.int 0 0), (.int 0 0), (.int 3 0), (.ref 391), (.bool true), (.int 181 0), (.ref 392), .none, (.ref 393), (.ref 394), (.ref 395), (.int 753 0), (.int 233 0), (.str (u "/claim/cut.py") 754)]), #[]⟩),
    (397, fnO (topS 47) (u "forward_word") .none (.str (u "emacs.words") 731) (.ref 396)),
    (403, ⟨(.type "code"), none, (.fields #[(.str (u "_law_draw") 758), (.str (u "_law_draw") 759), (.str (u "/claim/cut.py") 760), (.int 236 0), (.int 2 0), (.int 0 0), (.int 0 0), (.int 3 0), (.ref 398), (.bool true), (.int 181 0), (.ref 399), .none, (.ref 400), (.ref 401), (.ref 402), (.int 764 0), (.int 236 0), (.str (u "/claim/cut.py") 765)]), #[]⟩),
    (404, fnO (topS 49) (u "_law_draw") .none (.str (u "law_pq0280_01") 756) (.ref 403)),
    (408, ⟨(.type "code"), none, (.fields #[(.str (u "_law_deck_of") 767), (.str (u "_law_deck_of") 768), (.str (u "/claim/cut.py") 769), (.int 245 0), (.int 1 0), (.int 0 0), (.int 0 0), (.int 3 0), (.ref 405), (.bool true), (.int 181 0), (.ref 406), .none, .none, .none, (.ref 407), (.int 770 0), (.int 245 0), (.str (u "/claim/cut.py") 771)]), #[]⟩),
    (409, fnO (topS 50) (u "_law_deck_of") .none (.str (u "law_pq0280_01") 756) (.ref 408)),
    (415, ⟨(.type "code"), none, (.fields #[(.str (u "_law_one") 773), (.str (u "_law_one") 774), (.str (u "/claim/cut.py") 775), (.int 250 0), (.int 2 0), (.int 0 0), (.int 0 0), (.int 3 0), (.ref 410), (.bool true), (.int 181 0), (.ref 411), .none, (.ref 412), (.ref 413), (.ref 414), (.int 778 0), (.int 250 0), (.str (u "/claim/cut.py") 779)]), #[]⟩),
    (416, fnO (topS 51) (u "_law_one") .none (.str (u "law_pq0280_01") 756) (.ref 415)),
    (420, ⟨(.type "code"), none, (.fields #[(.str (u "_law_some_codes") 781), (.str (u "_law_some_codes") 782), (.str (u "/claim/cut.py") 783), (.int 252 0), (.int 3 0), (.int 0 0), (.int 0 0), (.int 3 0), (.ref 417), (.bool true), (.int 181 0), (.ref 418), .none, .none, .none, (.ref 419), (.int 784 0), (.int 252 0), (.str (u "/claim/cut.py") 785)]), #[]⟩),
    (421, fnO (topS 52) (u "_law_some_codes") .none (.str (u "law_pq0280_01") 756) (.ref 420)),
    (427, ⟨(.type "code"), none, (.fields #[(.str (u "_law_done") 787), (.str (u "_law_done") 788), (.str (u "/claim/cut.py") 789), (.int 254 0), (.int 3 0), (.int 0 0), (.int 0 0), (.int 3 0), (.ref 422), (.bool true), (.int 181 0), (.ref 423), .none, (.ref 424), (.ref 425), (.ref 426), (.int 795 0), (.int 254 0), (.str (u "/claim/cut.py") 796)]), #[]⟩),
    (428, fnO (topS 53) (u "_law_done") .none (.str (u "law_pq0280_01") 756) (.ref 427)),
    (434, ⟨(.type "code"), none, (.fields #[(.str (u "_law_stepped") 798), (.str (u "_law_stepped") 799), (.str (u "/claim/cut.py") 800), (.int 260 0), (.int 5 0), (.int 0 0), (.int 0 0), (.int 3 0), (.ref 429), (.bool true), (.int 181 0), (.ref 430), .none, (.ref 431), (.ref 432), (.ref 433), (.int 810 0), (.int 260 0), (.str (u "/claim/cut.py") 811)]), #[]⟩),
    (435, fnO (topS 54) (u "_law_stepped") .none (.str (u "law_pq0280_01") 756) (.ref 434)),
    (441, ⟨(.type "code"), none, (.fields #[(.str (u "_law_mover_of") 813), (.str (u "_law_mover_of") 814), (.str (u "/claim/cut.py") 815), (.int 267 0), (.int 0 0), (.int 0 0), (.int 0 0), (.int 3 0), (.ref 436), (.bool true), (.int 181 0), (.ref 437), .none, (.ref 438), (.ref 439), (.ref 440), (.int 817 0), (.int 267 0), (.str (u "/claim/cut.py") 818)]), #[]⟩),
    (442, fnO (topS 55) (u "_law_mover_of") .none (.str (u "law_pq0280_01") 756) (.ref 441)),
    (448, ⟨(.type "code"), none, (.fields #[(.str (u "_law_are_chars_right") 820), (.str (u "_law_are_chars_right") 821), (.str (u "/claim/cut.py") 822), (.int 270 0), (.int 4 0), (.int 0 0), (.int 0 0), (.int 3 0), (.ref 443), (.bool true), (.int 181 0), (.ref 444), .none, (.ref 445), (.ref 446), (.ref 447), (.int 830 0), (.int 270 0), (.str (u "/claim/cut.py") 831)]), #[]⟩),
    (449, fnO (topS 56) (u "_law_are_chars_right") .none (.str (u "law_pq0280_01") 756) (.ref 448)),
    (455, ⟨(.type "code"), none, (.fields #[(.str (u "_law_are_words_right") 833), (.str (u "_law_are_words_right") 834), (.str (u "/claim/cut.py") 835), (.int 277 0), (.int 4 0), (.int 0 0), (.int 0 0), (.int 3 0), (.ref 450), (.bool true), (.int 181 0), (.ref 451), .none, (.ref 452), (.ref 453), (.ref 454), (.int 846 0), (.int 277 0), (.str (u "/claim/cut.py") 847)]), #[]⟩),
    (456, fnO (topS 57) (u "_law_are_words_right") .none (.str (u "law_pq0280_01") 756) (.ref 455)),
    (460, ⟨(.type "code"), none, (.fields #[(.str (u "_law_are_lines_right") 849), (.str (u "_law_are_lines_right") 850), (.str (u "/claim/cut.py") 851), (.int 287 0), (.int 4 0), (.int 0 0), (.int 0 0), (.int 3 0), (.ref 457), (.bool true), (.int 181 0), (.ref 458), .none, .none, .none, (.ref 459), (.int 852 0), (.int 287 0), (.str (u "/claim/cut.py") 853)]), #[]⟩),
    (461, fnO (topS 58) (u "_law_are_lines_right") .none (.str (u "law_pq0280_01") 756) (.ref 460)),
    (467, ⟨(.type "code"), none, (.fields #[(.str (u "_law_line_two") 855), (.str (u "_law_line_two") 856), (.str (u "/claim/cut.py") 857), (.int 298 0), (.int 2 0), (.int 0 0), (.int 0 0), (.int 3 0), (.ref 462), (.bool true), (.int 181 0), (.ref 463), .none, (.ref 464), (.ref 465), (.ref 466), (.int 860 0), (.int 298 0), (.str (u "/claim/cut.py") 861)]), #[]⟩),
    (468, fnO (topS 59) (u "_law_line_two") .none (.str (u "law_pq0280_01") 756) (.ref 467)),
    (474, ⟨(.type "code"), none, (.fields #[(.str (u "law") 863), (.str (u "law") 864), (.str (u "/claim/cut.py") 865), (.int 300 0), (.int 1 0), (.int 0 0), (.int 0 0), (.int 3 0), (.ref 469), (.bool true), (.int 181 0), (.ref 470), .none, (.ref 471), (.ref 472), (.ref 473), (.int 882 0), (.int 300 0), (.str (u "/claim/cut.py") 883)]), #[]⟩),
    (475, fnO (topS 60) (u "law") .none (.str (u "law_pq0280_01") 756) (.ref 474)) ]
noncomputable def asK : List Addr := [2, 3, 20, 21, 22, 34, 35, 37, 38, 47, 48, 54, 55, 61, 62, 68, 69, 75, 76, 80, 81, 87, 88, 94, 95, 101, 102, 108, 109, 115, 116, 122, 123, 129, 130, 136, 137, 143, 144, 150, 151, 157, 158, 164, 165, 178, 179, 185, 186, 192, 193, 199, 200, 206, 207, 209, 210, 218, 219, 223, 224, 232, 238, 239, 245, 246, 252, 253, 259, 260, 266, 267, 273, 274, 280, 281, 287, 288, 290, 291, 301, 302, 308, 309, 317, 323, 324, 330, 331, 337, 338, 344, 345, 347, 348, 358, 359, 360, 366, 367, 368, 374, 375, 376, 382, 383, 389, 390, 396, 397, 403, 404, 408, 409, 415, 416, 420, 421, 427, 428, 434, 435, 441, 442, 448, 449, 455, 456, 460, 461, 467, 468, 474, 475]
noncomputable def tsK : List Addr := [434, 441, 448, 455, 460]
noncomputable def tsL : List Addr := [458, 451, 444, 437, 430]
noncomputable def q : Program := view pw [60]
noncomputable def loose : List Str := (["_wall", "LispSignal", "NEWLINE", "line_start", "line_end", "next_start", "lines_target", "is_line_end", "codes_between", "in_order", "regions_edit", "unit_around", "units_regions", "units_edit", "by_chars", "chars_regions", "chars_edit", "lines_ahead", "lines_edit", "lines_back_regions", "lines_back_edit", "WHITESPACE", "WORD", "PUNCTUATION", "INHERITS", "KINDS", "FLAGS", "Syntax", "sorted_flags", "read_syntax", "SyntaxTable", "letters", "standard_table", "TextRow", "syntax_at", "is_of", "skip_forward", "skip_backward", "forward_by", "forward_word", "_law_draw", "_law_deck_of", "_law_one", "_law_some_codes", "_law_done", "_law_stepped", "_law_mover_of", "_law_are_chars_right", "_law_are_words_right", "_law_are_lines_right", "_law_line_two"] : List String).map u
noncomputable abbrev rw0 : OpenLaw := PySem.Challenge.rw_pq0280_01
noncomputable def Hk : Hook := kmHook Kf asK (fun _ => by kernel_rfl) tsL
end Mine
end
section
open PySem PySem.W PyProof.Rows
namespace Mine
/-- the top's run over a heap kept as a tree; the step is handed in -/
noncomputable def topRunT (stp : SharedT → Thread → Option (SharedT × Thread)) (ok : Thread → Bool) : Nat → SharedT → Thread → Option SharedT
  | 0, _, _ => none
  | n + 1, s, t => match through t with
    | true => some s
    | false => match ok t with
      | false => none
      | true => match stp s t with
        | some (s', t') => topRunT stp ok n s' t'
        | none => none
theorem topRunT_of {tb : String → Option Builtin} {p : Program} {w : World} {n₀ : Nat} {ann : Option Value} : ∀ {n : Nat} {s s' : SharedT} {t : Thread},
    topRunT (stepT (denote tb) p w) (stepOk n₀ ann) n s t = some s' → topRun tb p w n₀ ann n s.abs t = some s'.abs
  | 0, _, _, _, h => by cases h
  | n + 1, s, s', t, h => by
    unfold topRunT at h
    unfold topRun
    cases he : through t with
    | true => rw [he] at h; cases h; rfl
    | false =>
      rw [he] at h
      cases hk : stepOk n₀ ann t with
      | false => rw [hk] at h; cases h
      | true =>
        rw [hk] at h
        cases hs : stepT (denote tb) p w s t with
        | none => rw [hs] at h; cases h
        | some r => obtain ⟨s₂, t₂⟩ := r; rw [hs] at h; dsimp only; rw [stepT_spec hs]; exact topRunT_of h
/-- a list of objects as a tree, each place looked up once -/
noncomputable def treeOf : List Obj → Nat → BT → Option BT
  | [], _, t => some t
  | o :: r, n, t => match ((t.ins n o).get n).isSome with
    | true => treeOf r (n + 1) (t.ins n o)
    | false => none
theorem treeOf_abs {life : Life} : ∀ {l : List Obj} {n : Nat} {t t' : BT}, treeOf l n t = some t' → absHeap t' (n + l.length) life = ⟨(absHeap t n life).objs ++ l.toArray, life⟩
  | [], n, t, t', h => by cases h; simp [absHeap]
  | o :: r, n, t, t', h => by
    unfold treeOf at h
    cases hg : ((t.ins n o).get n).isSome with
    | false => rw [hg] at h; cases h
    | true =>
      rw [hg] at h
      have e := treeOf_abs (life := life) h
      rw [List.length_cons, show n + (r.length + 1) = n + 1 + r.length by lia, e, absHeap_ins hg]
      show Heap.mk _ _ = Heap.mk _ _
      simp [Heap.push]
noncomputable def asT (s : Shared) : Option SharedT := (treeOf s.heap.objs.toList 0 .nil).map fun T => ⟨T, s.heap.objs.toList.length, s.heap.life, s.gens, s.drawn, s.toks, s.os⟩
theorem asT_abs {s : Shared} {S : SharedT} (h : asT s = some S) : S.abs = s := by
  obtain ⟨T, h1, rfl⟩ := Option.map_eq_some_iff.mp h
  have e := treeOf_abs (life := s.heap.life) h1
  rw [Nat.zero_add] at e
  show Shared.mk _ _ _ _ _ = s
  rw [e]
  obtain ⟨⟨objs, life⟩, gens, drawn, toks, os⟩ := s
  simp [absHeap, BT.list]
noncomputable def endsT (stp : (Code → Sem Fin) → Program → World → SharedT → Thread → Option (SharedT × Thread)) (den : (String → Option Builtin) → Code → Sem Fin) (tb : String → Option Builtin) (p : Program) (w : World) (N : Nat) : Option Shared :=
  (fencedOpening tb p w N).bind fun s₀ => match s₀.heap.isNs mainGlobals && s₀.gens.size == 0 with
    | true => (asT s₀).bind fun S₀ => (topRunT (stp (den tb) p w) (stepOk s₀.heap.objs.size (s₀.heap.nsMap mainGlobals "__annotations__")) N S₀ (topStub p)).bind fun S₁ =>
      match staticsOk (importedModules p.main.body) s₀.heap S₁.abs.heap && namesBound p S₁.abs.heap && gensDone S₁.abs && laidKept s₀.heap S₁.abs.heap with
      | true => some S₁.abs
      | false => none
    | false => none
theorem ends_of {tb : String → Option Builtin} {p : Program} {w : World} {N : Nat} {s : Shared} (h : endsT stepT denote tb p w N = some s) : openEnds tb p w N = some s := by
  obtain ⟨s₀, h0, h⟩ := Option.bind_eq_some_iff.mp h
  refine Option.bind_eq_some_iff.mpr ⟨s₀, h0, ?_⟩
  unfold topFrom
  cases hc : s₀.heap.isNs mainGlobals && s₀.gens.size == 0 with
  | false => rw [hc] at h; cases h
  | true =>
    rw [hc] at h
    obtain ⟨S₀, hS, h⟩ := Option.bind_eq_some_iff.mp h
    obtain ⟨S₁, h1, h⟩ := Option.bind_eq_some_iff.mp h
    have e := topRunT_of h1
    rw [asT_abs hS] at e
    exact Option.bind_eq_some_iff.mpr ⟨S₁.abs, e, h⟩
/-- the head's look in one, the step, the table and the looks handed in -/
noncomputable def LeftT (stp : (Code → Sem Fin) → Program → World → SharedT → Thread → Option (SharedT × Thread)) (den : (String → Option Builtin) → Code → Sem Fin) (tb : String → Option Builtin)
    {β α : Type} (sn : Program → List Str → List Str → (Shared → Bool) → Bool → Shared → β) (good : β) (im : List Stmt → List Str) (p q : Program) (loose : List Str) (Xt : Shared → Bool) (Yf : Shared → α) (Ya : World → α) (N : Nat) : Prop :=
  ∀ w, (endsT stp den tb p w N).map (fun s => (sn q loose (im p.main.body) Xt true s, Yf s)) = some (good, Ya w)
theorem left_of {p q : Program} {loose : List Str} {Xt : Shared → Bool} {α : Type} {Yf : Shared → α} {Ya : World → α} {N : Nat}
    (h : LeftT stepT denote treeTable openSeen (openGood q loose) importedModules p q loose Xt Yf Ya N) : LeftO p q loose Xt Yf Ya N := fun w => by
  obtain ⟨s, h1, h2⟩ := Option.map_eq_some_iff.mp (h w)
  exact Option.map_eq_some_iff.mpr ⟨s, ends_of h1, h2⟩
end Mine
end
section
open PySem PySem.W PyProof.Rows
set_option maxHeartbeats 0
namespace Mine
theorem left : LeftO pw q loose (fun s => xlAt q [] s && recOk (RowW.records rw0.row.toRowW) s) Hk.obs Hk.val 6000 := left_of (by
  rw [PySem.W.Fast.te10156331382660048174, PySem.W.Fast.te11892475500146522536, PySem.W.Fast.te4187177175401517315, PySem.W.Fast.te5923862056798008813, PySem.W.Fast.te14364793385576792824]
  intro w; kernel_rfl)
end Mine
end
section
open PySem PySem.W PyProof.Rows
set_option maxHeartbeats 0
namespace Mine
theorem ws (h : rw0.row.wellSaid = true → rw0.row.Holds) : rw0.Holds := by
  refine holds_law (l := rw0) ?_ h
  delta OpenLaw.wellSaid OpenRow.wellSaid OpenRow.partSaid OpenScript.wellSaid looksOpen
  repeat' (with_reducible refine look_both ?_ ?_)
  all_goals decide +kernel
end Mine
end
section
open PySem PySem.W PyProof.Rows PySem.Calls
namespace Mine
/-- what is never turned: an address's object -/
noncomputable abbrev IM := Addr → Option Obj
noncomputable def Le (I I' : IM) : Prop := ∀ a o, I a = some o → I' a = some o
theorem Le.refl (I : IM) : Le I I := fun _ _ e => e
theorem Le.trans {I I' I'' : IM} (x : Le I I') (y : Le I' I'') : Le I I'' := fun a o e => y a o (x a o e)
/-- a fact of a value over what is never turned -/
structure VP where
  p : IM → Value → Prop
  mono : ∀ {I I' : IM} {v : Value}, Le I I' → p I v → p I' v
/-- a fact of an object -/
structure OP where
  p : IM → Obj → Prop
  mono : ∀ {I I' : IM} {o : Obj}, Le I I' → p I o → p I' o
noncomputable abbrev JM := Addr → OP
noncomputable abbrev Rho := List (Str × VP)
/-- the defs that make lambdas: name, code, table -/
noncomputable def tabsL : List (Str × Addr × Addr) := [(u "_law_stepped", 434, 430), (u "_law_mover_of", 441, 437), (u "_law_are_chars_right", 448, 444), (u "_law_are_words_right", 455, 451), (u "_law_are_lines_right", 460, 458)]
noncomputable def lamQ (qual : Str) : Str := (qual ++ ".<locals>.") ++ "<lambda>"
/-- the addresses that may be turned -/
noncomputable abbrev Mut := Addr → Prop
structure St where
  w : World
  G : Heap
  mg : Str → Option Value
  mb : Str → Option Value
  kin : (Kf w.params).In G
  top : TopRead q loose mg mb G
  hd : ∀ t ∈ tabsL, CodeHd G t.2.1 t.2.2
  last : ∃ a o, G.get? a = some o ∧ G.objs.size ≤ a + 1
  bm : ∃ bm ob, mg "__builtins__" = some (.ref bm) ∧ bm ≠ builtinsNs ∧ G.get? bm = some ob ∧ ob.cls = .type "module" ∧ ob.dict = some builtinsNs ∧ ob.data = .plain
noncomputable def IsTab (b : Addr) : Prop := ∃ t ∈ tabsL, t.2.2 = b
structure TabOk (I : IM) (h : Heap) (t : Str × Addr × Addr) : Prop where
  off : I t.2.2 = none
  is : ∃ ps, h.get? t.2.2 = some (tabObj ps) ∧ TriplesOk ps.toList ∧ ∀ pos cv, codeAmong pos ps.toList = some cv → ∃ c' oc vs tk, cv = .ref c' ∧ I c' = some oc ∧ oc.data = .fields vs ∧ vs[1]? = some (.str (lamQ t.1) tk)
noncomputable def InFr (l : List Env) (b : Addr) : Prop := ∃ e ∈ l, e.frame = some b
noncomputable def FrAt (d : Mut) (I : IM) (h : Heap) (env : Env) : Prop :=
  env.scope.kind ≠ .module ∧ ∃ L o es ep, env.frame = some L ∧ I L = none ∧ ¬ d L ∧ ¬ IsTab L ∧ h.get? L = some o ∧ o.data = .dict es ep
/-- the state between two steps -/
structure Ok (S : St) (d : Mut) (I : IM) (J : JM) (l : List Env) (h : Heap) : Prop where
  imm : ∀ a o, I a = some o → h.get? a = some o
  base : ∀ a o, S.G.get? a = some o → I a = some o
  tabs : ∀ t ∈ tabsL, TabOk I h t
  fr : ∀ env ∈ l, FrAt d I h env
  dI : ∀ b, d b → I b = none
  dT : ∀ b, d b → ¬ IsTab b
  dk : ∀ b, d b → ∃ o, h.get? b = some o ∧ (J b).p I o
/-- what a piece of the run leaves as it was (a frame: its names) -/
noncomputable def Step (d : Mut) (l : List Env) (h h' : Heap) : Prop :=
  ∀ b o, h.get? b = some o → h'.get? b = some o ∨ IsTab b ∨ d b ∨ (InFr l b ∧ ∀ m, h.Ns b m → h'.Ns b m)
theorem Step.refl (d : Mut) (l : List Env) (h : Heap) : Step d l h h := fun _ _ e => .inl e
theorem Step.of_keeps {d : Mut} {l : List Env} {h h' : Heap} (k : ∀ b o, h.get? b = some o → h'.get? b = some o) : Step d l h h' := fun b o e => .inl (k b o e)
theorem ns_of_get {h h' : Heap} {b : Addr} {o : Obj} {m : Str → Option Value} (e : h.get? b = some o) (e' : h'.get? b = some o) (hn : h.Ns b m) : h'.Ns b m := by
  obtain ⟨o', es, ep, a, r⟩ := hn
  rw [e] at a; cases a
  exact ⟨o, es, ep, e', r⟩
theorem ns_there {h : Heap} {b : Addr} {m : Str → Option Value} (hn : h.Ns b m) : ∃ o, h.get? b = some o := let ⟨o, _, _, a, _⟩ := hn; ⟨o, a⟩
theorem Step.ns' {d : Mut} {l : List Env} {h h' : Heap} (x : Step d l h h') {b : Addr} {m : Str → Option Value} (hd : ¬ d b) (ht : ¬ IsTab b) (hn : h.Ns b m) : h'.Ns b m := by
  obtain ⟨o, ho⟩ := ns_there hn
  rcases x b o ho with z | z | z | ⟨_, z⟩
  · exact ns_of_get ho z hn
  · exact absurd z ht
  · exact absurd z hd
  · exact z m hn
theorem Step.trans {d : Mut} {l : List Env} {h h' h'' : Heap} (x : Step d l h h') (y : Step d l h' h'') : Step d l h h'' := by
  intro b o e
  by_cases ht : IsTab b
  · exact .inr (.inl ht)
  by_cases hd : d b
  · exact .inr (.inr (.inl hd))
  rcases x b o e with a | a | a | ⟨a, a'⟩
  · rcases y b o a with c | c | c | ⟨c, c'⟩
    · exact .inl c
    · exact .inr (.inl c)
    · exact .inr (.inr (.inl c))
    · exact .inr (.inr (.inr ⟨c, fun m hn => c' m (ns_of_get e a hn)⟩))
  · exact .inr (.inl a)
  · exact .inr (.inr (.inl a))
  · exact .inr (.inr (.inr ⟨a, fun m hn => y.ns' hd ht (a' m hn)⟩))
/-- from a frame's own steps to its caller's -/
theorem Step.out {d : Mut} {env : Env} {l : List Env} {h₀ h h' : Heap} {L : Addr} (x : Step d l h₀ h) (hf : env.frame = some L) (hL : h₀.get? L = none) (y : Step d (env :: l) h h') : Step d l h₀ h' := by
  intro b o e
  have hb : b ≠ L := fun q => by rw [q, hL] at e; cases e
  have inn : InFr (env :: l) b → InFr l b := fun ⟨e', he, hf'⟩ => by
    rcases List.mem_cons.mp he with rfl | he
    · rw [hf] at hf'; exact absurd (Option.some.inj hf').symm hb
    · exact ⟨e', he, hf'⟩
  by_cases ht : IsTab b
  · exact .inr (.inl ht)
  by_cases hd : d b
  · exact .inr (.inr (.inl hd))
  rcases x b o e with a | a | a | ⟨a, a'⟩
  · rcases y b o a with c | c | c | ⟨c, c'⟩
    · exact .inl c
    · exact .inr (.inl c)
    · exact .inr (.inr (.inl c))
    · exact .inr (.inr (.inr ⟨inn c, fun m hn => c' m (ns_of_get e a hn)⟩))
  · exact .inr (.inl a)
  · exact .inr (.inr (.inl a))
  · exact .inr (.inr (.inr ⟨a, fun m hn => y.ns' hd ht (a' m hn)⟩))
inductive Out where
  | val (P : VP)
  | exc
  | new (P : VP)
/-- an exception of the program's own class: noted in a frame already, or just made -/
noncomputable def FlyK (tr : Bool) (B : Heap) (l : List Env) (e : Addr) (a0 : Value) (h : Heap) : Prop :=
  B.StaysIn h ∧ B.get? e = none ∧ h.FunFrames B l ∧ (Heap.TracedW h B e (.ref 38) a0 ∨ (tr = false ∧ ∃ oe vs, h.get? e = some oe ∧ oe.cls = .ref 38 ∧ oe.data = .fields vs ∧ vs[1]? = some .none ∧ vs[0]? = some a0))
/-- an exception of the program's own class flies -/
noncomputable def Fly (tr : Bool) (S : St) (d : Mut) (l : List Env) (e : Addr) (h : Heap) (I : IM) (J : JM) (h' : Heap) : Prop :=
  ∃ B a0, FlyK tr B l e a0 h' ∧ Ok S d I J [] B ∧ (∀ env ∈ l, FrAt d I h' env) ∧
    ∀ b o, h.get? b = some o → B.get? b = some o ∨ IsTab b ∨ d b ∨ (InFr l b ∧ ∀ m, h.Ns b m → h'.Ns b m)
theorem Fly.any {S : St} {d : Mut} {l : List Env} {e : Addr} {h h' : Heap} {I : IM} {J : JM} (fl : Fly true S d l e h I J h') : Fly false S d l e h I J h' :=
  let ⟨B, a0, ⟨f1, f2, f3, f4⟩, r⟩ := fl; ⟨B, a0, ⟨f1, f2, f3, f4.elim .inl fun q => Bool.noConfusion q.1⟩, r⟩
noncomputable def Post (S : St) (d : Mut) (l : List Env) (I : IM) (J : JM) (s : Shared) (r : Out) (Q E : Value → Shared → Prop) : Prop := match r with
  | .val P => ∀ v h' I' tk, Le I I' → Ok S d I' J l h' → Step d l s.heap h' → P.p I' v → Q v { s with heap := h', toks := tk }
  | .exc => ∀ e h' I' tk, Le I I' → Fly true S d l e s.heap I' J h' → E (.ref e) { s with heap := h', toks := tk }
  | .new P => ∀ a h' I' tk, Le I I' → Ok S d I' J l h' → Step d l s.heap h' → P.p I' (.ref a) → s.heap.get? a = none → Q (.ref a) { s with heap := h', toks := tk }
structure ACx (A : Around) (l : List Env) (k : Nat) : Prop where
  frames : A.frames = some l
  handled : A.handled = none
  depth : A.depth + 4 * k ≤ 900
  units : A.units + 64 * k ≤ 9000
theorem ACx.le {A : Around} {l : List Env} {k k' : Nat} (x : ACx A l k) (h : k' ≤ k) : ACx A l k' := ⟨x.frames, x.handled, by have := x.depth; lia, by have := x.units; lia⟩
inductive Args (I : IM) : List VP → List Value → Prop where
  | nil : Args I [] []
  | cons {P : VP} {Ps : List VP} {v : Value} {vs : List Value} : P.p I v → Args I Ps vs → Args I (P :: Ps) (v :: vs)
theorem Args.mono {I I' : IM} (k : Le I I') : ∀ {Ps : List VP} {vs : List Value}, Args I Ps vs → Args I' Ps vs
  | _, _, .nil => .nil
  | P :: _, _, .cons h r => .cons (P.mono k h) (Args.mono k r)
noncomputable def CallV (S : St) (d : Mut) (k : Nat) (J : JM) (f : Value) (I₁ : IM) (Ps : List VP) (r : Out) (J' : JM) : Prop :=
  ∀ {A : Around} {l : List Env} {I : IM} {s : Shared} {vs : List Value} {Q E : Value → Shared → Prop}, Le I₁ I → ACx A l k → Ok S d I J l s.heap → Args I Ps vs → Post S d l I J' s r Q E → wpAny (model pw S.w) A (call f vs []) Q E s
noncomputable abbrev CallOk (S : St) (d : Mut) (k : Nat) (J : JM) (f : Addr) (Ps : List VP) (r : Out) (J' : JM) : Prop := CallV S d k J (.ref f) (fun _ => none) Ps r J'
structure Sig where
  qual : Str
  scope : Scope
  cd : Value
  /-- the own cells that are told -/
  own : List (Str × Addr)
noncomputable abbrev Sig.env (σ : Sig) (L a : Addr) (cl : List (Str × Addr)) : Env := envX σ.qual σ.scope L a σ.cd cl
/-- where a text is run: the environment, the frame's environment, the frame -/
structure Pl where
  env : Env
  fe : Env
  L : Addr
structure Pl.IsFn (pl : Pl) : Prop where
  same : pl.fe = pl.env
  loc : pl.env.locals = pl.L
noncomputable abbrev Sig.pl (σ : Sig) (L a : Addr) (cl : List (Str × Addr)) : Pl := ⟨σ.env L a cl, σ.env L a cl, L⟩
/-- what a cell holds: never turned, or told by J -/
noncomputable def CellHas (d : Mut) (J : JM) (I : IM) (c : Addr) (P : VP) : Prop := (∃ o v, I c = some o ∧ o.data = .cell (some v) ∧ P.p I v) ∨ (d c ∧ ∀ I' o, Le I I' → (J c).p I' o → ∃ v, o.data = .cell (some v) ∧ P.p I' v)
theorem CellHas.mono {d : Mut} {J : JM} {I I' : IM} {c : Addr} {P : VP} (k : Le I I') (h : CellHas d J I c P) : CellHas d J I' c P := h.imp (fun ⟨o, v, a, b, q⟩ => ⟨o, v, k _ _ a, b, P.mono k q⟩) fun ⟨a, b⟩ => ⟨a, fun I₂ o l => b I₂ o (k.trans l)⟩
noncomputable def Reads (d : Mut) (J : JM) (σ : Sig) (cl : List (Str × Addr)) (m : Str → Option Value) (I : IM) (x : Str) (P : VP) : Prop := match σ.scope.names.lookup x with
  | some .local => ∃ v, m x = some v ∧ P.p I v
  | some .cell => ∃ c, cl.lookup x = some c ∧ CellHas d J I c P
  | some .free => ∃ c, cl.lookup x = some c ∧ CellHas d J I c P
  | _ => False
theorem Reads.turn {d d' : Mut} {J J' : JM} {σ : Sig} {cl : List (Str × Addr)} {m : Str → Option Value} {I I' : IM} {x : Str} {P : VP} (l : Le I I') (k : ∀ c, cl.lookup x = some c → CellHas d J I c P → CellHas d' J' I' c P) (h : Reads d J σ cl m I x P) : Reads d' J' σ cl m I' x P := by
  unfold Reads at h ⊢
  split
  · rename_i e; rw [e] at h; obtain ⟨v, a, b⟩ := h; exact ⟨v, a, P.mono l b⟩
  · rename_i e; rw [e] at h; obtain ⟨c, a, b⟩ := h; exact ⟨c, a, k _ a b⟩
  · rename_i e; rw [e] at h; obtain ⟨c, a, b⟩ := h; exact ⟨c, a, k _ a b⟩
  · rename_i e1 e2 e3
    split at h
    · rename_i e; exact absurd e e1
    · rename_i e; exact absurd e e2
    · rename_i e; exact absurd e e3
    · exact h
noncomputable def Holds (d : Mut) (J : JM) (σ : Sig) (ρ : Rho) (cl : List (Str × Addr)) (m : Str → Option Value) (I : IM) : Prop := ∀ x P, ρ.lookup x = some P → Reads d J σ cl m I x P
theorem Holds.turn {d d' : Mut} {J J' : JM} {σ : Sig} {ρ : Rho} {cl : List (Str × Addr)} {m : Str → Option Value} {I I' : IM} (l : Le I I') (k : ∀ x c P, cl.lookup x = some c → CellHas d J I c P → CellHas d' J' I' c P) (h : Holds d J σ ρ cl m I) : Holds d' J' σ ρ cl m I' := fun x P e => (h x P e).turn l fun c hc => k x c P hc
theorem Holds.mono {d : Mut} {J : JM} {σ : Sig} {ρ : Rho} {cl : List (Str × Addr)} {m : Str → Option Value} {I I' : IM} (k : Le I I') (h : Holds d J σ ρ cl m I) : Holds d J σ ρ cl m I' := h.turn k fun _ _ _ _ => .mono k
structure FrameOk (S : St) (d : Mut) (σ : Sig) (k : Nat) (J : JM) (ρ : Rho) (A : Around) (l : List Env) (pl : Pl) (h₀ : Heap) (I₀ I : IM) (m : Str → Option Value) (h : Heap) : Prop where
  cx : ACx A (pl.fe :: l) k
  esc : pl.env.scope = σ.scope
  eg : pl.env.globals = mainGlobals
  eb : pl.env.builtins = builtinsNs
  eq : pl.env.qual = σ.qual ++ ".<locals>."
  ec : pl.env.code = σ.cd
  ff : pl.fe.frame = some pl.L
  kind : σ.scope.kind = .function
  ok : Ok S d I J (pl.fe :: l) h
  since : Step d l h₀ h
  new : h₀.get? pl.L = none
  above : S.G.objs.size ≤ pl.L
  apart : ¬ InFr l pl.L
  ns : h.Ns pl.env.locals m
  own : (¬ d pl.env.locals ∧ ¬ IsTab pl.env.locals) ∨ ∀ (h' : Heap) (I' : IM), (∀ b, d b → ∃ o, h'.get? b = some o ∧ (J b).p I' o) → h'.Ns pl.env.locals m
  nsf : ∃ mf, h.Ns pl.L mf
  le : Le I₀ I
  rho : Holds d J σ ρ pl.env.cells m I
  oc : ∀ x c, σ.own.lookup x = some c → pl.env.cells.lookup x = some c ∧ ∀ y, pl.env.cells.lookup y = some c → y = x
section
variable {S : St} {d : Mut} {σ : Sig} {k : Nat} {J : JM} {ρ ρ' : Rho} {A : Around} {l : List Env} {pl : Pl} {h₀ : Heap} {I₀ I I' : IM} {m : Str → Option Value} {h h' : Heap}
theorem FrameOk.frAt (F : FrameOk S d σ k J ρ A l pl h₀ I₀ I m h) : I pl.L = none ∧ ¬ d pl.L ∧ ¬ IsTab pl.L := by
  obtain ⟨_, L', o, es, ep, hf, r1, r2, r3, _⟩ := F.ok.fr _ (.head _)
  obtain rfl : pl.L = L' := Option.some.inj (F.ff.symm.trans hf)
  exact ⟨r1, r2, r3⟩
theorem FrameOk.step (F : FrameOk S d σ k J ρ A l pl h₀ I₀ I m h) (hl : Le I I') (ok : Ok S d I' J (pl.fe :: l) h') (st : Step d (pl.fe :: l) h h') : FrameOk S d σ k J ρ A l pl h₀ I₀ I' m h' :=
  ⟨F.cx, F.esc, F.eg, F.eb, F.eq, F.ec, F.ff, F.kind, ok, F.since.out F.ff F.new st, F.new, F.above, F.apart, F.own.elim (fun q => st.ns' q.1 q.2 F.ns) (fun q => q _ _ ok.dk), F.own, F.nsf.imp fun _ hn => st.ns' F.frAt.2.1 F.frAt.2.2 hn, F.le.trans hl, F.rho.mono hl, F.oc⟩
theorem FrameOk.fr (F : FrameOk S d σ k J ρ A l pl h₀ I₀ I m h) : Fr S.G pl.L h (Classical.choose F.nsf) :=
  ⟨Classical.choose_spec F.nsf, fun b o e => F.ok.imm _ _ (F.ok.base _ _ e), F.above⟩
theorem FrameOk.facts (F : FrameOk S d σ k J ρ A l pl h₀ I₀ I m h) (hρ : Holds d J σ ρ pl.env.cells m I → Holds d J σ ρ' pl.env.cells m I) : FrameOk S d σ k J ρ' A l pl h₀ I₀ I m h :=
  ⟨F.cx, F.esc, F.eg, F.eb, F.eq, F.ec, F.ff, F.kind, F.ok, F.since, F.new, F.above, F.apart, F.ns, F.own, F.nsf, F.le, hρ F.rho, F.oc⟩
/-- from here on -/
theorem FrameOk.rebase (F : FrameOk S d σ k J ρ A l pl h₀ I₀ I m h) : FrameOk S d σ k J ρ A l pl h₀ I I m h :=
  ⟨F.cx, F.esc, F.eg, F.eb, F.eq, F.ec, F.ff, F.kind, F.ok, F.since, F.new, F.above, F.apart, F.ns, F.own, F.nsf, Le.refl _, F.rho, F.oc⟩
theorem FrameOk.knd (F : FrameOk S d σ k J ρ A l pl h₀ I₀ I m h) : pl.env.scope.kind = .function := by rw [F.esc]; exact F.kind
theorem FrameOk.kof (F : FrameOk S d σ k J ρ A l pl h₀ I₀ I m h) {x : Str} {nk : Option NameKind} (e : σ.scope.names.lookup x = nk) : pl.env.kindOf x = nk := by
  unfold Env.kindOf; rw [F.esc]; exact e
end
noncomputable def IM.put (I : IM) (a : Addr) (o : Obj) : IM := fun b => if b = a then some o else I b
theorem IM.put_self (I : IM) (a : Addr) (o : Obj) : I.put a o a = some o := if_pos rfl
theorem IM.put_ne {I : IM} {a b : Addr} {o : Obj} (h : b ≠ a) : I.put a o b = I b := if_neg h
theorem Le.put {I : IM} {a : Addr} {o : Obj} (h : I a = none) : Le I (I.put a o) := fun b o' e => by
  by_cases q : b = a
  · subst q; rw [h] at e; cases e
  · rw [IM.put_ne q]; exact e
section
variable {S : St} {d : Mut} {J : JM} {l : List Env} {I I' : IM} {h h' : Heap} {a : Addr} {o : Obj}
theorem Ok.off (ok : Ok S d I J l h) (ha : h.get? a = none) : I a = none ∧ ¬ d a ∧ ¬ IsTab a ∧ ∀ env ∈ l, env.frame ≠ some a := by
  have big : ∀ {b : Addr} {o : Obj}, h.get? b = some o → b ≠ a := fun e q => by rw [q, ha] at e; cases e
  refine ⟨?_, ?_, ?_, ?_⟩
  · cases q : I a with
    | none => rfl
    | some o => exact absurd rfl (big (ok.imm _ _ q))
  · intro q
    obtain ⟨o, e, _⟩ := ok.dk _ q
    exact big e rfl
  · rintro ⟨t, ht, rfl⟩
    obtain ⟨ps, e, _⟩ := (ok.tabs t ht).is
    exact big e rfl
  · intro env he q
    obtain ⟨_, L, o, es, ep, hf, _, _, _, e, _⟩ := ok.fr env he
    rw [hf] at q
    exact big e (Option.some.inj q)
theorem get_size (h : Heap) : h.get? h.objs.size = none := by
  cases q : h.get? h.objs.size with
  | none => rfl
  | some o => exact absurd (Heap.lt_size q) (Nat.lt_irrefl _)
theorem FrAt.keeps {env : Env} (x : FrAt d I h env) (k : ∀ b o, h.get? b = some o → h'.get? b = some o) : FrAt d I h' env :=
  let ⟨a, L, o, es, ep, b, c, e, f, g, r⟩ := x; ⟨a, L, o, es, ep, b, c, e, f, k _ _ g, r⟩
theorem Ok.grow (ok : Ok S d I J l h) (k : ∀ b o, h.get? b = some o → h'.get? b = some o) : Ok S d I J l h' :=
  ⟨fun a o e => k _ _ (ok.imm a o e), ok.base, fun t ht => ⟨(ok.tabs t ht).off, let ⟨ps, e, r⟩ := (ok.tabs t ht).is; ⟨ps, k _ _ e, r⟩⟩, fun env he => (ok.fr env he).keeps k, ok.dI, ok.dT, fun b hb => let ⟨o, e, j⟩ := ok.dk b hb; ⟨o, k _ _ e, j⟩⟩
theorem Ok.put (ok : Ok S d I J l h) (hI : I a = none) (ha : h.get? a = some o) (hd : ¬ d a) (ht : ¬ IsTab a) (hf : ∀ env ∈ l, env.frame ≠ some a) : Ok S d (I.put a o) J l h := by
  have ne : ∀ {b : Addr}, b ≠ a → I.put a o b = I b := fun q => IM.put_ne q
  refine ⟨fun b o' e => ?_, fun b o' e => Le.put hI _ _ (ok.base b o' e), fun t hm => ⟨?_, ?_⟩, fun env he => ?_, fun b hb => ?_, ok.dT, fun b hb => let ⟨o', e', j⟩ := ok.dk b hb; ⟨o', e', (J b).mono (Le.put hI) j⟩⟩
  · by_cases q : b = a
    · subst q; rw [IM.put_self] at e; cases e; exact ha
    · rw [ne q] at e; exact ok.imm _ _ e
  · rw [ne fun q => ht ⟨t, hm, q⟩]; exact (ok.tabs t hm).off
  · obtain ⟨ps, e, tr, r⟩ := (ok.tabs t hm).is
    refine ⟨ps, e, tr, fun pos cv hc => ?_⟩
    obtain ⟨c', oc, vs, tk, h1, h2, h3⟩ := r pos cv hc
    exact ⟨c', oc, vs, tk, h1, Le.put hI _ _ h2, h3⟩
  · obtain ⟨hk, L, o', es, ep, hL, b, c, f, g, r⟩ := ok.fr env he
    exact ⟨hk, L, o', es, ep, hL, by rw [ne fun q => hf env he (q ▸ hL)]; exact b, c, f, g, r⟩
  · rw [ne fun q => hd (q ▸ hb)]; exact ok.dI b hb
/-- what was not there in the beginning -/
theorem Step.fresh {h₀ : Heap} (st : Step d l h₀ h) (ok : Ok S d I J l h) (ha : h.get? a = none) : h₀.get? a = none := by
  cases q : h₀.get? a with
  | none => rfl
  | some o =>
    obtain ⟨_, o2, o3, o4⟩ := ok.off ha
    rcases st a o q with z | z | z | ⟨⟨env, he, hf⟩, _⟩
    · rw [ha] at z; cases z
    · exact absurd z o3
    · exact absurd z o2
    · exact absurd hf (o4 env he)
/-- a new object, never turned again -/
theorem Ok.new (ok : Ok S d I J l h) (k : ∀ b o, h.get? b = some o → h'.get? b = some o) (ha : h.get? a = none) (e : h'.get? a = some o) : Ok S d (I.put a o) J l h' ∧ Le I (I.put a o) :=
  let ⟨o1, o2, o3, o4⟩ := ok.off ha
  ⟨(ok.grow k).put o1 e o2 o3 o4, Le.put o1⟩
end
/-- e comes to r at every state that bears ρ -/
structure EvOk (S : St) (d : Mut) (σ : Sig) (k : Nat) (J : JM) (e : Expr) (ρ : Rho) (r : Out) : Prop where
  run :
  ∀ {A : Around} {l : List Env} {pl : Pl} {h₀ : Heap} {I₀ I : IM} {m : Str → Option Value} {s : Shared} {Q E : Value → Shared → Prop},
    FrameOk S d σ k J ρ A l pl h₀ I₀ I m s.heap → Post S d (pl.fe :: l) I J s r Q E → wpAny (model pw S.w) A (eval e pl.env) Q E s
structure TestOk (S : St) (d : Mut) (σ : Sig) (k : Nat) (J : JM) (e : Expr) (ρ : Rho) (b : Bool) : Prop where
  run :
  ∀ {A : Around} {l : List Env} {pl : Pl} {h₀ : Heap} {I₀ I : IM} {m : Str → Option Value} {s : Shared} {Q : Bool → Shared → Prop} {E : Value → Shared → Prop},
    FrameOk S d σ k J ρ A l pl h₀ I₀ I m s.heap →
    (∀ h' I' tk, Le I I' → Ok S d I' J (pl.fe :: l) h' → Step d (pl.fe :: l) s.heap h' → Q b { s with heap := h', toks := tk }) → wpAny (model pw S.w) A (isTrue e pl.env (eval e pl.env)) Q E s
structure ArgsOk (S : St) (d : Mut) (σ : Sig) (k : Nat) (J : JM) (es : List Expr) (ρ : Rho) (Ps : List VP) : Prop where
  run :
  ∀ {A : Around} {l : List Env} {pl : Pl} {h₀ : Heap} {I₀ I : IM} {m : Str → Option Value} {s : Shared} {pos : Pos} {Q : List Value → Shared → Prop} {E : Value → Shared → Prop},
    FrameOk S d σ k J ρ A l pl h₀ I₀ I m s.heap →
    (∀ vs h' I' tk, Le I I' → Ok S d I' J (pl.fe :: l) h' → Step d (pl.fe :: l) s.heap h' → Args I' Ps vs → Q vs { s with heap := h', toks := tk }) → wpAny (model pw S.w) A (spliced (backTo pos (starEach es pl.env))) Q E s
inductive BOut where
  | ret (P : VP)
  | exc
  | new (P : VP)
  | fall (ρ' : Rho)
noncomputable def BPost (S : St) (d : Mut) (σ : Sig) (k : Nat) (A : Around) (l : List Env) (pl : Pl) (h₀ : Heap) (I₀ : IM) (J' : JM) (s : Shared) (r : BOut) (Q : Flow → Shared → Prop) (E : Value → Shared → Prop) : Prop := match r with
  | .ret P => ∀ v h' I' tk, Le I₀ I' → Ok S d I' J' (pl.fe :: l) h' → Step d l h₀ h' → P.p I' v → Q (.ret v) { s with heap := h', toks := tk }
  | .exc => ∀ e h' I' tk, Le I₀ I' → Fly false S d (pl.fe :: l) e h₀ I' J' h' → E (.ref e) { s with heap := h', toks := tk }
  | .new P => ∀ a h' I' tk, Le I₀ I' → Ok S d I' J' (pl.fe :: l) h' → Step d l h₀ h' → P.p I' (.ref a) → h₀.get? a = none → Q (.ret (.ref a)) { s with heap := h', toks := tk }
  | .fall ρ' => ∀ h' I' m' tk, FrameOk S d σ k J' ρ' A l pl h₀ I₀ I' m' h' → Q .next { s with heap := h', toks := tk }
structure Blk (S : St) (d : Mut) (σ : Sig) (k : Nat) (J : JM) (ss : List Stmt) (ρ : Rho) (r : BOut) (J' : JM) : Prop where
  run :
  ∀ {A : Around} {l : List Env} {pl : Pl} {h₀ : Heap} {I₀ I : IM} {m : Str → Option Value} {s : Shared} {Q : Flow → Shared → Prop} {E : Value → Shared → Prop},
    pl.IsFn → FrameOk S d σ k J ρ A l pl h₀ I₀ I m s.heap → BPost S d σ k A l pl h₀ I₀ J' s r Q E → wpAny (model pw S.w) A (execs ss pl.env) Q E s
-- facts of values
noncomputable def isV (v : Value) : VP := ⟨fun _ x => x = v, fun _ h => h⟩
noncomputable def isInt (i : Int) : VP := ⟨fun _ v => ∃ t, v = .int i t, fun _ h => h⟩
noncomputable def isBool (b : Bool) : VP := ⟨fun _ v => v = .bool b, fun _ h => h⟩
noncomputable def isNone : VP := ⟨fun _ v => v = .none, fun _ h => h⟩
noncomputable def isStr (x : Str) : VP := ⟨fun _ v => ∃ t, v = .str x t, fun _ h => h⟩
noncomputable def isList (xs : List Int) : VP := ⟨fun I v => ∃ a its n, v = .ref a ∧ I a = some (listOf its n) ∧ IntsAre its.toList xs, fun k ⟨a, its, n, e, b, r⟩ => ⟨a, its, n, e, k _ _ b, r⟩⟩
noncomputable def isTup (Ps : List VP) : VP := ⟨fun I v => ∃ a vs n, v = .ref a ∧ I a = some ({ cls := .type "tuple", data := .seq (List.toArray vs) n } : Obj) ∧ Args I Ps vs, fun k ⟨a, vs, n, e, b, r⟩ => ⟨a, vs, n, e, k _ _ b, r.mono k⟩⟩
inductive FieldsAre (I : IM) : List (Str × VP) → List DictEntry → Prop
  | nil : FieldsAre I [] []
  | cons {n : Str} {P : VP} {fs : List (Str × VP)} {h : Int} {t : Tok} {v : Value} {es : List DictEntry} : P.p I v → handedIn v = true → FieldsAre I fs es → FieldsAre I ((n, P) :: fs) (⟨h, .str n t, v⟩ :: es)
theorem FieldsAre.mono {I I' : IM} (k : Le I I') : ∀ {fs : List (Str × VP)} {es : List DictEntry}, FieldsAre I fs es → FieldsAre I' fs es
  | _, _, .nil => .nil
  | (_, P) :: _, _, .cons h a r => .cons (P.mono k h) a (FieldsAre.mono k r)
noncomputable def isInst (C : Addr) (fs : List (Str × VP)) : VP := ⟨fun I v => ∃ x dx es n, v = .ref x ∧ I x = some (instObj C dx) ∧ I dx = some (dictOf es n) ∧ FieldsAre I fs es, fun k ⟨x, dx, es, n, e, a, b, r⟩ => ⟨x, dx, es, n, e, k _ _ a, k _ _ b, r.mono k⟩⟩
noncomputable abbrev isRow (codes : List Int) (place : Int) : VP := isInst 348 [(u "codes", isList codes), (u "place", isInt place)]
end Mine
end
section
open PySem PySem.W PyProof.Rows PySem.Calls PyProof
namespace Mine
section
variable {S : St} {d : Mut} {σ : Sig} {k : Nat} {J J' : JM} {ρ : Rho} {P P' : VP} {r : Out} {e e₁ e₂ e₃ : Expr} {pos : Pos} {x : Str}
theorem IntsAre.size {vs : List Value} {ns : List Int} (h : IntsAre vs ns) : vs.length = ns.length := by
  induction h with
  | nil => rfl
  | cons _ _ _ ih => simp [ih]
theorem EvOk.conv (c : ∀ I v, P.p I v → P'.p I v) (h : EvOk S d σ k J e ρ (.val P)) : EvOk S d σ k J e ρ (.val P') := .mk fun F hp => h.run F fun v h' I' tk hl ok st hv => hp v h' I' tk hl ok st (c _ _ hv)
theorem CellHas.at {l : List Env} {I : IM} {h : Heap} {c : Addr} (hc : CellHas d J I c P) (ok : Ok S d I J l h) : ∃ o v, h.get? c = some o ∧ o.data = .cell (some v) ∧ P.p I v := by
  rcases hc with ⟨o, v, hI, hd, hv⟩ | ⟨hm, hJ⟩
  · exact ⟨o, v, ok.imm _ _ hI, hd, hv⟩
  · obtain ⟨o, ho, hj⟩ := ok.dk c hm
    obtain ⟨v, a, b⟩ := hJ I o (Le.refl _) hj
    exact ⟨o, v, ho, a, b⟩
/-- no turn of the heap -/
theorem Post.here {l : List Env} {I : IM} {s : Shared} {Q E : Value → Shared → Prop} {v : Value} {tk : Nat} (hp : Post S d l I J s (.val P) Q E) (ok : Ok S d I J l s.heap) (hv : P.p I v) : Q v { s with toks := tk } :=
  hp v s.heap I tk (Le.refl _) ok (Step.refl _ _ _) hv
theorem EvOk.name (hk : (match σ.scope.names.lookup x with | some .local => true | some .cell => true | some .free => true | _ => false) = true) (h : ρ.lookup x = some P) (hd : (!(x == ("__debug__" : Str)) && !(x == ("__classdict__" : Str))) = true) : EvOk S d σ k J (.Name x pos) ρ (.val P) := .mk fun F hp => by
  have hr := F.rho x P h
  have hd1 : (x == ("__debug__" : Str)) = false := by simp only [Bool.and_eq_true, Bool.not_eq_true'] at hd; exact hd.1
  have hd2 : (x == ("__classdict__" : Str)) = false := by simp only [Bool.and_eq_true, Bool.not_eq_true'] at hd; exact hd.2
  refine wpAny_Name ?_ hd1
  unfold Reads at hr
  split at hr
  · rename_i q
    obtain ⟨v, hm, hv⟩ := hr
    exact wpAny_loadName_local F.knd (F.kof q) F.ns hm (hp.here (tk := _) F.ok hv)
  · rename_i q
    obtain ⟨c, hc, hI⟩ := hr
    obtain ⟨o, v, ho, hd, hv⟩ := hI.at F.ok
    exact wpAny_loadName_cell F.knd (F.kof q) hc ⟨o, ho, hd⟩ (hp.here (tk := _) F.ok hv)
  · rename_i q
    obtain ⟨c, hc, hI⟩ := hr
    obtain ⟨o, v, ho, hd, hv⟩ := hI.at F.ok
    exact wpAny_loadName_free F.knd (F.kof q) hc ⟨o, ho, hd⟩ (hp.here (tk := _) F.ok hv) hd2
  · exact hr.elim
theorem EvOk.glob {v : Value} (hk : σ.scope.names.lookup x = some .globalImplicit) (hg : ∀ P, nsIn (Kf P) mainGlobals x = some (some v)) (hd : (x == ("__debug__" : Str)) = false) : EvOk S d σ k J (.Name x pos) ρ (.val (isV v)) := .mk fun F hp =>
  Name_function_global F.knd (F.kof hk) (loadGlobal_global (by rw [F.eg]; exact S.top.g.keeps F.fr.keep) (mg_of S.kin S.top.g (hg _)) (hp.here (tk := _) F.ok rfl)) hd
theorem EvOk.blt {v : Value} (hk : σ.scope.names.lookup x = some .globalImplicit) (hg : ∀ P, nsIn (Kf P) mainGlobals x = some none) (hv : bootBuiltins x = some v) (hn : x ≠ "__name__") (hd : (x == ("__debug__" : Str)) = false) : EvOk S d σ k J (.Name x pos) ρ (.val (isV v)) := .mk fun F hp =>
  Name_function_global F.knd (F.kof hk) (loadGlobal_builtin (by rw [F.eg]; exact S.top.g.keeps F.fr.keep) (mg_none_of S.kin S.top.g (hg _)) (by rw [F.eb]; exact S.top.b.keeps F.fr.keep) ((S.top.builtins x hn).trans hv) (hp.here (tk := _) F.ok rfl)) hd
theorem EvOk.intC {i : Int} {n : Nat} : EvOk S d σ k J (.Constant (.int i) n pos) ρ (.val (isInt i)) := .mk fun F hp => wpAny_Constant_int (hp.here F.ok ⟨_, rfl⟩)
theorem EvOk.strC {t : Str} {n : Nat} : EvOk S d σ k J (.Constant (.str t) n pos) ρ (.val (isStr t)) := .mk fun F hp => Constant_str (hp.here F.ok ⟨_, rfl⟩)
theorem EvOk.noneC {n : Nat} : EvOk S d σ k J (.Constant .none n pos) ρ (.val isNone) := .mk fun F hp => Constant_none (hp.here (tk := _) F.ok rfl)
theorem EvOk.boolC {b : Bool} {n : Nat} : EvOk S d σ k J (.Constant (.bool b) n pos) ρ (.val (isBool b)) := .mk fun F hp => Constant_bool (hp.here (tk := _) F.ok rfl)
/-- two parts, then a step of the machine -/
theorem EvOk.two {op : Expr → Expr → Expr} {Pa Pr : VP} {t : Value → Value → Sem Value}
    (shape : ∀ {M : Model} {A : Around} {env : Env} {s : Shared} {Q E : Value → Shared → Prop}, wpAny M A (eval e₁ env) (fun a s₁ => wpAny M A (eval e₂ env) (fun b s₂ => wpAny M A (t a b) Q E s₂) E s₁) E s → wpAny M A (eval (op e₁ e₂) env) Q E s)
    (h₁ : EvOk S d σ k J e₁ ρ (.val Pa)) (h₂ : EvOk S d σ k J e₂ ρ (.val Pr))
    (h : ∀ {A : Around} {l : List Env} {I : IM} {s : Shared} {Q E : Value → Shared → Prop} {a b : Value}, Ok S d I J l s.heap → A.handled = Option.none → Pa.p I a → Pr.p I b → Post S d l I J s (.val P) Q E → wpAny (model pw S.w) A (t a b) Q E s) : EvOk S d σ k J (op e₁ e₂) ρ (.val P) := .mk fun {A l pl h₀ I₀ I m s Q E} F hp => by
  refine shape (h₁.run F fun v h' I' tk hl ok st hv => ?_)
  refine h₂.run (s := { s with heap := h', toks := tk }) (F.step hl ok st) fun v₂ h₂' I₂ tk₂ hl₂ ok₂ st₂ hv₂ => ?_
  exact h (s := { s with heap := h₂', toks := tk₂ }) ok₂ F.cx.handled (Pa.mono hl₂ hv) hv₂ fun v₃ h₃ I₃ tk₃ hl₃ ok₃ st₃ hv₃ => hp v₃ h₃ I₃ tk₃ ((hl.trans hl₂).trans hl₃) ok₃ ((st.trans st₂).trans st₃) hv₃
theorem EvOk.add {a b : Int} (h₁ : EvOk S d σ k J e₁ ρ (.val (isInt a))) (h₂ : EvOk S d σ k J e₂ ρ (.val (isInt b))) : EvOk S d σ k J (.BinOp e₁ .Add e₂ pos) ρ (.val (isInt (a + b))) :=
  EvOk.two (P := isInt (a + b)) (op := fun l r => .BinOp l .Add r pos) wpAny_BinOp h₁ h₂ fun ok _ ⟨_, ha⟩ ⟨_, hb⟩ hp => ha ▸ hb ▸ PySem.P.add_int (hp.here ok ⟨_, rfl⟩)
theorem EvOk.sub {a b : Int} (h₁ : EvOk S d σ k J e₁ ρ (.val (isInt a))) (h₂ : EvOk S d σ k J e₂ ρ (.val (isInt b))) : EvOk S d σ k J (.BinOp e₁ .Sub e₂ pos) ρ (.val (isInt (a - b))) :=
  EvOk.two (P := isInt (a - b)) (op := fun l r => .BinOp l .Sub r pos) wpAny_BinOp h₁ h₂ fun ok _ ⟨_, ha⟩ ⟨_, hb⟩ hp => ha ▸ hb ▸ PySem.P.sub_int (hp.here ok ⟨_, rfl⟩)
theorem EvOk.neg {a : Int} (h₁ : EvOk S d σ k J e ρ (.val (isInt a))) : EvOk S d σ k J (.UnaryOp .USub e pos) ρ (.val (isInt (-a))) := .mk fun {A l pl h₀ I₀ I m s Q E} F hp =>
  UnaryOp_ (h₁.run F fun v h' I' tk hl ok st ⟨_, hv⟩ => hv ▸ PySem.P.neg_int (hp _ h' I' _ hl ok st ⟨_, rfl⟩))
theorem cmp_ev {op : CmpOp} {Pa Pr : VP} {b : Bool} (h₁ : EvOk S d σ k J e₁ ρ (.val Pa)) (h₂ : EvOk S d σ k J e₂ ρ (.val Pr)) (hm : behindInMarks op e₂ = false)
    (h : ∀ {A : Around} {l : List Env} {I : IM} {s : Shared} {Q E : Value → Shared → Prop} {x y : Value}, Ok S d I J l s.heap → A.handled = Option.none → Pa.p I x → Pr.p I y → Post S d l I J s (.val (isBool b)) Q E → wpAny (model pw S.w) A (compareOp op x y) Q E s) :
    EvOk S d σ k J (.Compare e₁ [op] [e₂] pos) ρ (.val (isBool b)) := EvOk.two (op := fun l r => .Compare l [op] [r] pos) (fun h => wpAny_Compare1 h hm) h₁ h₂ h
/-- a comparison of two values -/
noncomputable def CmpIs (S : St) (d : Mut) (J : JM) (op : CmpOp) (Pa Pr : VP) (b : Bool) : Prop :=
  ∀ {A : Around} {l : List Env} {I : IM} {s : Shared} {Q E : Value → Shared → Prop} {x y : Value}, Ok S d I J l s.heap → A.handled = Option.none → Pa.p I x → Pr.p I y → Post S d l I J s (.val (isBool b)) Q E → wpAny (model pw S.w) A (compareOp op x y) Q E s
theorem cmp_lt {a b : Int} : CmpIs S d J .Lt (isInt a) (isInt b) (decide (a < b)) := fun ok _ ⟨_, ha⟩ ⟨_, hb⟩ hp => ha ▸ hb ▸ PySem.P.lt_int (hp.here (tk := _) ok rfl)
theorem cmp_le {a b : Int} : CmpIs S d J .LtE (isInt a) (isInt b) (decide (a ≤ b)) := fun ok _ ⟨_, ha⟩ ⟨_, hb⟩ hp => ha ▸ hb ▸ PySem.P.le_int (hp.here (tk := _) ok rfl)
theorem cmp_gt {a b : Int} : CmpIs S d J .Gt (isInt a) (isInt b) (decide (b < a)) := fun ok _ ⟨_, ha⟩ ⟨_, hb⟩ hp => ha ▸ hb ▸ PySem.P.gt_int (hp.here (tk := _) ok rfl)
theorem cmp_ge {a b : Int} : CmpIs S d J .GtE (isInt a) (isInt b) (decide (b ≤ a)) := fun ok _ ⟨_, ha⟩ ⟨_, hb⟩ hp => ha ▸ hb ▸ PySem.P.ge_int (hp.here (tk := _) ok rfl)
theorem cmp_eq {a b : Int} : CmpIs S d J .Eq (isInt a) (isInt b) (decide (a = b)) := fun ok _ ⟨_, ha⟩ ⟨_, hb⟩ hp => ha ▸ hb ▸ PySem.P.eq_int (hp.here (tk := _) ok (by show Value.bool _ = Value.bool _; congr 1))
theorem cmp_ne {a b : Int} : CmpIs S d J .NotEq (isInt a) (isInt b) (!decide (a = b)) := fun ok _ ⟨_, ha⟩ ⟨_, hb⟩ hp => ha ▸ hb ▸ PySem.P.ne_int (hp.here (tk := _) ok (by show Value.bool _ = Value.bool _; congr 1))
theorem EvOk.cmp {op : CmpOp} {Pa Pr : VP} {b : Bool} (c : CmpIs S d J op Pa Pr b) (h₁ : EvOk S d σ k J e₁ ρ (.val Pa)) (h₂ : EvOk S d σ k J e₂ ρ (.val Pr)) (hm : behindInMarks op e₂ = false) : EvOk S d σ k J (.Compare e₁ [op] [e₂] pos) ρ (.val (isBool b)) := cmp_ev h₁ h₂ hm c
theorem TestOk.cmp {op : CmpOp} {Pa Pr : VP} {b : Bool} (c : CmpIs S d J op Pa Pr b) (h₁ : EvOk S d σ k J e₁ ρ (.val Pa)) (h₂ : EvOk S d σ k J e₂ ρ (.val Pr)) (hm : behindInMarks op e₂ = false) : TestOk S d σ k J (.Compare e₁ [op] [e₂] pos) ρ b := .mk fun {A l pl h₀ I₀ I m s Q E} F hp => by
  refine wpAny_isTrue_Compare1 (h₁.run F fun v h' I' tk hl ok st hv => ?_) hm
  refine h₂.run (s := { s with heap := h', toks := tk }) (F.step hl ok st) fun v₂ h₂' I₂ tk₂ hl₂ ok₂ st₂ hv₂ => ?_
  refine c (s := { s with heap := h₂', toks := tk₂ }) ok₂ F.cx.handled (Pa.mono hl₂ hv) hv₂ fun v₃ h₃ I₃ tk₃ hl₃ ok₃ st₃ hv₃ => ?_
  cases hv₃
  exact wpAny_truthy_bool (hp h₃ I₃ tk₃ ((hl.trans hl₂).trans hl₃) ok₃ ((st.trans st₂).trans st₃))
theorem TestOk.chain {op op' : CmpOp} {Pa Pb Pc : VP} {b b' : Bool} {pos : Pos} (c : CmpIs S d J op Pa Pb b) (c' : CmpIs S d J op' Pb Pc b') (h₁ : EvOk S d σ k J e₁ ρ (.val Pa)) (h₂ : EvOk S d σ k J e₂ ρ (.val Pb)) (h₃ : EvOk S d σ k J e₃ ρ (.val Pc))
    (hm : lastMarks [op, op'] [e₂, e₃] = false) : TestOk S d σ k J (.Compare e₁ [op, op'] [e₂, e₃] pos) ρ (b && b') := .mk fun {A l pl h₀ I₀ I m s Q E} F hp => by
  refine isTrue_chain (h₁.run F fun v h' I' tk hl ok st hv => ?_) hm
  refine test_link (h₂.run (s := { s with heap := h', toks := tk }) (F.step hl ok st) fun v₂ h₂' I₂ tk₂ hl₂ ok₂ st₂ hv₂ => ?_)
  refine c (s := { s with heap := h₂', toks := tk₂ }) ok₂ F.cx.handled (Pa.mono hl₂ hv) hv₂ fun v₃ h₃' I₃ tk₃ hl₃ ok₃ st₃ hv₃ => ?_
  cases hv₃
  refine wpAny_truthy_bool ?_
  cases b with
  | false => exact hp h₃' I₃ tk₃ ((hl.trans hl₂).trans hl₃) ok₃ ((st.trans st₂).trans st₃)
  | true =>
    have F₃ := ((F.step hl ok st).step hl₂ ok₂ st₂).step hl₃ ok₃ st₃
    refine test_last (h₃.run (s := { s with heap := h₃', toks := tk₃ }) F₃ fun v₄ h₄ I₄ tk₄ hl₄ ok₄ st₄ hv₄ => ?_)
    refine c' (s := { s with heap := h₄, toks := tk₄ }) ok₄ F.cx.handled (Pb.mono (hl₃.trans hl₄) hv₂) hv₄ fun v₅ h₅ I₅ tk₅ hl₅ ok₅ st₅ hv₅ => ?_
    cases hv₅
    exact wpAny_truthy_bool (hp h₅ I₅ tk₅ ((((hl.trans hl₂).trans hl₃).trans hl₄).trans hl₅) ok₅ ((((st.trans st₂).trans st₃).trans st₄).trans st₅))
theorem TestOk.plain {b : Bool} (h : EvOk S d σ k J e ρ (.val (isBool b))) (he : ∀ env whole, isTrue e env whole = (do let v ← whole; standAt e.pos; holding [v] (truthy v))) : TestOk S d σ k J e ρ b := .mk fun F hp =>
  isTrue_plain (h.run F fun v h' I' tk hl ok st hv => by cases hv; exact wpAny_truthy_bool (hp h' I' tk hl ok st)) (he _ _)
theorem TestOk.not {b : Bool} (h : TestOk S d σ k J e ρ b) : TestOk S d σ k J (.UnaryOp .Not e pos) ρ (!b) := .mk fun F hp => isTrue_not (h.run F hp)
theorem TestOk.and_nil : TestOk S d σ k J (.BoolOp .And [] pos) ρ true := .mk fun F hp => isTrue_and_nil (hp _ _ _ (Le.refl _) F.ok (Step.refl _ _ _))
theorem TestOk.or_nil : TestOk S d σ k J (.BoolOp .Or [] pos) ρ false := .mk fun F hp => isTrue_or_nil (hp _ _ _ (Le.refl _) F.ok (Step.refl _ _ _))
theorem TestOk.and {es : List Expr} {b b' : Bool} (h : TestOk S d σ k J e ρ b) (h' : b = true → TestOk S d σ k J (.BoolOp .And es pos) ρ b') : TestOk S d σ k J (.BoolOp .And (e :: es) pos) ρ (b && b') := .mk fun {A l pl h₀ I₀ I m s Q E} F hp => by
  refine isTrue_and (h.run F fun h₁ I' tk hl ok st => ?_)
  cases b with
  | false => exact hp h₁ I' tk hl ok st
  | true =>
    have q := (h' rfl).run (s := { s with heap := h₁, toks := tk }) (Q := Q) (E := E) (F.step hl ok st) fun h₂ I₂ tk₂ hl₂ ok₂ st₂ => hp h₂ I₂ tk₂ (hl.trans hl₂) ok₂ (st.trans st₂)
    exact q
theorem TestOk.or {es : List Expr} {b b' : Bool} (h : TestOk S d σ k J e ρ b) (h' : b = false → TestOk S d σ k J (.BoolOp .Or es pos) ρ b') : TestOk S d σ k J (.BoolOp .Or (e :: es) pos) ρ (b || b') := .mk fun {A l pl h₀ I₀ I m s Q E} F hp => by
  refine isTrue_or (h.run F fun h₁ I' tk hl ok st => ?_)
  cases b with
  | true => exact hp h₁ I' tk hl ok st
  | false =>
    have q := (h' rfl).run (s := { s with heap := h₁, toks := tk }) (Q := Q) (E := E) (F.step hl ok st) fun h₂ I₂ tk₂ hl₂ ok₂ st₂ => hp h₂ I₂ tk₂ (hl.trans hl₂) ok₂ (st.trans st₂)
    exact q
theorem EvOk.ifT {test : Expr} (ht : TestOk S d σ k J test ρ true) (h : EvOk S d σ k J e₁ ρ (.val P)) : EvOk S d σ k J (.IfExp test e₁ e₂ pos) ρ (.val P) := .mk fun {A l pl h₀ I₀ I m s Q E} F hp => by
  refine IfExp_ (ht.run F fun h' I' tk hl ok st => ?_)
  exact h.run (s := { s with heap := h', toks := tk }) (F.step hl ok st) fun v h₂ I₂ tk₂ hl₂ ok₂ st₂ hv => hp v h₂ I₂ tk₂ (hl.trans hl₂) ok₂ (st.trans st₂) hv
theorem EvOk.ifF {test : Expr} (ht : TestOk S d σ k J test ρ false) (h : EvOk S d σ k J e₂ ρ (.val P)) : EvOk S d σ k J (.IfExp test e₁ e₂ pos) ρ (.val P) := .mk fun {A l pl h₀ I₀ I m s Q E} F hp => by
  refine IfExp_ (ht.run F fun h' I' tk hl ok st => ?_)
  exact h.run (s := { s with heap := h', toks := tk }) (F.step hl ok st) fun v h₂ I₂ tk₂ hl₂ ok₂ st₂ hv => hp v h₂ I₂ tk₂ (hl.trans hl₂) ok₂ (st.trans st₂) hv
theorem EvOk.orF {es : List Expr} (h : EvOk S d σ k J e₁ ρ (.val (isBool false))) (h' : EvOk S d σ k J (.BoolOp .Or (e₂ :: es) pos) ρ (.val P)) : EvOk S d σ k J (.BoolOp .Or (e₁ :: e₂ :: es) pos) ρ (.val P) := .mk fun {A l pl h₀ I₀ I m s Q E} F hp => by
  refine BoolOp_or (h.run F fun v h₁ I' tk hl ok st hv => ?_)
  cases hv
  refine wpAny_truthy_bool ?_
  exact h'.run (s := { s with heap := h₁, toks := tk }) (F.step hl ok st) fun v h₂ I₂ tk₂ hl₂ ok₂ st₂ hv => hp v h₂ I₂ tk₂ (hl.trans hl₂) ok₂ (st.trans st₂) hv
theorem EvOk.orT {es : List Expr} (h : EvOk S d σ k J e₁ ρ (.val (isBool true))) : EvOk S d σ k J (.BoolOp .Or (e₁ :: e₂ :: es) pos) ρ (.val (isBool true)) := .mk fun {A l pl h₀ I₀ I m s Q E} F hp => by
  refine BoolOp_or (h.run F fun v h₁ I' tk hl ok st hv => ?_)
  cases hv
  exact wpAny_truthy_bool (hp _ h₁ I' tk hl ok st rfl)
theorem EvOk.andT {es : List Expr} (h : EvOk S d σ k J e₁ ρ (.val (isBool true))) (h' : EvOk S d σ k J (.BoolOp .And (e₂ :: es) pos) ρ (.val P)) : EvOk S d σ k J (.BoolOp .And (e₁ :: e₂ :: es) pos) ρ (.val P) := .mk fun {A l pl h₀ I₀ I m s Q E} F hp => by
  refine BoolOp_and (h.run F fun v h₁ I' tk hl ok st hv => ?_)
  cases hv
  refine wpAny_truthy_bool ?_
  exact h'.run (s := { s with heap := h₁, toks := tk }) (F.step hl ok st) fun v h₂ I₂ tk₂ hl₂ ok₂ st₂ hv => hp v h₂ I₂ tk₂ (hl.trans hl₂) ok₂ (st.trans st₂) hv
theorem EvOk.andF {es : List Expr} (h : EvOk S d σ k J e₁ ρ (.val (isBool false))) : EvOk S d σ k J (.BoolOp .And (e₁ :: e₂ :: es) pos) ρ (.val (isBool false)) := .mk fun {A l pl h₀ I₀ I m s Q E} F hp => by
  refine BoolOp_and (h.run F fun v h₁ I' tk hl ok st hv => ?_)
  cases hv
  exact wpAny_truthy_bool (hp _ h₁ I' tk hl ok st rfl)
theorem EvOk.bool1 {op : BoolOp} (h : EvOk S d σ k J e ρ r) : EvOk S d σ k J (.BoolOp op [e] pos) ρ r := .mk fun F hp => BoolOp_one (h.run F hp)
-- arguments
theorem ArgsOk.nil : ArgsOk S d σ k J [] ρ [] := .mk fun F hp => args_nil (hp _ _ _ _ (Le.refl _) F.ok (Step.refl _ _ _) .nil)
theorem ArgsOk.cons {es : List Expr} {Ps : List VP} (h : EvOk S d σ k J e ρ (.val P)) (hs : ArgsOk S d σ k J es ρ Ps) (he : ∀ env, starEach (e :: es) env = (false, eval e env) :: starEach es env) : ArgsOk S d σ k J (e :: es) ρ (P :: Ps) := .mk fun {A l pl h₀ I₀ I m s pos Q E} F hp => by
  refine args_cons (h.run F fun v h' I' tk hl ok st hv => ?_) (he _)
  exact hs.run (s := { s with heap := h', toks := tk }) (F.step hl ok st) fun vs h₂ I₂ tk₂ hl₂ ok₂ st₂ hvs => hp _ h₂ I₂ tk₂ (hl.trans hl₂) ok₂ (st.trans st₂) (.cons (P.mono hl₂ hv) hvs)
end
end Mine
end
section
open PySem PySem.W PyProof.Rows PySem.Calls PyProof PySem.Spec
namespace Mine
section
variable {S : St} {d : Mut} {σ : Sig} {k : Nat} {J J' : JM} {ρ ρ' : Rho} {P P' : VP} {r : Out} {e e₁ e₂ e₃ : Expr} {pos : Pos} {x : Str}
noncomputable abbrev PlainArgs (es : List Expr) : Prop := ∀ env, starEach es env = es.map fun e => (false, eval e env)
theorem Post.after {l : List Env} {I I' : IM} {s : Shared} {h' : Heap} {tk : Nat} {Q E : Value → Shared → Prop} (hp : Post S d l I J' s r Q E) (hl : Le I I') (ok : Ok S d I' J l h') (st : Step d l s.heap h') : Post S d l I' J' { s with heap := h', toks := tk } r Q E := by
  cases r with
  | val P => exact fun v h₂ I₂ tk₂ hl₂ ok₂ st₂ hv => hp v h₂ I₂ tk₂ (hl.trans hl₂) ok₂ (st.trans st₂) hv
  | new P => exact fun a h₂ I₂ tk₂ hl₂ ok₂ st₂ hv hn => hp a h₂ I₂ tk₂ (hl.trans hl₂) ok₂ (st.trans st₂) hv (st.fresh ok hn)
  | exc =>
    intro e h₂ I₂ tk₂ hl₂ ⟨B, a0, hfl, okB, hfr, hk⟩
    refine hp e h₂ I₂ tk₂ (hl.trans hl₂) ⟨B, a0, hfl, okB, hfr, fun b o e => ?_⟩
    by_cases ht : IsTab b
    · exact .inr (.inl ht)
    by_cases hd : d b
    · exact .inr (.inr (.inl hd))
    rcases st b o e with q | q | q | ⟨q, q'⟩
    · rcases hk b o q with z | z | z | ⟨z, z'⟩
      · exact .inl z
      · exact .inr (.inl z)
      · exact .inr (.inr (.inl z))
      · exact .inr (.inr (.inr ⟨z, fun m hn => z' m (ns_of_get e q hn)⟩))
    · exact .inr (.inl q)
    · exact .inr (.inr (.inl q))
    · refine .inr (.inr (.inr ⟨q, fun m hn => ?_⟩))
      obtain ⟨o', ho'⟩ := ns_there (q' m hn)
      rcases hk b o' ho' with z | z | z | ⟨z, z'⟩
      · obtain ⟨env, he, hf⟩ := q
        have := (hfl.2.2.1).mem (List.mem_filterMap.mpr ⟨env, he, hf⟩)
        rw [this.1] at z; cases z
      · exact absurd z ht
      · exact absurd z hd
      · exact z' m (q' m hn)
theorem evalArgs_ok {f : Value} {M : Model} {A : Around} {env : Env} {cpos : Pos} {es : List Expr} {s : Shared} {Q : PySem.Args → Shared → Prop} {E : Value → Shared → Prop} (hs : PlainArgs es)
    (h : wpAny M A (spliced (backTo cpos (starEach es env))) (fun vs s' => Q ⟨vs, []⟩ s') E s) : wpAny M A (evalArgs f true (backTo cpos (starEach es env)) []) Q E s := by
  rw [hs env] at h ⊢
  cases es with
  | nil =>
    unfold evalArgs
    show wpAny M A (spliced [] >>= _) Q E s
    refine wpAny_bind (wpAny_mono h (fun vs s' h' => ?_) fun _ _ x => x)
    refine wpAny_bind (wpAny_pure ?_)
    refine wpAny_holding ?_
    exact wpAny_bind (wpAny_pure (wpAny_bind (wpAny_pure (wpAny_pure h'))))
  | cons e es => exact Calls.evalArgs_plain h
theorem plain_any {es : List Expr} {env : Env} {cpos : Pos} (hs : PlainArgs es) : (backTo cpos (starEach es env)).any (·.1) = false := by
  rw [hs env]
  unfold backTo
  rw [List.any_eq_false]
  intro x hx
  obtain ⟨y, hy, rfl⟩ := List.mem_map.mp hx
  obtain ⟨z, _, rfl⟩ := List.mem_map.mp hy
  simp
theorem callWith_ok {f : Addr} {first : List Value} {es : List Expr} {Ps : List VP} {o : Obj} {fd : FuncData} {cpos : Pos} {A : Around} {l : List Env} {pl : Pl} {h₀ : Heap} {I₀ I : IM} {m : Str → Option Value} {s : Shared} {Q E : Value → Shared → Prop}
    (F : FrameOk S d σ k J ρ A l pl h₀ I₀ I m s.heap) (hI : I f = some o) (hd : o.data = .func fd) (hs : PlainArgs es) (ha : ArgsOk S d σ k J es ρ Ps)
    (h : ∀ vs h' I' tk, Le I I' → Ok S d I' J (pl.fe :: l) h' → Step d (pl.fe :: l) s.heap h' → Mine.Args I' Ps vs → wpAny (model pw S.w) A (call (.ref f) (first ++ vs) []) Q E { s with heap := h', toks := tk }) :
    wpAny (model pw S.w) A (callWith cpos (.ref f) first (backTo cpos (starEach es pl.env)) []) Q E s := by
  refine callWith_function (o := o) (fd := fd) (evalArgs_ok hs ?_)
  exact ha.run F fun vs h' I' tk hl ok st hv => ⟨⟨ok.imm _ _ (hl _ _ hI), hd⟩, h vs h' I' tk hl ok st hv⟩
theorem callBlt_ok {id : String} {first : List Value} {es : List Expr} {Ps : List VP} {cpos : Pos} {A : Around} {l : List Env} {pl : Pl} {h₀ : Heap} {I₀ I : IM} {m : Str → Option Value} {s : Shared} {Q E : Value → Shared → Prop}
    (F : FrameOk S d σ k J ρ A l pl h₀ I₀ I m s.heap) (hs : PlainArgs es) (ha : ArgsOk S d σ k J es ρ Ps)
    (h : ∀ vs h' I' tk, Le I I' → Ok S d I' J (pl.fe :: l) h' → Step d (pl.fe :: l) s.heap h' → Mine.Args I' Ps vs → wpAny (model pw S.w) A (call (.builtin id) (first ++ vs) []) Q E { s with heap := h', toks := tk }) :
    wpAny (model pw S.w) A (callWith cpos (.builtin id) first (backTo cpos (starEach es pl.env)) []) Q E s :=
  callWith_builtin (plain_any hs) (evalArgs_ok hs (ha.run F fun vs h' I' tk hl ok st hv => h vs h' I' tk hl ok st hv))
theorem callTy_ok {id : String} {first : List Value} {es : List Expr} {Ps : List VP} {cpos : Pos} {A : Around} {l : List Env} {pl : Pl} {h₀ : Heap} {I₀ I : IM} {m : Str → Option Value} {s : Shared} {Q E : Value → Shared → Prop}
    (F : FrameOk S d σ k J ρ A l pl h₀ I₀ I m s.heap) (hs : PlainArgs es) (ha : ArgsOk S d σ k J es ρ Ps)
    (h : ∀ vs h' I' tk, Le I I' → Ok S d I' J (pl.fe :: l) h' → Step d (pl.fe :: l) s.heap h' → Mine.Args I' Ps vs → wpAny (model pw S.w) A (call (.type id) (first ++ vs) []) Q E { s with heap := h', toks := tk }) :
    wpAny (model pw S.w) A (callWith cpos (.type id) first (backTo cpos (starEach es pl.env)) []) Q E s :=
  PySem.callWith_type (plain_any hs) (evalArgs_ok hs (ha.run F fun vs h' I' tk hl ok st hv => h vs h' I' tk hl ok st hv))
/-- a def of the top -/
structure IsDef (f : Addr) (fd : FuncData) : Prop where
  at_ : ∀ P, ∃ c dd sl, (Kf P).lookup f = some ⟨c, dd, .func fd, sl⟩
theorem IsDef.I (D : IsDef f fd) {I : IM} {l : List Env} {h : Heap} (ok : Ok S d I J l h) : ∃ o, I f = some o ∧ o.data = .func fd :=
  let ⟨c, dd, sl, e⟩ := D.at_ S.w.params; ⟨_, ok.base _ _ (S.kin _ _ e), rfl⟩
theorem EvOk.callDef {f : Addr} {fd : FuncData} {np : Pos} {es : List Expr} {Ps : List VP} (hn : EvOk S d σ k J (.Name x np) ρ (.val (isV (.ref f)))) (D : IsDef f fd) (hs : PlainArgs es) (ha : ArgsOk S d σ k J es ρ Ps) (c : CallOk S d k J f Ps r J) :
    EvOk S d σ k J (.Call (.Name x np) es [] pos) ρ r := .mk fun {A l pl h₀ I₀ I m s Q E} F hp => by
  refine Call_ (hn.run F fun v h' I' tk hl ok st hv => ?_)
  cases hv
  obtain ⟨o, hI, hd⟩ := D.I ok
  have F' := F.step hl ok st
  refine callWith_ok (s := { s with heap := h', toks := tk }) F' hI hd hs ha fun vs h₂ I₂ tk₂ hl₂ ok₂ st₂ hv₂ => ?_
  exact c (s := { s with heap := h₂, toks := tk₂ }) (fun _ _ e => by cases e) F.cx ok₂ hv₂ ((hp.after hl ok st).after hl₂ ok₂ st₂)
theorem EvOk.callLoc {np : Pos} {es : List Expr} {Ps : List VP} {Pf : VP} {o : IM → Value → Prop} (hn : EvOk S d σ k J (.Name x np) ρ (.val Pf)) (hs : PlainArgs es) (ha : ArgsOk S d σ k J es ρ Ps)
    (c : ∀ I v, Pf.p I v → (∃ f o fd, v = .ref f ∧ (I f = some o ∨ S.G.get? f = some o) ∧ o.data = .func fd) ∧ CallV S d k J v I Ps r J) :
    EvOk S d σ k J (.Call (.Name x np) es [] pos) ρ r := .mk fun {A l pl h₀ I₀ I m s Q E} F hp => by
  refine Call_ (hn.run F fun v h' I' tk hl ok st hv => ?_)
  obtain ⟨⟨f, o, fd, rfl, hI, hd⟩, c⟩ := c _ _ hv
  have F' := F.step hl ok st
  refine callWith_ok (s := { s with heap := h', toks := tk }) F' (hI.elim id (ok.base _ _)) hd hs ha fun vs h₂ I₂ tk₂ hl₂ ok₂ st₂ hv₂ => ?_
  exact c (s := { s with heap := h₂, toks := tk₂ }) hl₂ F.cx ok₂ hv₂ ((hp.after hl ok st).after hl₂ ok₂ st₂)
noncomputable def methOk (K : Frag) (C : Addr) (name : Str) (f : Addr) : Bool := plainGet K C name && (findIn K (.ref C) name == some (some (.ref f))) && isFn K (.ref f)
noncomputable def attrOk (K : Frag) (C : Addr) (name : Str) : Bool := plainGet K C name && hasDictIn K C && (findIn K (.ref C) name == some none)
theorem FieldsAre.get {I : IM} : ∀ {fs : List (Str × VP)} {es : List DictEntry}, FieldsAre I fs es → fs.lookup x = some P → ∃ v, getL x es = some (some v) ∧ P.p I v ∧ handedIn v = true
  | _, _, .nil, e => by cases e
  | (n, P') :: fs, _, .cons (h := hh) (t := t) (v := v) (es := es) a b r, e => by
    rw [List.lookup_cons] at e
    by_cases q : x = n
    · subst q
      simp only [beq_self_eq_true] at e
      cases e
      refine ⟨v, ?_, a, b⟩
      unfold getL
      simp [List.find?_cons, Value.isStr]
    · have q1 : (x == n) = false := by simpa using q
      have q2 : (n == x) = false := by simpa using Ne.symm q
      rw [q1] at e
      obtain ⟨v', g, rest⟩ := FieldsAre.get r e
      refine ⟨v', ?_, rest⟩
      unfold getL at g ⊢
      simpa [List.find?_cons, Value.isStr, q2, DictEntry.refKey] using g
theorem FieldsAre.miss {I : IM} : ∀ {fs : List (Str × VP)} {es : List DictEntry}, FieldsAre I fs es → fs.lookup x = none → getL x es = some none
  | _, _, .nil, _ => rfl
  | (n, P') :: fs, _, .cons (h := hh) (t := t) (v := v) (es := es) a b r, e => by
    rw [List.lookup_cons] at e
    by_cases q : x = n
    · subst q
      simp only [beq_self_eq_true] at e
      cases e
    · have q1 : (x == n) = false := by simpa using q
      have q2 : (n == x) = false := by simpa using Ne.symm q
      rw [q1] at e
      have g := FieldsAre.miss r e
      unfold getL at g ⊢
      simpa [List.find?_cons, Value.isStr, q2, DictEntry.refKey] using g
theorem inst_at {C : Addr} {fs : List (Str × VP)} {I : IM} {l : List Env} {h : Heap} {v : Value} (ok : Ok S d I J l h) (hv : (isInst C fs).p I v) : ∃ y dx es n, v = .ref y ∧ InstAt h y (instObj C dx) C (some (dictOf es n)) ∧ FieldsAre I fs es := by
  obtain ⟨y, dx, es, n, rfl, h1, h2, h3⟩ := hv
  exact ⟨y, dx, es, n, rfl, ⟨ok.imm _ _ h1, rfl, rfl, ok.imm _ _ h2⟩, h3⟩
theorem EvOk.attr {C : Addr} {fs : List (Str × VP)} {np : Pos} {n attr : Str} (h : EvOk S d σ k J (.Name n np) ρ (.val (isInst C fs))) (hf : fs.lookup attr = some P) (hk : ∀ P, attrOk (Kf P) C attr = true) : EvOk S d σ k J (.Attribute (.Name n np) attr pos) ρ (.val P) := .mk fun {A l pl h₀ I₀ I m s Q E} F hp => by
  refine Attribute_name (h.run F fun v h' I' tk hl ok st hv => ?_)
  obtain ⟨y, dx, es, n, rfl, hi, hfs⟩ := inst_at ok hv
  obtain ⟨v, hg, hP, hh⟩ := hfs.get hf
  have hk := hk S.w.params
  unfold attrOk at hk
  simp only [Bool.and_eq_true, beq_iff_eq] at hk
  exact get_own (F.step hl ok st).fr S.kin hi hk.1.1 hk.1.2 hk.2 rfl hg hh (hp v h' I' _ hl ok st hP)
theorem EvOk.meth {C f : Addr} {fs : List (Str × VP)} {o : Expr} {name : Str} {apos : Pos} {es : List Expr} {Ps : List VP} {pl : Env → Sem Bool} {fd : FuncData} (h : EvOk S d σ k J o ρ (.val (isInst C fs))) (hm : ∀ P, methOk (Kf P) C name f = true) (D : IsDef f fd) (hf : fs.lookup name = none)
    (hs : PlainArgs es) (ha : ArgsOk S d σ k J es ρ Ps) (c : CallOk S d k J f (isInst C fs :: Ps) r J)
    (he : ∀ env, eval (.Call (.Attribute o name apos) es [] pos) env = (do
      let ov ← eval o env
      standAt apos.atName
      let (f, first) ← holding [ov] (getMethod ov name (pl env))
      callWith pos f first (backTo pos (starEach es env)) [])) : EvOk S d σ k J (.Call (.Attribute o name apos) es [] pos) ρ r := .mk fun {A l pl h₀ I₀ I m s Q E} F hp => by
  refine MethodCall_ (h.run F fun v h' I' tk hl ok st hv => ?_) (he _)
  obtain ⟨y, dx, es', n, rfl, hi, hfs⟩ := inst_at ok hv
  have hm := hm S.w.params
  unfold methOk at hm
  simp only [Bool.and_eq_true, beq_iff_eq] at hm
  have F' := F.step hl ok st
  refine method_inst F'.fr S.kin hi hm.1.1 hm.1.2 hm.2 (hfs.miss hf) ?_
  obtain ⟨o, hI, hd⟩ := D.I ok
  refine callWith_ok (s := { s with heap := h', toks := tk }) F' hI hd hs ha fun vs h₂ I₂ tk₂ hl₂ ok₂ st₂ hv₂ => ?_
  exact c (s := { s with heap := h₂, toks := tk₂ }) (fun _ _ e => by cases e) F.cx ok₂ (.cons ((isInst C fs).mono hl₂ hv) hv₂) ((hp.after hl ok st).after hl₂ ok₂ st₂)
end
end Mine
end
section
open PySem PySem.W PyProof.Rows PySem.Calls PyProof PySem.Spec
namespace Mine
section
variable {S : St} {d : Mut} {σ : Sig} {k : Nat} {J J' J'' : JM} {ρ ρ' : Rho} {P P' : VP} {r : Out} {e e₁ e₂ e₃ : Expr} {pos : Pos} {x : Str}
theorem zip_keys {α : Type} (xs : List Str) (vs : List α) (h : xs.Nodup) : ((xs.zip vs).map (·.1)).Nodup := by
  induction xs generalizing vs with
  | nil => simp
  | cons a r ih =>
    cases vs with
    | nil => simp
    | cons v vs =>
      simp only [List.zip_cons_cons, List.map_cons, List.nodup_cons] at h ⊢
      refine ⟨fun hm => h.1 ?_, ih vs h.2⟩
      obtain ⟨y, hy, e⟩ := List.mem_map.mp hm
      subst e
      exact (List.of_mem_zip hy).1
theorem zip_mem {I : IM} : ∀ (xs : List Str) {Ps : List VP} {vs : List Value}, Args I Ps vs → (xs.zip Ps).lookup x = some P → ∃ v, (x, v) ∈ xs.zip vs ∧ P.p I v
  | [], _, _, _, e => by simp at e
  | _ :: _, _, _, .nil, e => by simp at e
  | a :: xs, _, _, .cons (P := P') (v := v) h r, e => by
    rw [List.zip_cons_cons, List.lookup_cons] at e
    by_cases q : x = a
    · subst q
      simp only [beq_self_eq_true] at e
      cases e
      exact ⟨v, by simp, h⟩
    · have q1 : (x == a) = false := by simpa using q
      rw [q1] at e
      obtain ⟨v', hm, hp⟩ := zip_mem xs r e
      exact ⟨v', by rw [List.zip_cons_cons]; exact List.mem_cons_of_mem _ hm, hp⟩
theorem lookup_of_mem_keys {α : Type} {l : List (Str × α)} {v : α} (hn : (l.map (·.1)).Nodup) (h : (x, v) ∈ l) : l.lookup x = some v := by
  induction l with
  | nil => cases h
  | cons p l ih =>
    obtain ⟨a, b⟩ := p
    simp only [List.map_cons, List.nodup_cons] at hn
    rw [List.lookup_cons]
    rcases List.mem_cons.mp h with e | h'
    · cases e; simp
    · have : (x == a) = false := by
        by_cases q : x = a
        · exact absurd (List.mem_map.mpr ⟨(x, v), h', q⟩) hn.1
        · simpa using q
      rw [this]; exact ih hn.2 h'
theorem Args.append {I : IM} : ∀ {Ps Qs : List VP} {vs us : List Value}, Args I Ps vs → Args I Qs us → Args I (Ps ++ Qs) (vs ++ us)
  | _, _, _, _, .nil, h => h
  | _, _, _, _, .cons a r, h => .cons a (Args.append r h)
theorem Args.len {I : IM} : ∀ {Ps : List VP} {vs : List Value}, Args I Ps vs → vs.length = Ps.length
  | _, _, .nil => rfl
  | _, _, .cons _ r => by simp [Args.len r]
inductive Outs : Out → BOut → Prop
  | val {P : VP} : Outs (.val P) (.ret P)
  | exc : Outs .exc .exc
  | new {P : VP} : Outs (.new P) (.new P)
structure DefIs (f : Addr) (fd : FuncData) (σ : Sig) (body : List Stmt) : Prop where
  d : IsDef f fd
  body : fd.body = .stmts body
  qual : fd.qualname = σ.qual
  scope : fd.scope = σ.scope
  cd : fd.code = σ.cd
  glob : fd.globals = mainGlobals
  clos : fd.closure = []
  blt : fd.builtins = builtinsNs
  code : ∀ P, codeIn (Kf P) σ.cd σ.qual = true
  kind : σ.scope.kind = .function
  co : σ.scope.isCoroutine = false
  gen : σ.scope.isGenerator = false
  own : σ.own = []
theorem callEnv_is {f L : Addr} {fd : FuncData} {body : List Stmt} (D : DefIs f fd σ body) : callEnv fd L f = σ.env L f [] := by
  unfold callEnv newEnv
  simp only [D.scope, D.glob, D.clos, D.qual, D.cd, D.blt]
theorem UpTo.frAt {I : IM} {h h' : Heap} {env : Env} (x : h.UpToSlots h') (y : FrAt d I h env) : FrAt d I h' env := by
  obtain ⟨a, L, o, es, ep, b, c, e, f, g, r⟩ := y
  obtain ⟨sl, z⟩ := x L o g fun vs q => by rw [r] at q; cases q
  exact ⟨a, L, _, es, ep, b, c, e, f, z, r⟩
/-- an exception leaves a frame -/
theorem Fly.leave {A : Around} {l : List Env} {env : Env} {L e : Addr} {h₀ : Heap} {I : IM} {s : Shared} {Q : Unit → Shared → Prop} {E : Value → Shared → Prop} (hfr : A.frames = some (env :: l)) (hf : env.frame = some L) (hL : h₀.get? L = none)
    (fl : Fly false S d (env :: l) e h₀ I J s.heap) (hQ : ∀ h', Fly true S d l e h₀ I J h' → Q () { s with heap := h' }) : wpAny (model pw S.w) A (leaving env (.ref e)) Q E s := by
  obtain ⟨B, a0, hfl, okB, hfr', hk⟩ := fl
  have fin : ∀ h', FlyK true B l e a0 h' → s.heap.UpToSlots h' → Q () { s with heap := h' } := fun h' hfl' up => hQ h' ⟨B, a0, hfl', okB, fun env' he => UpTo.frAt up (hfr' env' (.tail _ he)), fun b o hb => by
    rcases hk b o hb with q | q | q | ⟨⟨env', he, hf'⟩, q⟩
    · exact .inl q
    · exact .inr (.inl q)
    · exact .inr (.inr (.inl q))
    · rcases List.mem_cons.mp he with rfl | he
      · have hbL : b = L := Option.some.inj (hf'.symm.trans hf)
        rw [hbL, hL] at hb; cases hb
      · exact .inr (.inr (.inr ⟨⟨env', he, hf'⟩, fun m hn => up.ns (q m hn)⟩))⟩
  obtain ⟨f1, f2, f3, f4⟩ := hfl
  rcases f4 with f4 | ⟨_, oe, vs, he, hc, hd, h1, h0⟩
  · exact wpAny_leaves_onW hfr hf ⟨f1, f2, f3, f4⟩ fun h' ⟨g1, g2, g3, g4⟩ up => fin h' ⟨g1, g2, g3, .inl g4⟩ up
  · refine wpAny_leaving_firstW hfr f3 hf he f1 f2 hd h1 h0 fun h' hL => ?_
    obtain ⟨k1, ⟨_, _, k2⟩, k3, k4⟩ := hL
    rw [hc] at k3
    exact fin h' ⟨k1, f2, k2, .inl k3⟩ k4
theorem CallOk.def {f : Addr} {fd : FuncData} {body : List Stmt} {xs : List Str} {Ps DPs : List VP} {dvs : List Value} {r' : BOut} (D : DefIs f fd σ body) (hcell : σ.scope.names.all (fun y => y.2 != .cell) = true)
    (hb : ∀ (s : Shared) (vs : List Value), vs.length = Ps.length → (∀ b o, S.G.get? b = some o → s.heap.get? b = some o) → BindsTo s fd ⟨vs, []⟩ (xs.zip (vs ++ dvs)))
    (hx : (xs.all fun y => σ.scope.names.lookup y == some .local) = true) (hn : xs.Nodup) (hd : ∀ I, Args I DPs dvs) (o : Outs r r')
    (b : Blk S d σ k J body (xs.zip (Ps ++ DPs)) r' J') : CallOk S d (k + 1) J f Ps r J' := fun {A l I s vs Q E} _ cx ok ha hp => by
  obtain ⟨of_, hI, hda⟩ := D.d.I ok
  have keep : ∀ b o, S.G.get? b = some o → s.heap.get? b = some o := fun b o e => ok.imm _ _ (ok.base _ _ e)
  have hcd : s.heap.CodeRec fd.code fd.qualname := by rw [D.cd, D.qual]; exact codeRec_of (S.kin.keeps keep) (D.code _)
  refine wpAny_call (codeAny_call_def (fd := fd) (body := body) (binds := xs.zip (vs ++ dvs)) (by have := cx.depth; unfold recursionLimit; lia) (ok.imm _ _ hI) hda (S.top.nolimit.keeps keep) hcd D.body (hb s vs ha.len keep) ?_ ?_ ?_ (by rw [D.scope]; exact D.co) (by rw [D.scope]; exact D.gen) (by rw [D.scope]; exact D.kind))
  · intro y hy
    rw [D.scope] at hy
    have := List.all_eq_true.mp hcell y hy
    simpa using this
  · intro y hy
    rw [D.scope]
    have := List.all_eq_true.mp hx y.1 (List.of_mem_zip hy).1
    simpa using this
  · intro h₁ hns hk₁
    rw [callEnv_is D]
    obtain ⟨o1, o2, o3, o4⟩ := ok.off (get_size s.heap)
    have hfrs : (A.deeper (σ.env s.heap.objs.size f [])).frames = some (σ.env s.heap.objs.size f [] :: l) := by
      show A.frames.map _ = _
      rw [cx.frames]; rfl
    have ok₁ : Ok S d I J (σ.env s.heap.objs.size f [] :: l) h₁ := by
      have g := ok.grow hk₁
      refine ⟨g.imm, g.base, g.tabs, fun env he => ?_, g.dI, g.dT, g.dk⟩
      rcases List.mem_cons.mp he with rfl | he
      · obtain ⟨o, es, ep, ho, hda, _⟩ := hns
        exact ⟨by show σ.scope.kind ≠ _; rw [D.kind]; decide, s.heap.objs.size, o, es, ep, rfl, o1, o2, o3, ho, hda⟩
      · exact g.fr env he
    have F : FrameOk S d σ k J (xs.zip (Ps ++ DPs)) (A.deeper (σ.env s.heap.objs.size f [])) l (σ.pl s.heap.objs.size f []) s.heap I I (fun x => (xs.zip (vs ++ dvs)).reverse.lookup x) h₁ := by
      refine ⟨⟨hfrs, cx.handled, ?_, ?_⟩, rfl, rfl, rfl, rfl, rfl, rfl, D.kind, ok₁, .of_keeps hk₁, get_size _, ?_, fun ⟨e, he, hf⟩ => o4 e he hf, hns, .inl ⟨o2, o3⟩, ⟨_, hns⟩, Le.refl _, ?_, fun _ _ e => by rw [show (σ.own : List (Str × Addr)) = [] from D.own] at e; cases e⟩
      · show A.depth + 1 + 4 * k ≤ 900
        have := cx.depth; lia
      · show A.units + 3 + 64 * k ≤ 9000
        have := cx.units; lia
      · obtain ⟨z, oz, ez, hz⟩ := S.last
        exact Nat.le_trans hz (Heap.lt_size (keep _ _ ez))
      · intro y P e
        obtain ⟨v, hm, hv⟩ := zip_mem xs (ha.append (hd I)) e
        have hy := List.all_eq_true.mp hx y (List.of_mem_zip hm).1
        have hy' : σ.scope.names.lookup y = some .local := by simpa using hy
        unfold Reads
        rw [hy']
        refine ⟨v, ?_, hv⟩
        show (xs.zip (vs ++ dvs)).reverse.lookup y = some v
        exact lookup_of_mem_keys (by rw [List.map_reverse]; exact List.pairwise_reverse.mpr ((zip_keys _ _ hn).imp Ne.symm)) (List.mem_reverse.mpr hm)
    cases o with
    | val =>
      refine b.run (s := { s with heap := h₁, toks := _ }) ⟨rfl, rfl⟩ F fun v h' I' tk hl ok' st hv => ?_
      exact hp v h' I' tk hl ⟨ok'.imm, ok'.base, ok'.tabs, fun env he => ok'.fr env (.tail _ he), ok'.dI, ok'.dT, ok'.dk⟩ st hv
    | new =>
      refine b.run (s := { s with heap := h₁, toks := _ }) ⟨rfl, rfl⟩ F fun a h' I' tk hl ok' st hv hn => ?_
      exact hp a h' I' tk hl ⟨ok'.imm, ok'.base, ok'.tabs, fun env he => ok'.fr env (.tail _ he), ok'.dI, ok'.dT, ok'.dk⟩ st hv hn
    | exc =>
      refine b.run (s := { s with heap := h₁, toks := _ }) ⟨rfl, rfl⟩ F fun e h' I' tk hl fl => ?_
      exact Fly.leave (s := { s with heap := h', toks := tk }) hfrs rfl (get_size _) fl fun h₂ fl₂ => hp e h₂ I' tk hl fl₂
end
end Mine
end
section
open PySem PySem.W PyProof.Rows PySem.Calls PyProof PySem.Spec
namespace Mine
section
variable {S : St} {d : Mut} {σ : Sig} {k : Nat} {J J' J'' : JM} {ρ ρ' ρ'' : Rho} {P P' : VP} {r : BOut} {e e₁ e₂ e₃ : Expr} {pos p' : Pos} {x : Str} {rest body : List Stmt} {test : Expr}
  {A : Around} {l : List Env} {pl : Pl} {h₀ : Heap} {I₀ I I' : IM} {m : Str → Option Value} {h h' : Heap} {v : Value}
theorem Ok.sameBut (ok : Ok S d I J l h) (hs : Heap.SameBut a h h') (hI : I a = none) (hd : ¬ d a) (ht : ¬ IsTab a) (hf : ∀ env ∈ l, env.frame = some a → ∃ o es ep, h'.get? a = some o ∧ o.data = .dict es ep) : Ok S d I J l h' := by
  refine ⟨fun b o e => ?_, ok.base, fun t hm => ⟨(ok.tabs t hm).off, ?_⟩, fun env he => ?_, ok.dI, ok.dT, fun b hb => ?_⟩
  · rw [hs.2 b (fun q => by rw [q, hI] at e; cases e)]; exact ok.imm _ _ e
  · obtain ⟨ps, e, r⟩ := (ok.tabs t hm).is
    exact ⟨ps, (hs.2 _ fun q => ht ⟨t, hm, q⟩).trans e, r⟩
  · obtain ⟨hk, L, o, es, ep, hL, b, c, f, g, r⟩ := ok.fr env he
    by_cases q : L = a
    · subst q
      obtain ⟨o', es', ep', g', r'⟩ := hf env he hL
      exact ⟨hk, L, o', es', ep', hL, b, c, f, g', r'⟩
    · exact ⟨hk, L, o, es, ep, hL, b, c, f, (hs.2 _ q).trans g, r⟩
  · obtain ⟨o, e, j⟩ := ok.dk b hb
    exact ⟨o, (hs.2 _ fun q => hd (q ▸ hb)).trans e, j⟩
theorem Step.sameBut (st : Step d l h₀ h) (hs : Heap.SameBut a h h') (ha : h₀.get? a = none) : Step d l h₀ h' := by
  intro b o e
  have hb : b ≠ a := fun q => by rw [q, ha] at e; cases e
  rcases st b o e with q | q | q | ⟨q, q'⟩
  · exact .inl ((hs.2 b hb).trans q)
  · exact .inr (.inl q)
  · exact .inr (.inr (.inl q))
  · exact .inr (.inr (.inr ⟨q, fun m hn => (q' m hn).sameBut hs hb⟩))
theorem FrameOk.store (F : FrameOk S d σ k J ρ A l pl h₀ I₀ I m h) (fn : pl.IsFn) (hk : σ.scope.names.lookup x = some .local) (hn : h'.Ns pl.env.locals (fun y => if y = x then some v else m y)) (hs : Heap.SameBut pl.env.locals h h') (hv : P.p I v) :
    FrameOk S d σ k J ((x, P) :: ρ) A l pl h₀ I₀ I (fun y => if y = x then some v else m y) h' := by
  have hn' := hn
  rw [fn.loc] at hs hn'
  refine ⟨F.cx, F.esc, F.eg, F.eb, F.eq, F.ec, F.ff, F.kind, F.ok.sameBut hs F.frAt.1 F.frAt.2.1 F.frAt.2.2 fun env he hf => ?_, F.since.sameBut hs F.new, F.new, F.above, F.apart, hn, .inl (by rw [fn.loc]; exact F.frAt.2), ⟨_, hn'⟩, F.le, fun y Q e => ?_, F.oc⟩
  · obtain ⟨o, es, ep, ho, hd, _⟩ := hn'
    exact ⟨o, es, ep, ho, hd⟩
  · rw [List.lookup_cons] at e
    by_cases q : y = x
    · subst q
      simp only [beq_self_eq_true] at e
      cases e
      unfold Reads
      rw [hk]
      exact ⟨v, if_pos rfl, hv⟩
    · have q1 : (y == x) = false := by simpa using q
      rw [q1] at e
      have hr := F.rho y Q e
      unfold Reads at hr ⊢
      split at hr <;> rename_i z
      · obtain ⟨u, hu, hQ⟩ := hr
        simp only [z]
        exact ⟨u, (if_neg q).trans hu, hQ⟩
      · exact hr
      · exact hr
      · exact hr.elim
theorem Fly.back {e : Addr} {tr : Bool} (st : Step d l h₀ h) (fl : Fly tr S d (pl.fe :: l) e h I J h') : Fly tr S d (pl.fe :: l) e h₀ I J h' := by
  obtain ⟨B, a0, hfl, okB, hfr, hk⟩ := fl
  refine ⟨B, a0, hfl, okB, hfr, fun b o e => ?_⟩
  by_cases ht : IsTab b
  · exact .inr (.inl ht)
  by_cases hd : d b
  · exact .inr (.inr (.inl hd))
  rcases st b o e with q | q | q | ⟨q, q'⟩
  · rcases hk b o q with z | z | z | ⟨z, z'⟩
    · exact .inl z
    · exact .inr (.inl z)
    · exact .inr (.inr (.inl z))
    · exact .inr (.inr (.inr ⟨z, fun m hn => z' m (ns_of_get e q hn)⟩))
  · exact .inr (.inl q)
  · exact .inr (.inr (.inl q))
  · obtain ⟨env, he, hf⟩ := q
    refine .inr (.inr (.inr ⟨⟨env, List.mem_cons_of_mem _ he, hf⟩, fun m hn => ?_⟩))
    obtain ⟨o', ho'⟩ := ns_there (q' m hn)
    rcases hk b o' ho' with z | z | z | ⟨z, z'⟩
    · have := (hfl.2.2.1).mem (List.mem_filterMap.mpr ⟨env, List.mem_cons_of_mem _ he, hf⟩)
      rw [this.1] at z; cases z
    · exact absurd z ht
    · exact absurd z hd
    · exact z' m (q' m hn)
-- blocks
theorem Blk.nil : Blk S d σ k J [] ρ (.fall ρ) J := .mk fun hf F hp => wpAny_execs_nil (hp _ _ _ _ F)
theorem Blk.ret (h : EvOk S d σ k J e ρ (.val P)) : Blk S d σ k J (.Return (some e) pos :: rest) ρ (.ret P) J := .mk fun hf F hp =>
  wpAny_execs_cons (wpAny_Return_some (h.run F fun v h' I' tk hl ok st hv => hp v h' I' tk (F.le.trans hl) ok (F.since.out F.ff F.new st) hv))
theorem Step.wide {env : Env} (st : Step d l h h') : Step d (env :: l) h h' := fun b o e => (st b o e).imp_right fun q => q.imp_right fun q => q.imp_right fun ⟨⟨env', he, hf⟩, z⟩ => ⟨⟨env', .tail _ he, hf⟩, z⟩
theorem Blk.retN (h : EvOk S d σ k J e ρ (.new P)) : Blk S d σ k J (.Return (some e) pos :: rest) ρ (.new P) J := .mk fun hf F hp =>
  wpAny_execs_cons (wpAny_Return_some (h.run F fun a h' I' tk hl ok st hv hn => hp a h' I' tk (F.le.trans hl) ok (F.since.out F.ff F.new st) hv (F.since.wide.fresh F.ok hn)))
theorem Blk.retX (h : EvOk S d σ k J e ρ .exc) : Blk S d σ k J (.Return (some e) pos :: rest) ρ .exc J := .mk fun hf F hp =>
  wpAny_execs_cons (wpAny_Return_some (h.run F fun e h' I' tk hl fl => hp e h' I' tk (F.le.trans hl) (fl.any.back F.since)))
theorem Blk.assign (h : EvOk S d σ k J e ρ (.val P)) (hk : σ.scope.names.lookup x = some .local) (hs : ∀ env, swapsWith e (some (.Name x p')) pos.line env = pure false) (b : Blk S d σ k J rest ((x, P) :: ρ) r J') : Blk S d σ k J (.Assign [.Name x p'] e pos :: rest) ρ r J' := .mk fun {A l pl h₀ I₀ I m s Q E} hf F hp => by
  refine wpAny_execs_cons (wpAny_Assign_Name (h.run F fun v h' I' tk hl ok st hv => ?_) (hs _))
  have F' := F.step hl ok st
  refine wpAny_storeName_local (s := { s with heap := h', toks := tk }) (F.kof hk) F'.ns (fun h₂ hn hs => ?_) (by rw [F.knd]; rfl)
  exact b.run (s := { s with heap := h₂, toks := tk + 1 }) hf (F'.store hf hk hn hs hv) hp
theorem Blk.assignX (h : EvOk S d σ k J e ρ .exc) (hs : ∀ env, swapsWith e (some (.Name x p')) pos.line env = pure false) : Blk S d σ k J (.Assign [.Name x p'] e pos :: rest) ρ .exc J := .mk fun hf F hp =>
  wpAny_execs_cons (wpAny_Assign_Name (h.run F fun e h' I' tk hl fl => hp e h' I' tk (F.le.trans hl) (fl.any.back F.since)) (hs _))
/-- what follows a block that falls through or goes away -/
theorem execs_seq {body : List Stmt} {Q : Flow → Shared → Prop} {E : Value → Shared → Prop} {s : Shared} {M : Model} {env : Env} {st : Stmt}
    (hst : ∀ {Q' : Flow → Shared → Prop}, wpAny M A (execs body env) Q' E s → wpAny M A (exec st env) Q' E s)
    (h : wpAny M A (execs body env) (fun f s' => match f with | .next => wpAny M A (execs rest env) Q E s' | f => Q f s') E s) : wpAny M A (execs (st :: rest) env) Q E s :=
  wpAny_execs_cons (hst h)
theorem Blk.ifF {els : List Stmt} (t : TestOk S d σ k J test ρ false) (b₁ : Blk S d σ k J els ρ (.fall ρ') J') (b : Blk S d σ k J' rest ρ' r J'') : Blk S d σ k J (.If test body els pos :: rest) ρ r J'' := .mk fun {A l pl h₀ I₀ I m s Q E} hf F hp => by
  refine wpAny_execs_cons (wpAny_If (t.run F fun h' I' tk hl ok st => ?_))
  show wpAny _ _ (execs els _) _ _ _
  exact b₁.run (s := { s with heap := h', toks := tk }) hf (F.step hl ok st) fun h₂ I₂ m₂ tk₂ F₂ => b.run (s := { s with heap := h₂, toks := tk₂ }) hf F₂ hp
theorem Blk.ifT {els : List Stmt} (t : TestOk S d σ k J test ρ true) (b₁ : Blk S d σ k J body ρ (.fall ρ') J') (b : Blk S d σ k J' rest ρ' r J'') : Blk S d σ k J (.If test body els pos :: rest) ρ r J'' := .mk fun {A l pl h₀ I₀ I m s Q E} hf F hp => by
  refine wpAny_execs_cons (wpAny_If (t.run F fun h' I' tk hl ok st => ?_))
  show wpAny _ _ (execs body _) _ _ _
  exact b₁.run (s := { s with heap := h', toks := tk }) hf (F.step hl ok st) fun h₂ I₂ m₂ tk₂ F₂ => b.run (s := { s with heap := h₂, toks := tk₂ }) hf F₂ hp
theorem Blk.ifR {els : List Stmt} (t : TestOk S d σ k J test ρ true) (b₁ : Blk S d σ k J body ρ (.ret P) J') : Blk S d σ k J (.If test body els pos :: rest) ρ (.ret P) J' := .mk fun {A l pl h₀ I₀ I m s Q E} hf F hp => by
  refine wpAny_execs_cons (wpAny_If (t.run F fun h' I' tk hl ok st => ?_))
  show wpAny _ _ (execs body _) _ _ _
  exact b₁.run (s := { s with heap := h', toks := tk }) hf (F.step hl ok st) fun v h₂ I₂ tk₂ hl₂ ok₂ st₂ hv => hp v h₂ I₂ tk₂ hl₂ ok₂ st₂ hv
theorem Blk.ifX {els : List Stmt} (t : TestOk S d σ k J test ρ true) (b₁ : Blk S d σ k J body ρ .exc J') : Blk S d σ k J (.If test body els pos :: rest) ρ .exc J' := .mk fun {A l pl h₀ I₀ I m s Q E} hf F hp => by
  refine wpAny_execs_cons (wpAny_If (t.run F fun h' I' tk hl ok st => ?_))
  show wpAny _ _ (execs body _) _ _ _
  exact b₁.run (s := { s with heap := h', toks := tk }) hf (F.step hl ok st) fun e h₂ I₂ tk₂ hl₂ fl => hp e h₂ I₂ tk₂ hl₂ fl
theorem while_turn {env : Env} {R : Result → Shared → Prop} {w : World} {s : Shared} {orelse : List Stmt}
    (turn : wpAny (model pw w) A (isTrue test env (eval test env)) (fun b s₂ =>
        if b then wpAny (model pw w) A (execs body env) (fun f s₃ => match f with
            | .next | .cont => codeAny (model pw w) A (.whileLoop test body orelse env) R s₃
            | .brk => R (.ok .next) s₃
            | .ret v => R (.ok (.ret v)) s₃) (notedBy (model pw w) A env fun e s' => R (.error e) s') s₂
        else wpAny (model pw w) A (execs orelse env) (fun f s₃ => R (.ok f) s₃) (notedBy (model pw w) A env fun e s' => R (.error e) s') s₂)
        (notedBy (model pw w) A env fun e s' => R (.error e) s') s) : codeAny (model pw w) A (.whileLoop test body orelse env) R s := by
  refine codeAny_of_tree ?_
  show wpAny _ A ((whileTurn test body orelse env).onRaise (fun x => do noteFrame x env; theTreesLotGoes x)) _ _ s
  refine wpAny_noted ?_
  simp only [whileTurn]
  refine wpAny_bind (wpAny_mono turn (fun b s₂ h₂ => ?_) fun _ _ h' => h')
  cases b with
  | false =>
    simp only [Bool.false_eq_true, if_false] at h₂ ⊢
    exact wpAny_bind (wpAny_mono h₂ (fun f s₃ h₃ => wpAny_pure h₃) fun _ _ h' => h')
  | true =>
    simp only [if_true] at h₂ ⊢
    refine wpAny_bind (wpAny_mono h₂ (fun f s₃ h₃ => ?_) fun _ _ h' => h')
    cases f with
    | next => exact wpAny_pure ⟨rfl, h₃⟩
    | cont => exact wpAny_pure ⟨rfl, h₃⟩
    | brk => exact wpAny_pure h₃
    | ret v => exact wpAny_pure h₃
theorem Blk.sub (hρ : ∀ {cl m I}, Holds d J σ ρ cl m I → Holds d J σ ρ' cl m I) (b : Blk S d σ k J body ρ' r J') : Blk S d σ k J body ρ r J' := .mk fun hf F hp => b.run hf (F.facts hρ) hp
end
end Mine
end
section
open PySem PySem.W PyProof.Rows PySem.Calls PyProof PySem.Spec
namespace Mine
section
variable {S : St} {d : Mut} {σ : Sig} {k : Nat} {J J' J'' : JM} {ρ ρ' ρ'' : Rho} {P P' : VP} {e e₁ e₂ e₃ : Expr} {pos p' : Pos} {x : Str}
  {A : Around} {l : List Env} {pl : Pl} {h₀ : Heap} {I₀ I I' : IM} {m m' : Str → Option Value} {h h' : Heap} {v : Value}
/-- the whole heap as a ledger -/
noncomputable def allNews (G h : Heap) (L : Addr) : List (Addr × Obj) := (List.range h.objs.size).filterMap fun b => if b = L then none else match G.get? b with
  | some _ => none
  | none => (h.get? b).map fun o => (b, o)
theorem news_all (G h : Heap) (L : Addr) : News G L h (allNews G h L) := by
  intro p hp
  obtain ⟨b, hb, e⟩ := List.mem_filterMap.mp hp
  split at e
  · cases e
  · rename_i hne
    split at e
    · cases e
    · rename_i hg
      cases q : h.get? b with
      | none => rw [q] at e; cases e
      | some o => rw [q] at e; cases e; exact ⟨q, hne, hg⟩
theorem all_mem {G h : Heap} {L b : Addr} {o : Obj} (e : h.get? b = some o) (hL : b ≠ L) (hg : G.get? b = none) : (b, o) ∈ allNews G h L := by
  refine List.mem_filterMap.mpr ⟨b, List.mem_range.mpr (Heap.lt_size e), ?_⟩
  rw [if_neg hL, hg, e]; rfl
theorem kept_of {G h h' : Heap} {L : Addr} {extra : List (Addr × Obj)} (g : ∀ b o, G.get? b = some o → h.get? b = some o) (F' : Fr G L h' m') (N' : News G L h' (extra ++ allNews G h L)) : ∀ b o, h.get? b = some o → b ≠ L → h'.get? b = some o := fun b o e hb => by
  cases q : G.get? b with
  | some o' =>
    have := g b o' q
    rw [e] at this; cases this
    exact F'.keep _ _ q
  | none => exact (N' _ (List.mem_append_right _ (all_mem e hb q))).1
theorem Ok.but (hff : pl.fe.frame = some L) (ok : Ok S d I J (pl.fe :: l) h) (k : ∀ b o, h.get? b = some o → b ≠ L → h'.get? b = some o) (hn : h'.Ns L m) (ap : ¬ InFr l L) : Ok S d I J (pl.fe :: l) h' := by
  obtain ⟨hk, L', oL, es, ep, hL, b, c, f, g, r⟩ := ok.fr _ (.head _)
  obtain rfl : L = L' := Option.some.inj (hff.symm.trans hL)
  refine ⟨fun b' o e => k _ _ (ok.imm _ _ e) (fun q => by rw [q, b] at e; cases e), ok.base, fun t hm => ⟨(ok.tabs t hm).off, ?_⟩, fun env he => ?_, ok.dI, ok.dT, fun b hb => ?_⟩
  · obtain ⟨ps, e, r⟩ := (ok.tabs t hm).is
    exact ⟨ps, k _ _ e fun q => f ⟨t, hm, q⟩, r⟩
  · rcases List.mem_cons.mp he with rfl | he
    · obtain ⟨o, es, ep, ho, hd, _⟩ := hn
      exact ⟨hk, L, o, es, ep, hff, b, c, f, ho, hd⟩
    · obtain ⟨hk, L₂, o, es, ep, hL₂, b, c, f, g, r⟩ := ok.fr env (.tail _ he)
      exact ⟨hk, L₂, o, es, ep, hL₂, b, c, f, k _ _ g fun q => ap ⟨env, he, q ▸ hL₂⟩, r⟩
  · obtain ⟨o, e, j⟩ := ok.dk b hb
    exact ⟨o, k _ _ e fun q => c (q ▸ hb), j⟩
theorem step_but (hff : pl.fe.frame = some L) (k : ∀ b o, h.get? b = some o → b ≠ L → h'.get? b = some o) (hn : h.Ns L m) (hn' : h'.Ns L m) : Step d (pl.fe :: l) h h' := fun b o e => by
  by_cases q : b = L
  · subst q
    refine .inr (.inr (.inr ⟨⟨_, .head _, hff⟩, fun m₂ hm₂ => ?_⟩))
    have : m₂ = m := by
      obtain ⟨o1, es1, ep1, a1, b1, c1, d1⟩ := hm₂
      obtain ⟨o2, es2, ep2, a2, b2, c2, d2⟩ := hn
      rw [a1] at a2; cases a2
      rw [b1] at b2; cases b2
      funext y; rw [← d1, ← d2]
    rw [this]; exact hn'
  · exact .inl (k b o e q)
theorem FrameOk.keepG (F : FrameOk S d σ k J ρ A l pl h₀ I₀ I m h) : ∀ b o, S.G.get? b = some o → h.get? b = some o := fun b o e => F.ok.imm _ _ (F.ok.base _ _ e)
theorem FrameOk.none_ (F : FrameOk S d σ k J ρ A l pl h₀ I₀ I m h) (ha : h.get? v' = none) (y : h'.get? v' = some o') (kp : ∀ b o, h.get? b = some o → b ≠ pl.L → h'.get? b = some o) (hn : h'.Ns pl.L mf) : Ok S d (I.put v' o') J (pl.fe :: l) h' ∧ Le I (I.put v' o') := by
  obtain ⟨o1, o2, o3, o4⟩ := F.ok.off ha
  exact ⟨(F.ok.but F.ff kp hn F.apart).put o1 y o2 o3 o4, Le.put o1⟩
/-- one new object of a rule of the library's -/
theorem FrameOk.bridge1 {b : Addr} {o : Obj} (F : FrameOk S d σ k J ρ A l pl h₀ I₀ I m h) (F' : Fr S.G pl.L h' (Classical.choose F.nsf)) (N' : News S.G pl.L h' ((b, o) :: allNews S.G h pl.L)) (hb : h.get? b = none) :
    Ok S d (I.put b o) J (pl.fe :: l) h' ∧ Le I (I.put b o) ∧ Step d (pl.fe :: l) h h' := by
  have kp := kept_of (extra := [(b, o)]) F.keepG F' N'
  obtain ⟨x, y⟩ := F.none_ hb (N' _ (.head _)).1 kp F'.ns
  exact ⟨x, y, step_but F.ff kp (Classical.choose_spec F.nsf) F'.ns⟩
theorem FrameOk.bridge0 (F : FrameOk S d σ k J ρ A l pl h₀ I₀ I m h) (F' : Fr S.G pl.L h' (Classical.choose F.nsf)) (N' : News S.G pl.L h' (allNews S.G h pl.L)) : Ok S d I J (pl.fe :: l) h' ∧ Step d (pl.fe :: l) h h' := by
  have kp := kept_of (extra := []) F.keepG F' N'
  exact ⟨F.ok.but F.ff kp F'.ns F.apart, step_but F.ff kp (Classical.choose_spec F.nsf) F'.ns⟩
theorem EvOk.twoF {op : Expr → Expr → Expr} {Pa Pr : VP} {t : Value → Value → Sem Value}
    (shape : ∀ {M : Model} {A : Around} {env : Env} {s : Shared} {Q E : Value → Shared → Prop}, wpAny M A (eval e₁ env) (fun a s₁ => wpAny M A (eval e₂ env) (fun b s₂ => wpAny M A (t a b) Q E s₂) E s₁) E s → wpAny M A (eval (op e₁ e₂) env) Q E s)
    (h₁ : EvOk S d σ k J e₁ ρ (.val Pa)) (h₂ : EvOk S d σ k J e₂ ρ (.val Pr))
    (h : ∀ {A : Around} {l : List Env} {pl : Pl} {h₀ : Heap} {I₀ I : IM} {m : Str → Option Value} {s : Shared} {Q E : Value → Shared → Prop} {x y : Value}, FrameOk S d σ k J ρ A l pl h₀ I₀ I m s.heap → Pa.p I x → Pr.p I y → Post S d (pl.fe :: l) I J s (.val P) Q E → wpAny (model pw S.w) A (t x y) Q E s) : EvOk S d σ k J (op e₁ e₂) ρ (.val P) := .mk fun {A l pl h₀ I₀ I m s Q E} F hp => by
  refine shape (h₁.run F fun v h' I' tk hl ok st hv => ?_)
  refine h₂.run (s := { s with heap := h', toks := tk }) (F.step hl ok st) fun v₂ h₂' I₂ tk₂ hl₂ ok₂ st₂ hv₂ => ?_
  exact h (s := { s with heap := h₂', toks := tk₂ }) ((F.step hl ok st).step hl₂ ok₂ st₂) (Pa.mono hl₂ hv) hv₂ fun v₃ h₃ I₃ tk₃ hl₃ ok₃ st₃ hv₃ => hp v₃ h₃ I₃ tk₃ ((hl.trans hl₂).trans hl₃) ok₃ ((st.trans st₂).trans st₃) hv₃
theorem isList_at {xs : List Int} (ok : Ok S d I J l h) (hv : (isList xs).p I v) : ∃ b its n, v = .ref b ∧ I b = some (listOf its n) ∧ h.IsList b its ∧ IntsAre its.toList xs := by
  obtain ⟨b, its, n, rfl, h1, h2⟩ := hv
  exact ⟨b, its, n, rfl, h1, ⟨_, ok.imm _ _ h1, rfl, n, rfl⟩, h2⟩
theorem EvOk.addL {xs ys : List Int} (hz : xs.length + ys.length ≤ 2 ^ 20) (h₁ : EvOk S d σ k J e₁ ρ (.val (isList xs))) (h₂ : EvOk S d σ k J e₂ ρ (.val (isList ys))) : EvOk S d σ k J (.BinOp e₁ .Add e₂ pos) ρ (.val (isList (xs ++ ys))) :=
  EvOk.twoF (P := (isList (xs ++ ys))) (op := fun l r => .BinOp l .Add r pos) wpAny_BinOp h₁ h₂ fun {A l pl h₀ I₀ I m s Q E x y} F hx hy hp => by
    obtain ⟨b, its, n, rfl, _, hb, hbi⟩ := isList_at F.ok hx
    obtain ⟨c, its', n', rfl, _, hc, hci⟩ := isList_at F.ok hy
    refine add_arrays_ints F.fr (news_all _ _ _) hb hc hbi hci (fun h' F' N' hi => ?_) (by rw [sizeLine_eq]; lia)
    obtain ⟨q1, q2, q3⟩ := F.bridge1 F' N' (get_size _)
    exact hp _ h' _ _ q2 q1 q3 ⟨_, _, _, rfl, IM.put_self _ _ _, hi⟩
theorem mulOf (items : Array Value) : ∀ n : Nat, (List.foldl (fun x1 x2 => x1 ++ x2) #[] (List.replicate n items)).toList = (List.replicate n items.toList).flatten := by
  have key : ∀ (n : Nat) (acc : Array Value), (List.foldl (fun x1 x2 => x1 ++ x2) acc (List.replicate n items)).toList = acc.toList ++ (List.replicate n items.toList).flatten := by
    intro n
    induction n with
    | zero => intro acc; simp
    | succ n ih => intro acc; rw [List.replicate_succ, List.foldl_cons, ih, List.replicate_succ, List.flatten_cons, Array.toList_append, List.append_assoc]
  intro n
  rw [key]; simp
theorem ints_rep {vs : List Value} {xs : List Int} (h : IntsAre vs xs) : ∀ n : Nat, IntsAre (List.replicate n vs).flatten (List.replicate n xs).flatten
  | 0 => .nil
  | n + 1 => by rw [List.replicate_succ, List.replicate_succ, List.flatten_cons, List.flatten_cons]; exact h.append (ints_rep h n)
theorem EvOk.mulL {xs : List Int} {n : Int} (hn : n ≤ 64) (hn0 : -64 ≤ n) (hz : xs.length ≤ 64) (h₁ : EvOk S d σ k J e₁ ρ (.val (isList xs))) (h₂ : EvOk S d σ k J e₂ ρ (.val (isInt n))) : EvOk S d σ k J (.BinOp e₁ .Mult e₂ pos) ρ (.val (isList (List.replicate n.toNat xs).flatten)) :=
  EvOk.twoF (P := (isList (List.replicate n.toNat xs).flatten)) (op := fun l r => .BinOp l .Mult r pos) wpAny_BinOp h₁ h₂ fun {A l pl h₀ I₀ I m s Q E x y} F hx ⟨t, hy⟩ hp => by
    obtain ⟨b, its, c, rfl, hI, hb, hbi⟩ := isList_at F.ok hx
    subst hy
    have hsz : its.size = xs.length := by rw [← Array.length_toList, hbi.length]
    refine mul_list F.fr (news_all _ _ _) (F.ok.imm _ _ hI) (by lia) (by lia) ?_ fun h' F' N' => ?_
    · rw [hsz]
      have : xs.length * n.toNat ≤ 64 * 64 := Nat.mul_le_mul hz (by lia)
      lia
    · obtain ⟨q1, q2, q3⟩ := F.bridge1 F' N' (get_size _)
      refine hp _ h' _ _ q2 q1 q3 ⟨_, _, _, rfl, IM.put_self _ _ _, ?_⟩
      rw [mulOf]
      have e : (if its.isEmpty = true then 0 else n.toNat) = if xs = [] then 0 else n.toNat := by
        have : its.isEmpty = true ↔ xs = [] := by
          rw [Array.isEmpty_iff_size_eq_zero, hsz, List.length_eq_zero_iff]
        by_cases q : xs = []
        · rw [if_pos q, if_pos (this.mpr q)]
        · rw [if_neg q, if_neg fun z => q (this.mp z)]
      rw [e]
      by_cases q : xs = []
      · rw [if_pos q]
        subst q
        simpa using IntsAre.nil
      · rw [if_neg q]; exact ints_rep hbi _
theorem EvOk.bltName {id : String} (hk : σ.scope.names.lookup (u id) = some .globalImplicit) (hg : ∀ P, nsIn (Kf P) mainGlobals (u id) = some none) (hv : bootBuiltins (u id) = some v) (hn : (u id) ≠ "__name__") (hd : ((u id) == ("__debug__" : Str)) = false) : EvOk S d σ k J (.Name (u id) pos) ρ (.val (isV v)) := EvOk.blt hk hg hv hn hd
theorem EvOk.callBlt {id : String} {np : Pos} {es : List Expr} {Ps : List VP} (hn : EvOk S d σ k J (.Name x np) ρ (.val (isV (.builtin id)))) (hs : PlainArgs es) (ha : ArgsOk S d σ k J es ρ Ps)
    (c : ∀ {A : Around} {l : List Env} {pl : Pl} {h₀ : Heap} {I₀ I : IM} {m : Str → Option Value} {s : Shared} {Q E : Value → Shared → Prop} {vs : List Value}, FrameOk S d σ k J ρ A l pl h₀ I₀ I m s.heap → Mine.Args I Ps vs → Post S d (pl.fe :: l) I J s (.val P) Q E → wpAny (model pw S.w) A (call (.builtin id) vs []) Q E s) :
    EvOk S d σ k J (.Call (.Name x np) es [] pos) ρ (.val P) := .mk fun {A l pl h₀ I₀ I m s Q E} F hp => by
  refine Call_ (hn.run F fun v h' I' tk hl ok st hv => ?_)
  cases hv
  have F' := F.step hl ok st
  refine callBlt_ok (first := []) (s := { s with heap := h', toks := tk }) F' hs ha fun vs h₂ I₂ tk₂ hl₂ ok₂ st₂ hv₂ => ?_
  exact c (s := { s with heap := h₂, toks := tk₂ }) (F'.step hl₂ ok₂ st₂) hv₂ ((Post.after (r := .val P) hp hl ok st).after hl₂ ok₂ st₂)
theorem EvOk.callTy {id : String} {np : Pos} {es : List Expr} {Ps : List VP} (hn : EvOk S d σ k J (.Name x np) ρ (.val (isV (.type id)))) (hs : PlainArgs es) (ha : ArgsOk S d σ k J es ρ Ps)
    (c : ∀ {A : Around} {l : List Env} {pl : Pl} {h₀ : Heap} {I₀ I : IM} {m : Str → Option Value} {s : Shared} {Q E : Value → Shared → Prop} {vs : List Value}, FrameOk S d σ k J ρ A l pl h₀ I₀ I m s.heap → Mine.Args I Ps vs → Post S d (pl.fe :: l) I J s (.val P) Q E → wpAny (model pw S.w) A (call (.type id) vs []) Q E s) :
    EvOk S d σ k J (.Call (.Name x np) es [] pos) ρ (.val P) := .mk fun {A l pl h₀ I₀ I m s Q E} F hp => by
  refine Call_ (hn.run F fun v h' I' tk hl ok st hv => ?_)
  cases hv
  have F' := F.step hl ok st
  refine callTy_ok (first := []) (s := { s with heap := h', toks := tk }) F' hs ha fun vs h₂ I₂ tk₂ hl₂ ok₂ st₂ hv₂ => ?_
  exact c (s := { s with heap := h₂, toks := tk₂ }) (F'.step hl₂ ok₂ st₂) hv₂ ((Post.after (r := .val P) hp hl ok st).after hl₂ ok₂ st₂)
theorem Args.one {I : IM} {P : VP} {vs : List Value} (h : Mine.Args I [P] vs) : ∃ v, vs = [v] ∧ P.p I v := by
  cases h with | cons a r => cases r; exact ⟨_, rfl, a⟩
theorem Args.two {I : IM} {P P' : VP} {vs : List Value} (h : Mine.Args I [P, P'] vs) : ∃ v v', vs = [v, v'] ∧ P.p I v ∧ P'.p I v' := by
  cases h with | cons a r => cases r with | cons b r => cases r; exact ⟨_, _, rfl, a, b⟩
theorem EvOk.len {np : Pos} {xs : List Int} (hn : EvOk S d σ k J (.Name x np) ρ (.val (isV (.builtin "len")))) (hs : PlainArgs [e]) (ha : ArgsOk S d σ k J [e] ρ [isList xs]) (hz : xs.length ≤ 2 ^ 20) : EvOk S d σ k J (.Call (.Name x np) [e] [] pos) ρ (.val (isInt xs.length)) :=
  EvOk.callBlt (P := (isInt xs.length)) hn hs ha fun {A l pl h₀ I₀ I m s Q E vs} F hv hp => by
    obtain ⟨v, rfl, hv1⟩ := hv.one
    obtain ⟨b, its, n, rfl, _, hb, hbi⟩ := isList_at F.ok hv1
    have hsz : its.size = xs.length := by rw [← Array.length_toList, hbi.length]
    refine len_list hb (by rw [hsz]; lia) ?_
    exact hsz ▸ hp.here (tk := _) F.ok ⟨_, rfl⟩
theorem EvOk.max {np : Pos} {i j : Int} (hn : EvOk S d σ k J (.Name x np) ρ (.val (isV (.builtin "max")))) (hs : PlainArgs [e₁, e₂]) (ha : ArgsOk S d σ k J [e₁, e₂] ρ [isInt i, isInt j]) : EvOk S d σ k J (.Call (.Name x np) [e₁, e₂] [] pos) ρ (.val (isInt (Max.max i j))) :=
  EvOk.callBlt (P := (isInt (Max.max i j))) hn hs ha fun {A l pl h₀ I₀ I m s Q E vs} F hv hp => by
    obtain ⟨v, v', rfl, ⟨t, rfl⟩, ⟨t', rfl⟩⟩ := hv.two
    refine max_two_N F.cx.handled F.fr (news_all _ _ _) fun h' tk F' N' => ?_
    obtain ⟨q1, q2⟩ := F.bridge0 F' N'
    refine hp _ h' _ _ (Le.refl _) q1 q2 ⟨if j > i then t' else t, ?_⟩
    congr 1
    by_cases c : j > i
    · rw [if_pos c]; lia
    · rw [if_neg c]; lia
theorem EvOk.min {np : Pos} {i j : Int} (hn : EvOk S d σ k J (.Name x np) ρ (.val (isV (.builtin "min")))) (hs : PlainArgs [e₁, e₂]) (ha : ArgsOk S d σ k J [e₁, e₂] ρ [isInt i, isInt j]) : EvOk S d σ k J (.Call (.Name x np) [e₁, e₂] [] pos) ρ (.val (isInt (Min.min i j))) :=
  EvOk.callBlt (P := (isInt (Min.min i j))) hn hs ha fun {A l pl h₀ I₀ I m s Q E vs} F hv hp => by
    obtain ⟨v, v', rfl, ⟨t, rfl⟩, ⟨t', rfl⟩⟩ := hv.two
    refine min_two_N F.cx.handled F.fr (news_all _ _ _) fun h' tk F' N' => ?_
    obtain ⟨q1, q2⟩ := F.bridge0 F' N'
    refine hp _ h' _ _ (Le.refl _) q1 q2 ⟨if j < i then t' else t, ?_⟩
    congr 1
    by_cases c : j < i
    · rw [if_pos c]; lia
    · rw [if_neg c]; lia
theorem EvOk.abs {np : Pos} {i : Int} (hn : EvOk S d σ k J (.Name x np) ρ (.val (isV (.builtin "abs")))) (hs : PlainArgs [e]) (ha : ArgsOk S d σ k J [e] ρ [isInt i]) : EvOk S d σ k J (.Call (.Name x np) [e] [] pos) ρ (.val (isInt (if i < 0 then -i else i))) :=
  EvOk.callBlt (P := (isInt (if i < 0 then -i else i))) hn hs ha fun {A l pl h₀ I₀ I m s Q E vs} F hv hp => by
    obtain ⟨v, rfl, ⟨t, rfl⟩⟩ := hv.one
    exact call_abs_int fun u tk => hp.here (tk := tk) F.ok ⟨_, rfl⟩
theorem EvOk.intB {np : Pos} {b : Bool} (hn : EvOk S d σ k J (.Name x np) ρ (.val (isV (.type "int")))) (hs : PlainArgs [e]) (ha : ArgsOk S d σ k J [e] ρ [isBool b]) : EvOk S d σ k J (.Call (.Name x np) [e] [] pos) ρ (.val (isInt (if b then 1 else 0))) :=
  EvOk.callTy (P := (isInt (if b then 1 else 0))) hn hs ha fun {A l pl h₀ I₀ I m s Q E vs} F hv hp => by
    obtain ⟨v, rfl, hv1⟩ := hv.one
    cases hv1
    exact call_int_bool (hp.here F.ok ⟨_, rfl⟩)
noncomputable abbrev IdxE (slice : Expr) : Prop := ∀ o i, subscripted slice false o i = operate [o, i] (getItem o i)
theorem EvOk.item {xs : List Int} {i y : Int} (hs : IdxE e₂) (h0 : 0 ≤ i) (hx : xs[i.toNat]? = some y) (hi : i < 2 ^ 62) (h₁ : EvOk S d σ k J e₁ ρ (.val (isList xs))) (h₂ : EvOk S d σ k J e₂ ρ (.val (isInt i))) : EvOk S d σ k J (.Subscript e₁ e₂ pos) ρ (.val (isInt y)) :=
  EvOk.twoF (P := (isInt y)) (op := fun l r => .Subscript l r pos) (fun h => Subscript_ h) h₁ h₂ fun {A l pl h₀ I₀ I m s Q E x v} F hv ⟨t, hy⟩ hp => by
    obtain ⟨b, its, n, rfl, _, hb, hbi⟩ := isList_at F.ok hv
    subst hy
    obtain ⟨t', hx'⟩ := hbi.get i.toNat _ hx
    exact tail_any hb.typeIs slot_list_getitem.lookup (wpAny_getItem_list hb h0 (by lia) (by simpa using hx') (hp.here (tk := _) F.ok ⟨_, rfl⟩)) (hs _ _)
theorem Args.get {I : IM} : ∀ {Ps : List VP} {vs : List Value} {j : Nat} {P : VP}, Mine.Args I Ps vs → Ps[j]? = some P → ∃ v, vs[j]? = some v ∧ P.p I v
  | _, _, _, _, .nil, e => by simp at e
  | _, _, 0, _, .cons h r, e => by simp at e; subst e; exact ⟨_, rfl, h⟩
  | _, _, j + 1, _, .cons h r, e => by
    rw [List.getElem?_cons_succ] at e
    obtain ⟨v, a, b⟩ := Args.get r e
    exact ⟨v, by rw [List.getElem?_cons_succ]; exact a, b⟩
theorem EvOk.tupAt {Ps : List VP} {i : Int} {n : Nat} {cp : Pos} {j : Nat} (hj : seqIndex? i Ps.length = some j) (hP : Ps[j]? = some P) (hi : -(2 ^ 62) ≤ i ∧ i < 2 ^ 62) (h₁ : EvOk S d σ k J e₁ ρ (.val (isTup Ps))) : EvOk S d σ k J (.Subscript e₁ (.Constant (.int i) n cp) pos) ρ (.val P) :=
  EvOk.twoF (P := P) (op := fun l r => .Subscript l r pos) (fun h => Subscript_ h) h₁ EvOk.intC fun {A l pl h₀ I₀ I m s Q E x v} F hv ⟨t, hy⟩ hp => by
    obtain ⟨b, vs, c, rfl, hI, hvs⟩ := hv
    subst hy
    obtain ⟨u, hu, hPu⟩ := hvs.get hP
    refine item_tupleT ⟨_, F.ok.imm _ _ hI, rfl, c, rfl⟩ (by lia) (by lia) (by rw [hvs.len]; exact hj) hu (hp.here (tk := _) F.ok hPu) rfl
theorem EvOk.tuple {es : List Expr} {Ps : List VP} {n : Nat} (ha : ArgsOk S d σ k J es ρ Ps) (hz : Ps.length ≤ 64) : EvOk S d σ k J (.Tuple es n pos) ρ (.val (isTup Ps)) := .mk fun {A l pl h₀ I₀ I m s Q E} F hp => by
  refine Tuple_ (ha.run F fun vs h' I' tk hl ok st hv => ?_)
  have F' := F.step hl ok st
  refine newTuple_N F'.fr (news_all _ _ _) (fun h₂ F₂ N₂ => ?_) (by rw [hv.len, sizeLine_eq]; lia)
  obtain ⟨q1, q2, q3⟩ := F'.bridge1 F₂ N₂ (get_size _)
  exact hp _ h₂ _ _ (hl.trans q2) q1 (st.trans q3) ⟨_, vs, _, rfl, IM.put_self _ _ _, hv.mono q2⟩
theorem Args.ints {I : IM} : ∀ {xs : List Int} {vs : List Value}, Mine.Args I (xs.map isInt) vs → IntsAre vs xs
  | [], _, .nil => .nil
  | _ :: _, _, .cons ⟨t, h⟩ r => h ▸ .cons _ _ (Args.ints r)
theorem EvOk.list {es : List Expr} {xs : List Int} (ha : ArgsOk S d σ k J es ρ (xs.map isInt)) (hz : xs.length ≤ 64) : EvOk S d σ k J (.List es pos) ρ (.val (isList xs)) := .mk fun {A l pl h₀ I₀ I m s Q E} F hp => by
  refine List_ (ha.run F fun vs h' I' tk hl ok st hv => ?_)
  have F' := F.step hl ok st
  refine newList_N F'.fr (news_all _ _ _) (fun h₂ F₂ N₂ => ?_) (by rw [hv.len, List.length_map, sizeLine_eq]; lia)
  obtain ⟨q1, q2, q3⟩ := F'.bridge1 F₂ N₂ (get_size _)
  exact hp _ h₂ _ _ (hl.trans q2) q1 (st.trans q3) ⟨_, _, _, rfl, IM.put_self _ _ _, by simpa using hv.ints⟩
end
end Mine
end
section
open PySem PySem.W PyProof.Rows PySem.Calls PyProof PySem.Spec
namespace Mine
theorem lk_head {α : Type} {x : Str} {P : α} {ρ : List (Str × α)} : List.lookup x ((x, P) :: ρ) = some P := by simp
theorem lk_tail {α : Type} {x y : Str} {P Q : α} {ρ : List (Str × α)} (h : (x == y) = false) (r : List.lookup x ρ = some P) : List.lookup x ((y, Q) :: ρ) = some P := by rw [List.lookup_cons, h]; exact r
noncomputable def fdO (st : Stmt) (qual : Str) (dV pm cd : Value) : FuncData := match st with
  | .FunctionDef name args body _ _ _ scope _ _ _ => { name := name, qualname := qual, params := args, body := .stmts body, scope := scope, globals := 3, closure := [], defaults := dV, kwdefaults := .none, doc := .none, pyModule := pm, annotations := none, code := cd, closureTuple := .none, builtins := 0 }
  | _ => { name := u "", qualname := u "", params := ⟨[], [], none, [], [], none, []⟩, body := .stmts [], scope := ⟨.function, [], false, false, []⟩, globals := 0, closure := [], defaults := .none, kwdefaults := .none }
noncomputable def bodyOf (st : Stmt) : List Stmt := match st with
  | .FunctionDef _ _ body _ _ _ _ _ _ _ => body
  | _ => []
noncomputable def scopeOf (st : Stmt) : Scope := match st with
  | .FunctionDef _ _ _ _ _ _ sc _ _ _ => sc
  | _ => ⟨.function, [], false, false, []⟩
noncomputable def sigO (st : Stmt) (qual : Str) (cd : Value) : Sig := ⟨qual, scopeOf st, cd, []⟩
noncomputable def isFD (st : Stmt) : Bool := match st with
  | .FunctionDef .. => true
  | _ => false
theorem defIs_of {st : Stmt} {qual : Str} {dV pm cd : Value} {f : Addr} (e1 : ∀ P, (Kf P).lookup f = some ⟨.type "function", none, .func (fdO st qual dV pm cd), #[]⟩) (e2 : (isFD st && (scopeOf st).kind == .function && !(scopeOf st).isCoroutine && !(scopeOf st).isGenerator) = true) (e3 : ∀ P, codeIn (Kf P) cd qual = true) :
    DefIs f (fdO st qual dV pm cd) (sigO st qual cd) (bodyOf st) := by
  simp only [Bool.and_eq_true, beq_iff_eq, Bool.not_eq_true'] at e2
  cases st <;> first
    | exact ⟨⟨fun P => ⟨_, _, _, e1 P⟩⟩, rfl, rfl, rfl, rfl, rfl, rfl, rfl, e3, e2.1.1.2, e2.1.2, e2.2, rfl⟩
    | exact Bool.noConfusion (show false = true from e2.1.1.1)
end Mine
end
section
open PySem PySem.W PyProof.Rows PySem.Calls PyProof PySem.Spec
namespace Mine
section
variable {S : St} {d : Mut} {σ : Sig} {k : Nat} {J J' J'' : JM} {ρ ρ' : Rho} {P P' : VP} {r : Out} {e e₁ e₂ e₃ : Expr} {pos : Pos} {x : Str} {l : List Env} {I I' : IM} {h h' : Heap}
/-- these objects are never turned again -/
noncomputable def IM.puts (I : IM) (X : Addr → Prop) (h : Heap) : IM := fun b => open Classical in if X b then h.get? b else I b
theorem IM.puts_in {X : Addr → Prop} {b : Addr} (hb : X b) : I.puts X h b = h.get? b := by unfold IM.puts; rw [if_pos hb]
theorem IM.puts_out {X : Addr → Prop} {b : Addr} (hb : ¬ X b) : I.puts X h b = I b := by unfold IM.puts; rw [if_neg hb]
theorem Le.puts {X : Addr → Prop} (hX : ∀ b, X b → I b = none) : Le I (I.puts X h) := fun b o e => by
  by_cases q : X b
  · rw [hX b q] at e; cases e
  · rw [IM.puts_out q]; exact e
theorem Ok.puts {X : Addr → Prop} (ok : Ok S d I J l h) (hX : ∀ b, X b → I b = none ∧ ¬ d b ∧ ¬ IsTab b ∧ ∀ env ∈ l, env.frame ≠ some b) : Ok S d (I.puts X h) J l h := by
  have le : Le I (I.puts X h) := Le.puts fun b hb => (hX b hb).1
  refine ⟨fun b o e => ?_, fun b o e => le _ _ (ok.base _ _ e), fun t ht => ⟨?_, ?_⟩, fun env he => ?_, fun b hb => ?_, ok.dT, fun b hb => let ⟨o', e', j⟩ := ok.dk b hb; ⟨o', e', (J b).mono le j⟩⟩
  · by_cases q : X b
    · rw [IM.puts_in q] at e; exact e
    · rw [IM.puts_out q] at e; exact ok.imm _ _ e
  · rw [IM.puts_out fun q => (hX _ q).2.2.1 ⟨t, ht, rfl⟩]; exact (ok.tabs t ht).off
  · obtain ⟨ps, e, tr, r⟩ := (ok.tabs t ht).is
    refine ⟨ps, e, tr, fun pos cv hc => ?_⟩
    obtain ⟨c', oc, vs, tk, h1, h2, h3⟩ := r pos cv hc
    exact ⟨c', oc, vs, tk, h1, le _ _ h2, h3⟩
  · obtain ⟨a, L, o, es, ep, hf, b, c, f, g, r⟩ := ok.fr env he
    exact ⟨a, L, o, es, ep, hf, by rw [IM.puts_out fun q => (hX _ q).2.2.2 env he hf]; exact b, c, f, g, r⟩
  · rw [IM.puts_out fun q => (hX _ q).2.1 hb]; exact ok.dI b hb
theorem bindL_out {kindOf : Str → Option NameKind} : ∀ (binds : List (Str × Value)) (m : Str → Option Value), (∀ y ∈ binds, y.1 ≠ x) → bindL kindOf binds m x = m x
  | [], _, _ => rfl
  | (n, v) :: r, m, h => by
    unfold bindL
    rw [bindL_out r _ fun y hy => h y (.tail _ hy)]
    split
    · exact if_neg (Ne.symm (h _ (.head _)))
    · rfl
theorem bindC_out {kindOf : Str → Option NameKind} : ∀ (binds : List (Str × Value)) (m : Str → Option Value), (∀ y ∈ binds, y.1 ≠ x) → bindC kindOf binds m x = m x
  | [], _, _ => rfl
  | (n, v) :: r, m, h => by
    unfold bindC
    rw [bindC_out r _ fun y hy => h y (.tail _ hy)]
    split
    · rfl
    · exact if_neg (Ne.symm (h _ (.head _)))
theorem bindL_in {kindOf : Str → Option NameKind} {v : Value} (hk : kindOf x = some .local) : ∀ (binds : List (Str × Value)) (m : Str → Option Value), (binds.map (·.1)).Nodup → (x, v) ∈ binds → bindL kindOf binds m x = some v
  | [], _, _, h => by cases h
  | (n, w) :: r, m, hn, h => by
    simp only [List.map_cons, List.nodup_cons] at hn
    unfold bindL
    rcases List.mem_cons.mp h with e | h
    · cases e
      rw [bindL_out r _ fun y hy q => hn.1 (List.mem_map.mpr ⟨y, hy, q⟩), if_pos hk, if_pos rfl]
    · exact bindL_in hk r _ hn.2 h
theorem bindC_in {kindOf : Str → Option NameKind} {v : Value} (hk : kindOf x = some .cell) : ∀ (binds : List (Str × Value)) (m : Str → Option Value), (binds.map (·.1)).Nodup → (x, v) ∈ binds → bindC kindOf binds m x = some v
  | [], _, _, h => by cases h
  | (n, w) :: r, m, hn, h => by
    simp only [List.map_cons, List.nodup_cons] at hn
    unfold bindC
    rcases List.mem_cons.mp h with e | h
    · cases e
      rw [bindC_out r _ fun y hy q => hn.1 (List.mem_map.mpr ⟨y, hy, q⟩), if_neg (by rw [hk]; decide), if_pos rfl]
    · exact bindC_in hk r _ hn.2 h
theorem callEnvC_is {f L : Addr} {fd : FuncData} {body : List Stmt} (D : DefIs f fd σ body) : callEnvC fd L f = σ.env L f (cellsFrom (L + 1) σ.scope.names []) := by
  unfold callEnvC newEnv
  simp only [D.scope, D.glob, D.qual, D.cd, D.blt]
/-- a def with cells of its own, all of them parameters that are never stored again -/
theorem CallOk.defC {f : Addr} {fd : FuncData} {body : List Stmt} {xs : List Str} {Ps DPs : List VP} {dvs : List Value} {r' : BOut} (D : DefIs f fd σ body)
    (hb : ∀ (vs : List Value), vs.length = Ps.length → bindArgs fd ⟨vs, []⟩ = pure (xs.zip (vs ++ dvs)))
    (hx : ∀ n, (xs.all fun y => σ.scope.names.lookup y == some .local || (σ.scope.names.lookup y == some .cell && ((cellsFrom n σ.scope.names []).lookup y).isSome)) = true) (hn : xs.Nodup) (hd : ∀ I, Args I DPs dvs) (o : Outs r r')
    (b : Blk S d σ k J body (xs.zip (Ps ++ DPs)) r' J') : CallOk S d (k + 1) J f Ps r J' := fun {A l I s vs Q E} _ cx ok ha hp => by
  obtain ⟨of_, hI, hda⟩ := D.d.I ok
  have keep : ∀ b o, S.G.get? b = some o → s.heap.get? b = some o := fun b o e => ok.imm _ _ (ok.base _ _ e)
  have hcd : s.heap.CodeRec fd.code fd.qualname := by rw [D.cd, D.qual]; exact codeRec_of (S.kin.keeps keep) (D.code _)
  refine wpAny_call (codeAny_call_cells (fd := fd) (body := body) (binds := xs.zip (vs ++ dvs)) (by have := cx.depth; unfold recursionLimit; lia) (ok.imm _ _ hI) hda (S.top.nolimit.keeps keep) hcd D.body (hb vs ha.len) D.clos ?_ ?_ (by rw [D.scope]; exact D.co) (by rw [D.scope]; exact D.gen) (by rw [D.scope]; exact D.kind))
  · intro y hy
    rw [D.scope]
    have := List.all_eq_true.mp (hx (s.heap.objs.size + 1)) y.1 (List.of_mem_zip hy).1
    simp only [Bool.or_eq_true, Bool.and_eq_true, beq_iff_eq] at this
    exact this
  · intro s₁ X
    rw [callEnvC_is D] at X ⊢
    obtain ⟨h₁, tk₁, rfl⟩ := X.toInCall.same
    have hk₁ : ∀ b o, s.heap.get? b = some o → h₁.get? b = some o := X.toInCall.keep
    have hns := X.toInCall.ns
    obtain ⟨o1, o2, o3, o4⟩ := ok.off (get_size s.heap)
    have hfrs : (A.deeper (σ.env s.heap.objs.size f (cellsFrom (s.heap.objs.size + 1) σ.scope.names []))).frames = some (σ.env s.heap.objs.size f (cellsFrom (s.heap.objs.size + 1) σ.scope.names []) :: l) := by
      show A.frames.map _ = _
      rw [cx.frames]; rfl
    have ok₁ : Ok S d I J (σ.env s.heap.objs.size f (cellsFrom (s.heap.objs.size + 1) σ.scope.names []) :: l) h₁ := by
      have g := ok.grow hk₁
      refine ⟨g.imm, g.base, g.tabs, fun env he => ?_, g.dI, g.dT, g.dk⟩
      rcases List.mem_cons.mp he with rfl | he
      · obtain ⟨o, es, ep, ho, hda, _⟩ := hns
        exact ⟨by show σ.scope.kind ≠ _; rw [D.kind]; decide, s.heap.objs.size, o, es, ep, rfl, o1, o2, o3, ho, hda⟩
      · exact g.fr env he
    let Xc : Addr → Prop := fun b => ∃ n, (n, b) ∈ cellsFrom (s.heap.objs.size + 1) σ.scope.names []
    have new : ∀ b, Xc b → s.heap.get? b = none := fun b ⟨n, hm⟩ => by
      have hlt : s.heap.objs.size < b := X.above _ _ hm
      cases q : s.heap.get? b with
      | none => rfl
      | some o => exact absurd (Heap.lt_size q) (Nat.lt_asymm hlt)
    have ne : ∀ b, Xc b → b ≠ s.heap.objs.size := fun b ⟨n, hm⟩ q => by
      have hlt : s.heap.objs.size < b := X.above _ _ hm
      exact Nat.ne_of_gt hlt q
    have offX : ∀ b, Xc b → I b = none ∧ ¬ d b ∧ ¬ IsTab b ∧ ∀ env ∈ (σ.env s.heap.objs.size f (cellsFrom (s.heap.objs.size + 1) σ.scope.names []) :: l), env.frame ≠ some b := fun b hb => by
      obtain ⟨q1, q2, q3, q4⟩ := ok.off (new b hb)
      refine ⟨q1, q2, q3, fun env he => ?_⟩
      rcases List.mem_cons.mp he with rfl | he
      · exact fun q => ne b hb (Option.some.inj q).symm
      · exact q4 env he
    have ok₂ := ok₁.puts offX
    have le₂ : Le I (I.puts Xc h₁) := Le.puts fun b hb => (offX b hb).1
    have F : FrameOk S d σ k J (xs.zip (Ps ++ DPs)) (A.deeper (σ.env s.heap.objs.size f (cellsFrom (s.heap.objs.size + 1) σ.scope.names []))) l (σ.pl s.heap.objs.size f (cellsFrom (s.heap.objs.size + 1) σ.scope.names [])) s.heap I (I.puts Xc h₁) (bindL (σ.env s.heap.objs.size f (cellsFrom (s.heap.objs.size + 1) σ.scope.names [])).kindOf (xs.zip (vs ++ dvs)) fun _ => none) h₁ := by
      refine ⟨⟨hfrs, cx.handled, ?_, ?_⟩, rfl, rfl, rfl, rfl, rfl, rfl, D.kind, ok₂, .of_keeps hk₁, get_size _, ?_, fun ⟨e, he, hf⟩ => o4 e he hf, hns, .inl ⟨o2, o3⟩, ⟨_, hns⟩, le₂, ?_, fun _ _ e => by rw [show (σ.own : List (Str × Addr)) = [] from D.own] at e; cases e⟩
      · show A.depth + 1 + 4 * k ≤ 900
        have := cx.depth; lia
      · show A.units + 3 + 64 * k ≤ 9000
        have := cx.units; lia
      · obtain ⟨z, oz, ez, hz⟩ := S.last
        exact Nat.le_trans hz (Heap.lt_size (keep _ _ ez))
      · intro y P e
        obtain ⟨v, hm, hv⟩ := zip_mem xs (ha.append (hd I)) e
        have hy := List.all_eq_true.mp (hx (s.heap.objs.size + 1)) y (List.of_mem_zip hm).1
        simp only [Bool.or_eq_true, Bool.and_eq_true, beq_iff_eq] at hy
        have nd : ((xs.zip (vs ++ dvs)).map (·.1)).Nodup := zip_keys _ _ hn
        unfold Reads
        rcases hy with hy | ⟨hy, hc⟩
        · rw [hy]
          exact ⟨v, bindL_in hy _ _ nd hm, P.mono le₂ hv⟩
        · rw [hy]
          obtain ⟨c, hc⟩ := Option.isSome_iff_exists.mp hc
          obtain ⟨oc, hoc, hdc⟩ := X.cell y c hc
          refine ⟨c, hc, .inl ⟨oc, v, ?_, ?_, P.mono le₂ hv⟩⟩
          · rw [IM.puts_in ⟨y, mem_of_lookup hc⟩]; exact hoc
          · rw [hdc]
            exact congrArg Data.cell (bindC_in hy _ _ nd hm)
    cases o with
    | val =>
      refine b.run (s := { s with heap := h₁, toks := _ }) ⟨rfl, rfl⟩ F fun v h' I' tk hl ok' st hv => ?_
      exact hp v h' I' tk hl ⟨ok'.imm, ok'.base, ok'.tabs, fun env he => ok'.fr env (.tail _ he), ok'.dI, ok'.dT, ok'.dk⟩ st hv
    | new =>
      refine b.run (s := { s with heap := h₁, toks := _ }) ⟨rfl, rfl⟩ F fun a h' I' tk hl ok' st hv hn => ?_
      exact hp a h' I' tk hl ⟨ok'.imm, ok'.base, ok'.tabs, fun env he => ok'.fr env (.tail _ he), ok'.dI, ok'.dT, ok'.dk⟩ st hv hn
    | exc =>
      refine b.run (s := { s with heap := h₁, toks := _ }) ⟨rfl, rfl⟩ F fun e h' I' tk hl fl => ?_
      exact Fly.leave (s := { s with heap := h', toks := tk }) hfrs rfl (get_size _) fl fun h₂ fl₂ => hp e h₂ I' tk hl fl₂
end
end Mine
end
section
open PySem PySem.W PyProof.Rows PySem.Calls PyProof PySem.Spec PyProof.Rows.LCg
namespace Mine
/-- more may be turned -/
structure More (d : Mut) (J : JM) (d' : Mut) (J' : JM) : Prop where
  md : ∀ b, d b → d' b
  mJ : ∀ b, d b → J' b = J b
theorem More.cell {d d' : Mut} {J J' : JM} (M : More d J d' J') {I I' : IM} (hl : Le I I') {c : Addr} {P : VP} (h : CellHas d J I c P) : CellHas d' J' I' c P := by
  rcases h with ⟨o, v, a, b, q⟩ | ⟨a, b⟩
  · exact .inl ⟨o, v, hl _ _ a, b, P.mono hl q⟩
  · exact .inr ⟨M.md _ a, fun I₂ o l => by rw [M.mJ _ a]; exact b I₂ o (hl.trans l)⟩
section
variable {S : St} {d d' : Mut} {σ : Sig} {k : Nat} {J J' J'' : JM} {ρ ρ' : Rho} {P P' : VP} {r : Out} {e e₁ e₂ e₃ : Expr} {pos : Pos} {x : Str} {l : List Env} {I I' : IM} {h₀ h h' : Heap}
theorem Ok.less (M : More d J d' J') (ok : Ok S d' I J' l h) : Ok S d I J l h :=
  ⟨ok.imm, ok.base, ok.tabs, fun env he => let ⟨a, L, o, es, ep, hf, b, c, f, g, r⟩ := ok.fr env he; ⟨a, L, o, es, ep, hf, b, fun q => c (M.md _ q), f, g, r⟩, fun b hb => ok.dI b (M.md _ hb), fun b hb => ok.dT b (M.md _ hb),
    fun b hb => let ⟨o, e, j⟩ := ok.dk b (M.md _ hb); ⟨o, e, by rw [M.mJ _ hb] at j; exact j⟩⟩
/-- what is off everything may be turned -/
theorem Ok.turn {X : Addr → Prop} (ok : Ok S d I J l h) (hX : ∀ b, X b → I b = none ∧ ¬ d b ∧ ¬ IsTab b ∧ ∀ env ∈ l, env.frame ≠ some b) (k : ∀ b o, ¬ X b → h.get? b = some o → h'.get? b = some o) : Ok S d I J l h' := by
  refine ⟨fun b o e => ?_, ok.base, fun t ht => ⟨(ok.tabs t ht).off, ?_⟩, fun env he => ?_, ok.dI, ok.dT, fun b hb => ?_⟩
  · exact k _ _ (fun q => by rw [(hX b q).1] at e; cases e) (ok.imm _ _ e)
  · obtain ⟨ps, e, r⟩ := (ok.tabs t ht).is
    exact ⟨ps, k _ _ (fun q => (hX _ q).2.2.1 ⟨t, ht, rfl⟩) e, r⟩
  · obtain ⟨a, L, o, es, ep, hf, b, c, f, g, r⟩ := ok.fr env he
    exact ⟨a, L, o, es, ep, hf, b, c, f, k _ _ (fun q => (hX _ q).2.2.2 env he hf) g, r⟩
  · obtain ⟨o, e, j⟩ := ok.dk b hb
    exact ⟨o, k _ _ (fun q => (hX _ q).2.1 hb) e, j⟩
theorem Ok.more {X : Addr → Prop} (ok : Ok S d I J l h) (hX : ∀ b, X b → I b = none ∧ ¬ d b ∧ ¬ IsTab b ∧ ∀ env ∈ l, env.frame ≠ some b) (M : More d J d' J') (hd : ∀ b, d' b → d b ∨ (X b ∧ ∃ o, h.get? b = some o ∧ (J' b).p I o)) : Ok S d' I J' l h := by
  refine ⟨ok.imm, ok.base, ok.tabs, fun env he => ?_, fun b hb => ?_, fun b hb => ?_, fun b hb => ?_⟩
  · obtain ⟨a, L, o, es, ep, hf, b, c, f, g, r⟩ := ok.fr env he
    refine ⟨a, L, o, es, ep, hf, b, fun q => ?_, f, g, r⟩
    rcases hd _ q with q | q
    · exact c q
    · exact (hX _ q.1).2.2.2 env he hf
  · rcases hd b hb with q | q
    · exact ok.dI b q
    · exact (hX b q.1).1
  · rcases hd b hb with q | q
    · exact ok.dT b q
    · exact (hX b q.1).2.2.1
  · rcases hd b hb with q | q
    · obtain ⟨o, e, j⟩ := ok.dk b q
      exact ⟨o, e, by rw [M.mJ _ q]; exact j⟩
    · exact q.2
theorem Step.more (M : ∀ b, d b → d' b) (st : Step d l h h') : Step d' l h h' := fun b o e => (st b o e).imp_right fun q => q.imp_right fun q => q.imp_left (M b)
/-- what was not there at first may be turned in between -/
theorem Step.thru (x : Step d l h₀ h) (hd : ∀ b, d' b → d b ∨ h₀.get? b = none) (y : Step d' l h h') : Step d l h₀ h' := by
  intro b o e
  by_cases ht : IsTab b
  · exact .inr (.inl ht)
  by_cases hb : d b
  · exact .inr (.inr (.inl hb))
  have nd : ¬ d' b := fun q => (hd b q).elim hb fun q => by rw [q] at e; cases e
  rcases x b o e with a | a | a | ⟨a, a'⟩
  · rcases y b o a with c | c | c | ⟨c, c'⟩
    · exact .inl c
    · exact .inr (.inl c)
    · exact absurd c nd
    · exact .inr (.inr (.inr ⟨c, fun m hn => c' m (ns_of_get e a hn)⟩))
  · exact absurd a ht
  · exact absurd a hb
  · exact .inr (.inr (.inr ⟨a, fun m hn => y.ns' nd ht (a' m hn)⟩))
theorem closure_is {env : Env} {scope : Scope} {g : Str → Addr} (hf : ∀ y ∈ scope.names, y.2 = .free → env.cells.lookup y.1 = some (g y.1)) :
    closureFor scope env = pure (((scope.names.filter (·.2 == .free)).map fun y => (y.1, g y.1)).reverse) := by
  unfold closureFor
  have H : ∀ (ns : List (Str × NameKind)) (acc : List (Str × Addr)), (∀ y ∈ ns, y.2 = .free → env.cells.lookup y.1 = some (g y.1)) →
      (forIn ns acc fun y cs => (do
        if y.2 == .free then
          let c ← cellOf env y.1
          pure (ForInStep.yield ((y.1, c) :: cs))
        else pure (ForInStep.yield cs) : Sem (ForInStep (List (Str × Addr))))) = pure (((ns.filter (·.2 == .free)).map fun y => (y.1, g y.1)).reverse ++ acc) := by
    intro ns
    induction ns with
    | nil => intro acc _; simp
    | cons y r ih =>
      intro acc hy
      rw [List.forIn_cons]
      by_cases q : y.2 = .free
      · have hc : cellOf env y.1 = pure (g y.1) := by unfold cellOf; rw [hy y (.head _) q]
        simp only [q, beq_self_eq_true, if_true, hc, pure_bind]
        rw [ih _ fun z hz => hy z (.tail _ hz)]
        simp [q]
      · have q' : (y.2 == NameKind.free) = false := by simpa using q
        simp only [q', Bool.false_eq_true, if_false, pure_bind]
        rw [ih _ fun z hz => hy z (.tail _ hz)]
        simp [q']
  have := H scope.names [] hf
  simp only [List.append_nil] at this
  simp only [bind_pure_comp, map_pure] at this ⊢
  rw [this]; rfl
/-- no cell, and no iterator that makes its tuples anew -/
noncomputable def plainIt (o : Obj) : Bool := (match o.data with | .cell _ => false | _ => true) && (match o.cls with | .type n => !(["enumerate", "zip", "dict_itemiterator", "dict_reverseitemiterator", "odict_iterator", "itertools.zip_longest", "itertools.pairwise"] : List String).contains n | _ => true)
theorem plainIt.nc {o : Obj} (h : plainIt o = true) : ∀ v, o.data ≠ .cell v := fun v q => by unfold plainIt at h; rw [q] at h; simp at h
/-- an iterable: the facts of what it yields -/
noncomputable def IterV (I : IM) (v : Value) (items : List VP) : Prop := ∀ {w : World} {A : Around} {s : Shared} {Q : Value → Shared → Prop} {E : Value → Shared → Prop}, A.handled = none → (∀ b o, I b = some o → s.heap.get? b = some o) →
  (∀ (o : Obj) (fp : List Addr) (P : Nat → Value → Prop) (St : Nat → Heap → Prop), (∀ A' : Around, A'.handled = none → Walks pw w A' s.heap.objs.size fp [s.heap.objs.size] items.length P St) → (∀ b ∈ fp, b = s.heap.objs.size ∨ ∃ o, I b = some o) →
    (∀ i h, St i h → ∃ o, h.get? s.heap.objs.size = some o ∧ plainIt o = true) → (∀ i v Pi, P i v → items[i]? = some Pi → Pi.p I v) → St 0 (s.heap.push o) → Q (.ref s.heap.objs.size) { s with heap := s.heap.push o }) → wpAny (model pw w) A (pyIter v) Q E s
noncomputable def isIter (items : List VP) : VP := ⟨fun I v => IterV I v items, fun k h _ _ _ _ _ hh hi hq => h hh (fun b o e => hi b o (k b o e)) fun o fp P St W f x y z => hq o fp P St W (fun b hb => (f b hb).imp_right fun ⟨o, e⟩ => ⟨o, k _ _ e⟩) x (fun i v Pi a b => Pi.mono k (y i v Pi a b)) z⟩
noncomputable def isListOf (Ps : List VP) : VP := ⟨fun I v => ∃ a its n, v = .ref a ∧ I a = some (listOf its n) ∧ Args I Ps its.toList, fun k ⟨a, its, n, e, b, r⟩ => ⟨a, its, n, e, k _ _ b, r.mono k⟩⟩
noncomputable def compSig (σ : Sig) (scope : Scope) : Sig := ⟨σ.qual, { scope with names := scope.names.map fun (n, k) => if (k == .free && σ.scope.kind == .function && σ.scope.names.lookup n == some .cell) then (n, .cell) else (n, k) }, σ.cd, []⟩
noncomputable def TestsOk (S : St) (d : Mut) (σ : Sig) (k : Nat) (J : JM) (ifs : List Expr) (ρ : Rho) (b : Bool) : Prop := match ifs with
  | [] => b = true
  | [c] => TestOk S d σ k J c ρ b
  | _ => False
theorem TestsOk.run {ifs : List Expr} {b : Bool} (t : TestsOk S d σ k J ifs ρ b) {A : Around} {pl : Pl} {I₀ : IM} {m : Str → Option Value} {s : Shared} {Q : Bool → Shared → Prop} {E : Value → Shared → Prop} (F : FrameOk S d σ k J ρ A l pl h₀ I₀ I m s.heap)
    (hp : ∀ h' I' tk, Le I I' → Ok S d I' J (pl.fe :: l) h' → Step d (pl.fe :: l) s.heap h' → Q b { s with heap := h', toks := tk }) :
    wpAny (model pw S.w) A (forIn ifs true fun c r => if r = true then do let ok ← isTrue c pl.env (eval c pl.env); pure (ForInStep.yield ok) else pure (ForInStep.yield r)) Q E s := by
  match ifs, t with
  | [], t =>
    have t : b = true := t
    subst t
    exact wpAny_tests_nil (hp s.heap I s.toks (Le.refl _) F.ok (Step.refl _ _ _))
  | [c], t => exact wpAny_tests_one (TestOk.run t F hp)
end
end Mine
end
section
open PySem PySem.W PyProof.Rows PySem.Calls PyProof PySem.Spec PyProof.Rows.LCg
namespace Mine
section
variable {S : St} {d d' : Mut} {σ : Sig} {k : Nat} {J J' J'' : JM} {ρ ρ' : Rho} {P P' : VP} {r : Out} {e e₁ e₂ e₃ : Expr} {pos : Pos} {x : Str} {l : List Env} {I I' : IM} {h₀ h h' : Heap}
/-- the facts that a comprehension sees: cells of the def's -/
inductive FreeOk (σ : Sig) (scope : Scope) (ρ : Rho) : Rho → Prop
  | nil : FreeOk σ scope ρ []
  | cons {x : Str} {P : VP} {ρ₁ : Rho} : ρ.lookup x = some P → ((scope.names.lookup x == some .free) && (σ.scope.names.lookup x == some .cell || σ.scope.names.lookup x == some .free) && ((compSig σ scope).scope.names.lookup x == some .cell || (compSig σ scope).scope.names.lookup x == some .free)) = true → FreeOk σ scope ρ ρ₁ → FreeOk σ scope ρ ((x, P) :: ρ₁)
theorem FreeOk.get {scope : Scope} {ρ₁ : Rho} (f : FreeOk σ scope ρ ρ₁) : ∀ {y : Str} {P : VP}, ρ₁.lookup y = some P → ρ.lookup y = some P ∧ scope.names.lookup y = some .free ∧ (σ.scope.names.lookup y = some .cell ∨ σ.scope.names.lookup y = some .free) ∧ ((compSig σ scope).scope.names.lookup y = some .cell ∨ (compSig σ scope).scope.names.lookup y = some .free) := by
  induction f with
  | nil => intro y P e; cases e
  | cons a b _ ih =>
    intro y P e
    rw [List.lookup_cons] at e
    split at e
    · rename_i q
      cases e
      have q' := beq_iff_eq.mp q
      subst q'
      simp only [Bool.and_eq_true, Bool.or_eq_true, beq_iff_eq] at b
      exact ⟨a, b.1.1, b.1.2, b.2⟩
    · exact ih e
theorem Reads.cellAt {cl : List (Str × Addr)} {m : Str → Option Value} {y : Str} {P : VP} (hr : Reads d J σ cl m I y P) (hk : σ.scope.names.lookup y = some .cell ∨ σ.scope.names.lookup y = some .free) : ∃ c, cl.lookup y = some c ∧ CellHas d J I c P := by
  unfold Reads at hr
  rcases hk with hk | hk <;> rw [hk] at hr <;> exact hr
theorem Reads.ofCell {cl : List (Str × Addr)} {m : Str → Option Value} {y : Str} {P : VP} {c : Addr} (hc : cl.lookup y = some c) (h : CellHas d J I c P) (hk : σ.scope.names.lookup y = some .cell ∨ σ.scope.names.lookup y = some .free) : Reads d J σ cl m I y P := by
  unfold Reads
  rcases hk with hk | hk <;> rw [hk] <;> exact ⟨c, hc, h⟩
theorem lookup_map_free {g : Str → Addr} {names : List (Str × NameKind)} {y : Str} (h : (y, NameKind.free) ∈ names) : (((names.filter (·.2 == .free)).map fun y => (y.1, g y.1)).reverse).lookup y = some (g y) := by
  have : (y, g y) ∈ ((names.filter (·.2 == .free)).map fun y => (y.1, g y.1)).reverse := List.mem_reverse.mpr (List.mem_map.mpr ⟨(y, .free), List.mem_filter.mpr ⟨h, rfl⟩, rfl⟩)
  have all : ∀ p ∈ ((names.filter (·.2 == .free)).map fun y => (y.1, g y.1)).reverse, p.2 = g p.1 := fun p hp => by
    obtain ⟨z, _, rfl⟩ := List.mem_map.mp (List.mem_reverse.mp hp); rfl
  generalize ((names.filter (·.2 == .free)).map fun y => (y.1, g y.1)).reverse = L at this all
  induction L with
  | nil => cases this
  | cons p r ih =>
    obtain ⟨a, b⟩ := p
    rw [List.lookup_cons]
    cases q : y == a with
    | true =>
      have := all _ (.head _)
      rw [beq_iff_eq.mp q]; exact congrArg some this
    | false =>
      rcases List.mem_cons.mp this with e | e
      · cases e; simp at q
      · exact ih e fun p hp => all p (.tail _ hp)
theorem any_lookup {y : Str} : ∀ {ρ : Rho}, ρ.any (·.1 == y) = true → ∃ P, ρ.lookup y = some P
  | [], h => by cases h
  | (a, b) :: r, h => by
    rw [List.lookup_cons]
    cases q : y == a with
    | true => exact ⟨b, rfl⟩
    | false =>
      have q' : (a == y) = false := by
        by_cases z : a = y
        · subst z; rw [beq_self_eq_true] at q; cases q
        · exact beq_eq_false_iff_ne.mpr z
      rw [List.any_cons, q', Bool.false_or] at h
      exact any_lookup h
theorem take_filterMap {outs : List (Option VP)} {i : Nat} {o : Option VP} (h : outs[i]? = some o) : (outs.take (i + 1)).filterMap id = (outs.take i).filterMap id ++ o.toList := by
  rw [List.take_add_one, h, List.filterMap_append]
  cases o <;> rfl
/-- there is one -/
noncomputable def exV {α : Type} (P : α → VP) : VP := ⟨fun I v => ∃ a, (P a).p I v, fun k ⟨a, h⟩ => ⟨a, (P a).mono k h⟩⟩
theorem comp_loop {A : Around} {pl : Pl} {I₀ I₁ : IM} {m : Str → Option Value} {s : Shared} {h₁ h₂ : Heap} {elt iter : Expr} {px : Pos} {ifs : List Expr} {scope : Scope} {items : List VP} {outs : List (Option VP)} {ρ₁ : Rho} {It D C : Addr} {cl : List (Str × Addr)}
    {fp : List Addr} {Pw : Nat → Value → Prop} {Sw : Nat → Heap → Prop} {R : Result → Shared → Prop}
    (F₁ : FrameOk S d σ k J ρ A l pl h₀ I₀ I₁ m h₁) (hlen : outs.length = items.length) (hsz : items.length ≤ sizeLine) (nI : h₁.get? It = none) (nD : h₁.get? D = none) (nC : h₁.get? C = none) (hDI : D ≠ It) (hDC : D ≠ C) (hIC : It ≠ C)
    (W : Walks pw S.w A It fp [It] items.length Pw Sw) (hfp : ∀ b ∈ fp, b = It ∨ ∃ o, I₁ b = some o) (hIo : ∀ i h, Sw i h → ∃ o, h.get? It = some o) (hPw : ∀ i v Pi, Pw i v → items[i]? = some Pi → Pi.p I₁ v)
    (hcell : ∀ y P, ρ₁.lookup y = some P → ∃ c, cl.lookup y = some c ∧ CellHas d J I₁ c P ∧ ((compSig σ scope).scope.names.lookup y = some .cell ∨ (compSig σ scope).scope.names.lookup y = some .free))
    (hrel : relabel scope pl.env = (compSig σ scope).scope) (hkind : scope.kind = .function) (hx' : (compSig σ scope).scope.names.lookup x = some .local)
    (ht : ∀ (i : Nat) Pi, items[i]? = some Pi → ∀ d' J', More d J d' J' → TestsOk S d' (compSig σ scope) k J' ifs ((x, Pi) :: ρ₁) (Option.isSome (Option.join (outs[i]?))))
    (he : ∀ (i : Nat) Pi Po, items[i]? = some Pi → outs[i]? = some (some Po) → ∀ d' J', More d J d' J' → EvOk S d' (compSig σ scope) k J' elt ((x, Pi) :: ρ₁) (.val Po))
    (ok₂ : Ok S d I₁ J (pl.fe :: l) h₂) (st₂ : Step d (pl.fe :: l) h₁ h₂) (hS0 : Sw 0 h₂) (hD : h₂.get? D = some (lst [])) {m₀ : Str → Option Value} (hC : h₂.Ns C m₀) {tk₀ : Nat}
    (hR : ∀ h' I' tk ys m', Le I₁ I' → Ok S d I' J (pl.fe :: l) h' → Step d (pl.fe :: l) h₁ h' → h'.get? D = some (lst ys) → h'.Ns C m' → I' D = none → I' C = none → Args I' (outs.filterMap id) ys → R (.ok .next) { s with heap := h', toks := tk }) :
    codeAny (model pw S.w) A (.compLoop (.ListComp elt [⟨.Name x px, iter, ifs, 0⟩] scope pos) 0 (.ref It) (.ref D) (compEnvC scope cl C pl.env)) R { s with heap := h₂, toks := tk₀ } := by
  let X : Addr → Prop := fun b => b = It ∨ b = D ∨ b = C
  have newX : ∀ b, X b → h₁.get? b = none := fun b hb => by rcases hb with rfl | rfl | rfl <;> assumption
  have offX : ∀ b, X b → ¬ d b ∧ ¬ IsTab b ∧ ∀ env ∈ (pl.fe :: l), env.frame ≠ some b := fun b hb => (F₁.ok.off (newX b hb)).2
  have I₁X : ∀ b, X b → I₁ b = none := fun b hb => (F₁.ok.off (newX b hb)).1
  refine codeAny_compLoop_tests
    (fun n s' => ∃ h' tk i I' ys m', s' = { s with heap := h', toks := tk } ∧ i ≤ items.length ∧ n = items.length + 1 - i ∧ Le I₁ I' ∧ Ok S d I' J (pl.fe :: l) h' ∧ Step d (pl.fe :: l) h₁ h' ∧ Sw i h' ∧ h'.get? D = some (lst ys) ∧ h'.Ns C m' ∧
      (∀ b, X b → I' b = none) ∧ Args I' ((outs.take i).filterMap id) ys) ?_ (items.length + 1)
    ⟨h₂, tk₀, 0, I₁, [], m₀, rfl, Nat.zero_le _, rfl, Le.refl _, ok₂, st₂, hS0, hD, hC, I₁X, .nil⟩
  rintro n s' ⟨h', tk, i, I', ys, m', rfl, hi, rfl, hl', ok', st', hS', hD', hC', hX', hys⟩
  have off' : ∀ b, X b → I' b = none ∧ ¬ d b ∧ ¬ IsTab b ∧ ∀ env ∈ (pl.fe :: l), env.frame ≠ some b := fun b hb => ⟨hX' b hb, offX b hb⟩
  by_cases hlt : i < items.length
  · obtain ⟨Pi, hPi⟩ : ∃ Pi, items[i]? = some Pi := ⟨_, List.getElem?_eq_getElem hlt⟩
    refine W.item i _ _ _ hlt hS' fun v h₂ tk₂ hPv hS₂ hk₂ => ?_
    have hk₂' : ∀ b o, b ≠ It → h'.get? b = some o → h₂.get? b = some o := fun b o hb e => hk₂ b o (by simpa using hb) e
    refine wpAny_assign_Name (wpAny_storeName_local (by show (relabel scope pl.env).names.lookup x = _; rw [hrel]; exact hx') (hC'.at' fun o e => hk₂' C o (Ne.symm hIC) e) (fun h₃ hn₃ hs₃ => ?_) (by simp [compEnvC, relabel, hkind]))
    have hk₃ : ∀ b o, ¬ X b → h'.get? b = some o → h₃.get? b = some o := fun b o hb e => hs₃.extBut b o (fun q => hb (.inr (.inr q))) (hk₂' b o (fun q => hb (.inl q)) e)
    have ok₃ : Ok S d I' J (pl.fe :: l) h₃ := ok'.turn off' hk₃
    obtain ⟨oI, heI⟩ := hIo _ _ hS₂
    have heI₃ : h₃.get? It = some oI := hs₃.extBut _ _ hIC heI
    obtain ⟨oC, heC', hoC⟩ := ns_obj hn₃
    have heC : h₃.get? C = some oC := heC'
    have heD₃ : h₃.get? D = some (lst ys) := hs₃.extBut _ _ hDC (hk₂' D _ hDI hD')
    let d' : Mut := fun b => d b ∨ X b
    let J' : JM := fun b => open Classical in if X b then ⟨fun _ o => h₃.get? b = some o, fun _ h => h⟩ else J b
    have M : More d J d' J' := ⟨fun b hb => .inl hb, fun b hb => by
      have : ¬ X b := fun q => (offX b q).1 hb
      exact if_neg this⟩
    have J'e : ∀ b, X b → J' b = ⟨fun _ o => h₃.get? b = some o, fun _ h => h⟩ := fun b hb => if_pos hb
    have J'X : ∀ b o (I₂ : IM), X b → (J' b).p I₂ o → h₃.get? b = some o := fun b o I₂ hb hj => by
      rw [J'e b hb] at hj; exact hj
    have ex₃ : ∀ b, X b → ∃ o, h₃.get? b = some o := fun b hb => by
      rcases hb with rfl | rfl | rfl
      · exact ⟨_, heI₃⟩
      · exact ⟨_, heD₃⟩
      · exact ⟨_, heC⟩
    have ok₃' : Ok S d' I' J' (pl.fe :: l) h₃ := ok₃.more off' M fun b hb => by
      rcases hb with hb | hb
      · exact .inl hb
      · obtain ⟨o, ho⟩ := ex₃ b hb
        refine .inr ⟨hb, o, ho, ?_⟩
        rw [J'e b hb]; exact ho
    have st₃ : Step d (pl.fe :: l) h₁ h₃ := st'.thru (d' := d') (fun b hb => hb.imp_right (newX b)) fun b o e => by
      by_cases q : X b
      · exact .inr (.inr (.inl (.inr q)))
      · exact .inl (hk₃ b o q e)
    have F₃ : FrameOk S d' (compSig σ scope) k J' ((x, Pi) :: ρ₁) A l ⟨compEnvC scope cl C pl.env, pl.fe, pl.L⟩ h₀ I₀ I' (fun y => if y = x then some v else m' y) h₃ := by
      refine ⟨F₁.cx, hrel, F₁.eg, F₁.eb, F₁.eq, F₁.ec, F₁.ff, hkind, ok₃', ?_, F₁.new, F₁.above, F₁.apart, hn₃, .inr fun hh I₂ hdk => ?_, F₁.nsf.imp fun _ hn => st₃.ns' F₁.frAt.2.1 F₁.frAt.2.2 hn, F₁.le.trans hl', fun y P e => ?_, fun _ _ e => by cases e⟩
      · exact (F₁.since.out F₁.ff F₁.new st₃).more M.md
      · obtain ⟨o, ho, hj⟩ := hdk C (.inr (.inr (.inr rfl)))
        have := J'X C o _ (.inr (.inr rfl)) hj
        rw [heC] at this; cases this
        exact hoC.ns ho
      · rw [List.lookup_cons] at e
        cases q : y == x with
        | true =>
          rw [q] at e
          cases e
          have q' := beq_iff_eq.mp q
          subst q'
          unfold Reads
          rw [hx']
          exact ⟨v, if_pos rfl, Pi.mono hl' (hPw i v Pi hPv hPi)⟩
        | false =>
          rw [q] at e
          obtain ⟨c, h1, h2, h4⟩ := hcell y P e
          exact Reads.ofCell h1 (M.cell hl' h2) h4
    have back : ∀ {h₄ : Heap} {I₄ : IM}, Le I' I₄ → Ok S d' I₄ J' (pl.fe :: l) h₄ → Step d' (pl.fe :: l) h₃ h₄ → Ok S d I₄ J (pl.fe :: l) h₄ ∧ Step d (pl.fe :: l) h₁ h₄ ∧ h₄.get? It = some oI ∧ h₄.get? D = some (lst ys) ∧ h₄.get? C = some oC ∧ (∀ b, X b → I₄ b = none) := by
      intro h₄ I₄ hl₄ ok₄ st₄
      refine ⟨ok₄.less M, st₃.thru (fun b hb => hb.imp_right (newX b)) st₄, ?_, ?_, ?_, fun b hb => ok₄.dI b (.inr hb)⟩
      · obtain ⟨o, ho, hj⟩ := ok₄.dk It (.inr (.inl rfl))
        have := J'X _ o _ (.inl rfl) hj
        rw [heI₃] at this; cases this; exact ho
      · obtain ⟨o, ho, hj⟩ := ok₄.dk D (.inr (.inr (.inl rfl)))
        have := J'X _ o _ (.inr (.inl rfl)) hj
        rw [heD₃] at this; cases this; exact ho
      · obtain ⟨o, ho, hj⟩ := ok₄.dk C (.inr (.inr (.inr rfl)))
        have := J'X _ o _ (.inr (.inr rfl)) hj
        rw [heC] at this; cases this; exact ho
    have walk : ∀ {h₄ : Heap} {I₄ : IM}, Le I' I₄ → (∀ b o, I₄ b = some o → h₄.get? b = some o) → h₄.get? It = some oI → Sw (i + 1) h₄ := fun hl₄ im₄ hI₄ => W.frame _ _ _ hS₂ fun b hb o e => by
      rcases hfp b hb with rfl | ⟨o', ho'⟩
      · rw [heI] at e; cases e; exact hI₄
      · have e' : h₂.get? b = some o' := hk₂' b o' (fun q => by rw [q, I₁X _ (.inl rfl)] at ho'; cases ho') (ok'.imm _ _ (hl' _ _ ho'))
        rw [e'] at e; cases e
        exact im₄ _ _ (hl₄ _ _ (hl' _ _ ho'))
    obtain ⟨oo, hoo⟩ : ∃ oo, outs[i]? = some oo := ⟨_, List.getElem?_eq_getElem (by lia)⟩
    refine (ht i Pi hPi d' J' M).run (s := { s with heap := h₃, toks := tk₂ + 1 }) F₃ fun h₄ I₄ tk₄ hl₄ ok₄ st₄ => ?_
    obtain ⟨b1, b2, b3, b4, b5, b6⟩ := back hl₄ ok₄ st₄
    rw [hoo]
    cases oo with
    | none =>
      show ∃ _, _
      refine ⟨items.length + 1 - (i + 1), by lia, h₄, tk₄, i + 1, I₄, ys, _, rfl, hlt, rfl, hl'.trans hl₄, b1, b2, walk hl₄ ok₄.imm b3, b4, hoC.ns b5, b6, ?_⟩
      rw [take_filterMap hoo]
      simpa using hys.mono hl₄
    | some Po =>
      refine (he i Pi Po hPi hoo d' J' M).run (s := { s with heap := h₄, toks := tk₄ }) (F₃.step hl₄ ok₄ st₄) fun y h₅ I₅ tk₅ hl₅ ok₅ st₅ hy => ?_
      obtain ⟨c1, c2, c3, c4, c5, c6⟩ := back (hl₄.trans hl₅) ok₅ (st₄.trans st₅)
      have hyl : ys.length ≤ i := by
        have := hys.len
        have e2 : ((outs.take i).filterMap id).length ≤ (outs.take i).length := List.length_filterMap_le _ _
        have e3 : (outs.take i).length ≤ i := by rw [List.length_take]; lia
        lia
      refine append_at (s := { s with heap := h₅, toks := tk₅ }) (hsz := by show ys.toArray.size ≤ sizeLine; rw [List.size_toArray]; lia) c4 fun h₆ hs₆ hD₆ => ?_
      have k₆ : ∀ b o, ¬ (b = D) → h₅.get? b = some o → h₆.get? b = some o := fun b o hb e => hs₆.extBut b o hb e
      have ok₆ : Ok S d I₅ J (pl.fe :: l) h₆ := c1.turn (X := fun b => b = D) (fun b hb => ⟨c6 b (.inr (.inl hb)), offX b (.inr (.inl hb))⟩) k₆
      refine ⟨items.length + 1 - (i + 1), by lia, h₆, tk₅, i + 1, I₅, ys ++ [y], _, rfl, hlt, rfl, (hl'.trans hl₄).trans hl₅, ok₆, ?_, walk (hl₄.trans hl₅) ok₆.imm (k₆ _ _ (Ne.symm hDI) c3), hD₆.trans (congrArg some (lst_snoc ys y)), (hoC.ns c5).sameBut hs₆ (Ne.symm hDC), c6, ?_⟩
      · exact c2.thru (d' := fun b => d b ∨ b = D) (fun b hb => hb.imp_right fun q => newX b (.inr (.inl q))) fun b o e => by
          by_cases q : b = D
          · exact .inr (.inr (.inl (.inr q)))
          · exact .inl (k₆ b o q e)
      · rw [take_filterMap hoo]
        exact (hys.mono (hl₄.trans hl₅)).append (.cons hy .nil)
  · obtain rfl : i = items.length := Nat.le_antisymm hi (Nat.not_lt.mp hlt)
    refine W.done _ _ _ hS' fun h₂ tk₂ hk₂ => ?_
    have hk₂' : ∀ b o, b ≠ It → h'.get? b = some o → h₂.get? b = some o := fun b o hb e => hk₂ b o (by simpa using hb) e
    have ok₂ : Ok S d I' J (pl.fe :: l) h₂ := ok'.turn (X := fun b => b = It) (fun b hb => off' b (.inl hb)) hk₂'
    refine hR h₂ I' tk₂ ys m' hl' ok₂ ?_ (hk₂' _ _ hDI hD') (hC'.at' fun o e => hk₂' _ _ (Ne.symm hIC) e) (hX' _ (.inr (.inl rfl))) (hX' _ (.inr (.inr rfl))) ?_
    · exact st'.thru (d' := fun b => d b ∨ b = It) (fun b hb => hb.imp_right fun q => newX b (.inl q)) fun b o e => by
        by_cases q : b = It
        · exact .inr (.inr (.inl (.inr q)))
        · exact .inl (hk₂' b o q e)
    · rw [← hlen, List.take_length] at hys
      exact hys
theorem EvOk.compE {α : Type} {elt iter : Expr} {px : Pos} {ifs : List Expr} {scope : Scope} {itemsA : α → List VP} {outsA : α → List (Option VP)} {R : VP} {ρ₁ : Rho}
    (hi : EvOk S d σ k J iter ρ (.val (exV fun a => isIter (itemsA a)))) (hlenA : ∀ a, (outsA a).length = (itemsA a).length) (hszA : ∀ a, (itemsA a).length ≤ sizeLine) (hconv : ∀ a I v, (isListOf ((outsA a).filterMap id)).p I v → R.p I v)
    (hf : FreeOk σ scope ρ ρ₁) (hall : (scope.names.all fun y => y.2 != .free || ρ₁.any (·.1 == y.1)) = true)
    (hsc : (scope.names.all fun y => y.2 != .cell && (y.2 != .local || scope.names.lookup y.1 == some .local)) = true) (hkind : scope.kind = .function) (hx : scope.names.lookup x = some .local) (hx' : (compSig σ scope).scope.names.lookup x = some .local)
    (hs : ∀ env x, foldedSetIterable iter env x = pure x)
    (htA : ∀ a (i : Nat) Pi, (itemsA a)[i]? = some Pi → ∀ d' J', More d J d' J' → TestsOk S d' (compSig σ scope) k J' ifs ((x, Pi) :: ρ₁) (Option.isSome (Option.join ((outsA a)[i]?))))
    (heA : ∀ a (i : Nat) Pi Po, (itemsA a)[i]? = some Pi → (outsA a)[i]? = some (some Po) → ∀ d' J', More d J d' J' → EvOk S d' (compSig σ scope) k J' elt ((x, Pi) :: ρ₁) (.val Po)) :
    EvOk S d σ k J (.ListComp elt [⟨.Name x px, iter, ifs, 0⟩] scope pos) ρ (.val R) := .mk fun {A l pl h₀ I₀ I m s Q E} F hp => by
  have fc : ∀ y ∈ scope.names, y.2 = .free → ∃ P c, ρ₁.lookup y.1 = some P ∧ pl.env.cells.lookup y.1 = some c ∧ CellHas d J I c P := by
    intro y hy hk
    have h1 := List.all_eq_true.mp hall y hy
    rw [hk] at h1
    have h2 : ρ₁.any (·.1 == y.1) = true := by simpa using h1
    have h3 := any_lookup h2
    obtain ⟨P, hP⟩ := h3
    obtain ⟨g1, _, g3, _⟩ := hf.get hP
    obtain ⟨c, hc, hci⟩ := (F.rho _ _ g1).cellAt g3
    exact ⟨P, c, hP, hc, hci⟩
  let g : Str → Addr := fun n => (pl.env.cells.lookup n).getD 0
  have hg : ∀ y ∈ scope.names, y.2 = .free → pl.env.cells.lookup y.1 = some (g y.1) := fun y hy hk => by
    obtain ⟨P, c, _, hc, _⟩ := fc y hy hk
    show _ = some ((pl.env.cells.lookup y.1).getD 0)
    rw [hc]; rfl
  have hclos := closure_is hg
  generalize hcl : ((scope.names.filter (·.2 == .free)).map fun y => (y.1, g y.1)).reverse = cl at hclos
  have hrel : relabel scope pl.env = (compSig σ scope).scope := by
    unfold relabel compSig Env.kindOf
    simp only [F.esc]
  rw [eval_ListComp]
  refine wpAny_comprehension_free (use := none) rfl (hs _) hclos hkind (fun y hy hl => ?_) (hi.run F fun xv h₁ I₁ tk₁ hl₁ ok₁ st₁ hxv => ?_)
  · have := List.all_eq_true.mp hsc y hy
    rw [hl] at this
    simpa using this
  obtain ⟨a, hxv⟩ := hxv
  replace hxv : IterV I₁ xv (itemsA a) := @hxv
  have hlen := hlenA a
  have hsz := hszA a
  have ht := htA a
  have he := heA a
  have hconv := hconv a
  generalize itemsA a = items at *
  generalize outsA a = outs at *
  refine hxv (s := { s with heap := h₁, toks := tk₁ }) F.cx.handled ok₁.imm fun oI fp Pw Sw W hfp hIo hPw hS0 => ?_
  have F₁ := F.step hl₁ ok₁ st₁
  dsimp only at W hfp hIo hPw hS0 ⊢
  refine wpAny_newObj_type (wpAny_newFunctionEnv (fun y hy => ?_) (by intro y hy; simp at hy) (fun h₂ hns₂ hsb₂ => ?_) hkind)
  · have := List.all_eq_true.mp hsc y hy
    simp only [Bool.and_eq_true, bne_iff_ne] at this
    exact this.1
  dsimp only at hns₂ hsb₂ ⊢
  generalize hH2 : (h₁.push oI).push { cls := .type "list", data := .seq #[] } = H2 at hns₂ hsb₂ ⊢
  have sD : (h₁.push oI).objs.size = h₁.objs.size + 1 := Heap.size_push ..
  have sC : H2.objs.size = h₁.objs.size + 2 := by rw [← hH2, Heap.size_push, sD]
  have fresh : ∀ a, h₁.objs.size ≤ a → h₁.get? a = none := fun a ha => by
    cases e : h₁.get? a with
    | none => rfl
    | some o' => exact absurd (Heap.lt_size e) (Nat.not_lt.mpr ha)
  have hDC : (h₁.push oI).objs.size ≠ H2.objs.size := by rw [sD, sC]; exact Nat.ne_of_lt (Nat.lt_succ_self _)
  have hDI : (h₁.push oI).objs.size ≠ h₁.objs.size := by rw [sD]; exact Nat.succ_ne_self _
  have hIC : h₁.objs.size ≠ H2.objs.size := by rw [sC]; exact Nat.ne_of_lt (Nat.lt_succ_of_lt (Nat.lt_succ_self _))
  have old₁ : ∀ b o, (h₁.push oI).get? b = some o → h₂.get? b = some o := fun b o e => by
    have hb : b < h₁.objs.size + 1 := sD ▸ Heap.lt_size e
    exact hsb₂.extBut b o (by rw [sC]; exact Nat.ne_of_lt (Nat.lt_succ_of_lt hb)) (Heap.get?_push_of_some _ (hH2 ▸ Heap.get?_push_of_some _ e))
  have old : ∀ b o, h₁.get? b = some o → h₂.get? b = some o := fun b o e => old₁ b o (Heap.get?_push_of_some _ e)
  have hacc : h₂.get? (h₁.push oI).objs.size = some (lst []) := hsb₂.extBut _ _ hDC (Heap.get?_push_of_some _ (hH2 ▸ Heap.get?_push_size _ rfl))
  have W' := W A F.cx.handled
  have hS : Sw 0 h₂ := W'.frame _ _ _ hS0 fun b _ o e => old₁ b o e
  have loop : codeAny (model pw S.w) A (.compLoop (.ListComp elt [⟨.Name x px, iter, ifs, 0⟩] scope pos) 0 (.ref h₁.objs.size) (.ref (h₁.push oI).objs.size) (compEnvC scope cl H2.objs.size pl.env))
      (compPost (model pw S.w) A E none Q (.ref (h₁.push oI).objs.size) H2.objs.size) { s with heap := h₂, toks := tk₁ + ([] : List (Str × Value)).length } := by
    refine comp_loop F₁ hlen hsz (fresh _ (Nat.le_refl _)) (fresh _ (by rw [sD]; exact Nat.le_succ _)) (fresh _ (by rw [sC]; exact Nat.le_add_right _ _)) hDI hDC hIC W' hfp (fun i h st => (hIo i h st).imp fun _ q => q.1) hPw (fun y P e => ?_) hrel hkind hx' ht he (ok₁.grow old) (.of_keeps old) hS hacc hns₂
      fun h' I' tk ys m' hl' ok' st' hD' hC' iD iC hys => ?_
    · obtain ⟨g1, g2, g3, g4⟩ := hf.get e
      obtain ⟨c, hc, hci⟩ := (F₁.rho _ _ g1).cellAt g3
      refine ⟨c, ?_, hci, g4⟩
      have := lookup_map_free (g := g) (mem_of_lookup g2)
      rw [hcl] at this
      rw [this]
      show some ((pl.env.cells.lookup y).getD 0) = _
      rw [hc]; rfl
    · refine ⟨m', hC', fun h'' hs'' => ?_⟩
      have nC := fresh H2.objs.size (by rw [sC]; exact Nat.le_add_right _ _)
      have nD := fresh (h₁.push oI).objs.size (by rw [sD]; exact Nat.le_succ _)
      have oC := (ok₁.off nC).2
      have oD := (ok₁.off nD).2
      have k'' : ∀ b o, ¬ (b = H2.objs.size) → h'.get? b = some o → h''.get? b = some o := fun b o hb e => hs''.extBut b o hb e
      have ok'' : Ok S d I' J (pl.fe :: l) h'' := ok'.turn (X := fun b => b = H2.objs.size) (fun b hb => by subst hb; exact ⟨iC, oC⟩) k''
      have st'' : Step d (pl.fe :: l) h₁ h'' := st'.thru (d' := fun b => d b ∨ b = H2.objs.size) (fun b hb => hb.imp_right fun (q : b = H2.objs.size) => by rw [q]; exact nC) fun b o e => by
        by_cases q : b = H2.objs.size
        · exact .inr (.inr (.inl (.inr q)))
        · exact .inl (k'' b o q e)
      have hD'' := k'' _ _ hDC hD'
      refine hp _ h'' (I'.put (h₁.push oI).objs.size (lst ys)) tk ((hl₁.trans hl').trans (Le.put iD)) (ok''.put iD hD'' oD.1 oD.2.1 oD.2.2) (st₁.trans st'') (hconv _ _ ⟨_, ys.toArray, ys.length, rfl, IM.put_self _ _ _, ?_⟩)
      simpa using hys.mono (Le.put iD)
  exact codeAny_compStart_list loop (W'.self 0 _ _ _ hS loop)
theorem EvOk.comp {elt iter : Expr} {px : Pos} {ifs : List Expr} {scope : Scope} {items : List VP} {outs : List (Option VP)} {ρ₁ : Rho}
    (hi : EvOk S d σ k J iter ρ (.val (isIter items))) (hlen : outs.length = items.length) (hsz : items.length ≤ sizeLine)
    (hf : FreeOk σ scope ρ ρ₁) (hall : (scope.names.all fun y => y.2 != .free || ρ₁.any (·.1 == y.1)) = true)
    (hsc : (scope.names.all fun y => y.2 != .cell && (y.2 != .local || scope.names.lookup y.1 == some .local)) = true) (hkind : scope.kind = .function) (hx : scope.names.lookup x = some .local) (hx' : (compSig σ scope).scope.names.lookup x = some .local)
    (hs : ∀ env x, foldedSetIterable iter env x = pure x)
    (ht : ∀ (i : Nat) Pi, items[i]? = some Pi → ∀ d' J', More d J d' J' → TestsOk S d' (compSig σ scope) k J' ifs ((x, Pi) :: ρ₁) (Option.isSome (Option.join (outs[i]?))))
    (he : ∀ (i : Nat) Pi Po, items[i]? = some Pi → outs[i]? = some (some Po) → ∀ d' J', More d J d' J' → EvOk S d' (compSig σ scope) k J' elt ((x, Pi) :: ρ₁) (.val Po)) :
    EvOk S d σ k J (.ListComp elt [⟨.Name x px, iter, ifs, 0⟩] scope pos) ρ (.val (isListOf (outs.filterMap id))) :=
  EvOk.compE (α := Unit) (itemsA := fun _ => items) (outsA := fun _ => outs) (EvOk.conv (fun _ _ h => ⟨(), @h⟩) hi) (fun _ => hlen) (fun _ => hsz) (fun _ _ _ h => h) hf hall hsc hkind hx hx' hs (fun _ => ht) (fun _ => he)
end
end Mine
end
section
open PySem PySem.W PyProof.Rows PySem.Calls PyProof PySem.Spec PyProof.Rows.LCg
namespace Mine
section
variable {S : St} {d d' : Mut} {σ : Sig} {k : Nat} {J J' J'' : JM} {ρ ρ' : Rho} {P P' : VP} {r : Out} {e e₁ e₂ e₃ : Expr} {pos np : Pos} {x : Str} {l : List Env} {I I' : IM} {h₀ h h' : Heap} {s : Shared} {Q E : Value → Shared → Prop}
/-- one object more -/
theorem Post.made {o : Obj} {tk : Nat} (hp : Post S d l I J s (.val P) Q E) (ok : Ok S d I J l s.heap) (hf : o.isFreed = false) (hv : P.p (I.put s.heap.objs.size o) (.ref s.heap.objs.size)) : Q (.ref s.heap.objs.size) { s with heap := s.heap.push o, toks := tk } := by
  obtain ⟨a, b⟩ := ok.new (h' := s.heap.push o) (fun _ _ e => Heap.get?_push_of_some _ e) (get_size _) (Heap.get?_push_size _ hf)
  exact hp _ _ _ tk b a (.of_keeps fun _ _ e => Heap.get?_push_of_some _ e) hv
theorem range_items {a b : Int} {r : Addr} {t u v : Tok} (hI : I r = some { cls := .type "range", dict := none, data := .fields #[.int a t, .int b u, .int 1 v], slots := #[] }) (ha : -(2 ^ 62) ≤ a ∧ a < 2 ^ 62) (hb : -(2 ^ 62) ≤ b ∧ b < 2 ^ 62) :
    IterV I (.ref r) ((List.range (b - a).toNat).map fun (i : Nat) => isInt (a + i)) := by
  intro w A s Q E hh im hq
  have hn : Builtin.Range.rangeSize a b 1 = (((b - a).toNat : Nat) : Int) := by rw [rangeSize_one]; split <;> lia
  refine wpAny_pyIter_range (im _ _ hI) (small_one ha.1 ha.2 hb.1 hb.2) (hq _ [s.heap.objs.size] (fun i v => ∃ t, v = .int (a + (i : Int)) t) (fun i h => IsRangeIter h s.heap.objs.size (a + (i : Nat) * 1) ((((b - a).toNat : Nat) : Int) - (i : Nat)) 1) (fun A' hA => ?_) (fun b hb => .inl (by simpa using hb)) (fun i h st => ⟨_, st, rfl⟩) (fun i v Pi hP hi => ?_) ?_)
  · rw [List.length_map, List.length_range]; exact range_walks hA a _
  · obtain ⟨t, rfl⟩ := hP
    rw [List.getElem?_map] at hi
    obtain ⟨j, hj, rfl⟩ := Option.map_eq_some_iff.mp hi
    obtain ⟨h1, h2⟩ := List.getElem?_eq_some_iff.mp hj
    rw [List.getElem_range] at h2
    subst h2
    exact ⟨t, rfl⟩
  · show IsRangeIter _ _ _ _ _
    rw [hn]; simpa using Heap.get?_push_size _ rfl
theorem EvOk.range2 {a b : Int} (hk : σ.scope.names.lookup (u "range") = some .globalImplicit) (ha : ArgsOk S d σ k J [e₁, e₂] ρ [isInt a, isInt b]) (hs : PlainArgs [e₁, e₂]) (h1 : -(2 ^ 62) ≤ a ∧ a < 2 ^ 62) (h2 : -(2 ^ 62) ≤ b ∧ b < 2 ^ 62) :
    EvOk S d σ k J (.Call (.Name (u "range") np) [e₁, e₂] [] pos) ρ (.val (isIter ((List.range (b - a).toNat).map fun (i : Nat) => isInt (a + i)))) :=
  EvOk.callTy (EvOk.blt (v := .type "range") hk (fun _ => by kernel_rfl!) (by kernel_rfl!) (by decide +kernel) (by kernel_rfl!)) hs ha fun F hv hp => by
    obtain ⟨v, v', rfl, ⟨t, rfl⟩, ⟨t', rfl⟩⟩ := hv.two
    exact call_range_2 (hp.made F.ok rfl (range_items (IM.put_self _ _ _) h1 h2))
theorem EvOk.range1 {b : Int} (hk : σ.scope.names.lookup (u "range") = some .globalImplicit) (ha : ArgsOk S d σ k J [e] ρ [isInt b]) (hs : PlainArgs [e]) (h2 : -(2 ^ 62) ≤ b ∧ b < 2 ^ 62) :
    EvOk S d σ k J (.Call (.Name (u "range") np) [e] [] pos) ρ (.val (isIter ((List.range (b - 0).toNat).map fun (i : Nat) => isInt (0 + i)))) :=
  EvOk.callTy (EvOk.blt (v := .type "range") hk (fun _ => by kernel_rfl!) (by kernel_rfl!) (by decide +kernel) (by kernel_rfl!)) hs ha fun F hv hp => by
    obtain ⟨v, rfl, ⟨t, rfl⟩⟩ := hv.one
    exact call_range_1 (hp.made F.ok rfl (range_items (IM.put_self _ _ _) (by lia) h2))
theorem Args.at2 {Ps : List VP} {vs : List Value} (h : Mine.Args I Ps vs) : ∀ {i : Nat} {Pi : VP} {v : Value}, Ps[i]? = some Pi → vs[i]? = some v → Pi.p I v := by
  induction h with
  | nil => intro i Pi v a _; simp at a
  | cons hd _ ih =>
    intro i Pi v a b
    cases i with
    | zero => simp at a b; subst a; subst b; exact hd
    | succ i => exact ih (by simpa using a) (by simpa using b)
theorem list_items {a : Addr} {its : Array Value} {n : Nat} {Ps : List VP} (hI : I a = some (listOf its n)) (ha : Args I Ps its.toList) : IterV I (.ref a) Ps := by
  intro w A s Q E hh im hq
  have hl : s.heap.IsList a its := ⟨_, im _ _ hI, rfl, n, rfl⟩
  have hlt : a ≠ s.heap.objs.size := Nat.ne_of_lt (Heap.lt_size (im _ _ hI))
  have hlen : its.size = Ps.length := by rw [← Array.length_toList, ha.len]
  refine wpAny_pyIter_list hl (hq _ [s.heap.objs.size, a] (fun i v => its[i]? = some v) (fun i h => h.IsListIter s.heap.objs.size a i ∧ h.IsList a its) (fun A' hA => ?_) (fun b hb => ?_) (fun i h st => let ⟨o, e, hc, hd⟩ := st.1; ⟨o, e, by unfold plainIt; rw [hd, hc]; rfl⟩) (fun i v Pi hP hi => ?_) ⟨⟨_, Heap.get?_push_size _ rfl, rfl, rfl⟩, hl.push _⟩)
  · rw [← hlen]; exact Walks.list hA _ a hlt its
  · rcases List.mem_cons.mp hb with rfl | hb
    · exact .inl rfl
    · rw [List.mem_singleton.mp hb]; exact .inr ⟨_, hI⟩
  · have hP' : its.toList[i]? = some v := by simpa using hP
    exact ha.at2 hi hP'
theorem ints_args {vs : List Value} {xs : List Int} (h : IntsAre vs xs) : Args I (xs.map isInt) vs := by
  induction h with
  | nil => exact .nil
  | cons _ _ _ ih => exact .cons ⟨_, rfl⟩ ih
theorem args_ints {vs : List Value} {xs : List Int} (h : Args I (xs.map isInt) vs) : IntsAre vs xs := by
  induction xs generalizing vs with
  | nil => cases h; exact .nil
  | cons x xs ih =>
    cases h with
    | cons a r =>
      obtain ⟨t, rfl⟩ := a
      exact .cons _ _ (ih r)
theorem isList_iter {xs : List Int} {v : Value} (h : (isList xs).p I v) : (isIter (xs.map isInt)).p I v := by
  obtain ⟨a, its, n, rfl, hI, hv⟩ := h
  exact list_items hI (ints_args hv)
theorem listOf_list {xs : List Int} {v : Value} (h : (isListOf (xs.map isInt)).p I v) : (isList xs).p I v := by
  obtain ⟨a, its, n, rfl, hI, hv⟩ := h
  exact ⟨a, its, n, rfl, hI, args_ints hv⟩
theorem filterMap_ints (ys : List (Option Int)) : (ys.map (Option.map isInt)).filterMap id = (ys.filterMap id).map isInt := by
  induction ys with
  | nil => rfl
  | cons y r ih => cases y <;> simp [ih]
/-- a comprehension of ints -/
theorem EvOk.compInts {elt iter : Expr} {px : Pos} {ifs : List Expr} {scope : Scope} {items : List VP} {ys : List (Option Int)} {ρ₁ : Rho}
    (hi : EvOk S d σ k J iter ρ (.val (isIter items))) (hlen : ys.length = items.length) (hsz : items.length ≤ sizeLine)
    (hf : FreeOk σ scope ρ ρ₁) (hall : (scope.names.all fun y => y.2 != .free || ρ₁.any (·.1 == y.1)) = true)
    (hsc : (scope.names.all fun y => y.2 != .cell && (y.2 != .local || scope.names.lookup y.1 == some .local)) = true) (hkind : scope.kind = .function) (hx : scope.names.lookup x = some .local) (hx' : (compSig σ scope).scope.names.lookup x = some .local)
    (hs : ∀ env x, foldedSetIterable iter env x = pure x)
    (ht : ∀ (i : Nat) Pi y, items[i]? = some Pi → ys[i]? = some y → ∀ d' J', More d J d' J' → TestsOk S d' (compSig σ scope) k J' ifs ((x, Pi) :: ρ₁) (Option.isSome y))
    (he : ∀ (i : Nat) Pi y, items[i]? = some Pi → ys[i]? = some (some y) → ∀ d' J', More d J d' J' → EvOk S d' (compSig σ scope) k J' elt ((x, Pi) :: ρ₁) (.val (isInt y))) :
    EvOk S d σ k J (.ListComp elt [⟨.Name x px, iter, ifs, 0⟩] scope pos) ρ (.val (isList (ys.filterMap id))) := by
  refine EvOk.conv (fun I v h => listOf_list ?_) (EvOk.comp (outs := ys.map (Option.map isInt)) hi (by rw [List.length_map, hlen]) hsz hf hall hsc hkind hx hx' hs (fun i Pi hP d' J' M => ?_) fun i Pi Po hP hO d' J' M => ?_)
  · rw [filterMap_ints] at h; exact h
  · have hl : i < ys.length := by rw [hlen]; exact (List.getElem?_eq_some_iff.mp hP).1
    have := ht i Pi ys[i] hP (List.getElem?_eq_getElem hl) d' J' M
    rw [List.getElem?_map, List.getElem?_eq_getElem hl]
    cases q : ys[i] with
    | none => rw [q] at this; exact this
    | some y => rw [q] at this; exact this
  · rw [List.getElem?_map] at hO
    obtain ⟨y, h1, h2⟩ := Option.map_eq_some_iff.mp hO
    cases y with
    | none => cases h2
    | some y => cases h2; exact he i Pi y hP h1 d' J' M
end
end Mine
end
section
open PySem PySem.W PyProof.Rows PySem.Calls PyProof PySem.Spec PyProof.Rows.LCg
namespace Mine
section
variable {S : St} {d d' : Mut} {σ : Sig} {k : Nat} {J J' J'' : JM} {ρ ρ' : Rho} {P P' P₁ P₂ P₃ : VP} {r : Out} {r' : BOut} {e e₁ e₂ e₃ : Expr} {pos np tp : Pos} {x x₁ x₂ x₃ : Str} {p₁ p₂ p₃ : Pos} {l : List Env} {I I₀ I' : IM} {h₀ h h' : Heap} {s : Shared} {Q E : Value → Shared → Prop} {rest body : List Stmt} {A : Around} {pl : Pl} {m : Str → Option Value}
theorem Ok.extB (ok : Ok S d I J l h) {a : Addr} (ha : h.get? a = none) (hk : Heap.ExtBut a h h') : Ok S d I J l h' ∧ Step d l h h' := by
  have k : ∀ b o, h.get? b = some o → h'.get? b = some o := fun b o e => hk b o (fun q => by rw [q, ha] at e; cases e) e
  exact ⟨ok.grow k, .of_keeps k⟩
theorem FrameOk.put1 (F : FrameOk S d σ k J ρ A l pl h₀ I₀ I m s.heap) (fn : pl.IsFn) (hk : σ.scope.names.lookup x = some .local) {v : Value} (hv : P.p I v) {Q : Unit → Shared → Prop}
    (hQ : ∀ h' m' tk, FrameOk S d σ k J ((x, P) :: ρ) A l pl h₀ I₀ I m' h' → Q () { s with heap := h', toks := tk }) : wpAny (model pw S.w) A (assign (.Name x pos) pl.env v) Q E s :=
  wpAny_assign_Name (wpAny_storeName_local (F.kof hk) F.ns (fun h₂ hn hs => hQ _ _ _ (F.store fn hk hn hs hv)) (by rw [F.knd]; rfl))
theorem tup_at {Ps : List VP} {v : Value} (ok : Ok S d I J l h) (hv : (isTup Ps).p I v) : ∃ a vs, v = .ref a ∧ IsTup h a (List.toArray vs) ∧ Mine.Args I Ps vs := by
  obtain ⟨a, vs, n, rfl, hI, hvs⟩ := hv
  exact ⟨a, vs, rfl, ⟨_, ok.imm _ _ hI, rfl, n, rfl⟩, hvs⟩
theorem Args.three {I : IM} {P P' P'' : VP} {vs : List Value} (h : Mine.Args I [P, P', P''] vs) : ∃ v v' v'', vs = [v, v', v''] ∧ P.p I v ∧ P'.p I v' ∧ P''.p I v'' := by
  cases h with | cons a r => cases r with | cons b r => cases r with | cons c r => cases r; exact ⟨_, _, _, rfl, a, b, c⟩
/-- a, b = e -/
theorem Blk.unpack2 {n : Nat} (h : EvOk S d σ k J e ρ (.val (isTup [P₁, P₂]))) (h1 : σ.scope.names.lookup x₁ = some .local) (h2 : σ.scope.names.lookup x₂ = some .local)
    (hs : ∀ env, swapsWithSole [.Tuple [.Name x₁ p₁, .Name x₂ p₂] n tp] e pos.line env = pure false) (hw : ∀ env, swappedStores [.Tuple [.Name x₁ p₁, .Name x₂ p₂] n tp] e env = pure none)
    (b : Blk S d σ k J rest ((x₂, P₂) :: (x₁, P₁) :: ρ) r' J') : Blk S d σ k J (.Assign [.Tuple [.Name x₁ p₁, .Name x₂ p₂] n tp] e pos :: rest) ρ r' J' := .mk fun {A l pl h₀ I₀ I m s Q E} hf F hp => by
  refine wpAny_execs_cons (PyProof.Rows.Assign_Tuple (h.run F fun v h' I' tk hl ok st hv => ?_) (hs _) (hw _))
  have F' := F.step hl ok st
  obtain ⟨a, vs, rfl, ht, hvs⟩ := tup_at ok hv
  obtain ⟨v, v', rfl, hv1, hv2⟩ := hvs.two
  refine assign_Tuple_tuple (s := { s with heap := h', toks := tk }) F.cx.handled ht rfl rfl fun h₂ hk₂ => ?_
  obtain ⟨ok₂, st₂⟩ := ok.extB (get_size h') hk₂
  refine assignInOrder_cons ((F'.step (Le.refl _) ok₂ st₂).put1 (s := { s with heap := h₂, toks := tk }) hf h1 hv1 fun h₃ m₃ tk₃ F₃ => ?_)
  refine assignInOrder_cons (F₃.put1 (s := { s with heap := h₃, toks := tk₃ }) hf h2 hv2 fun h₄ m₄ tk₄ F₄ => ?_)
  exact assignInOrder_nil (b.run (s := { s with heap := h₄, toks := tk₄ }) hf F₄ hp)
theorem Blk.unpack3 {n : Nat} (h : EvOk S d σ k J e ρ (.val (isTup [P₁, P₂, P₃]))) (h1 : σ.scope.names.lookup x₁ = some .local) (h2 : σ.scope.names.lookup x₂ = some .local) (h3 : σ.scope.names.lookup x₃ = some .local)
    (hs : ∀ env, swapsWithSole [.Tuple [.Name x₁ p₁, .Name x₂ p₂, .Name x₃ p₃] n tp] e pos.line env = pure false) (hw : ∀ env, swappedStores [.Tuple [.Name x₁ p₁, .Name x₂ p₂, .Name x₃ p₃] n tp] e env = pure none)
    (b : Blk S d σ k J rest ((x₃, P₃) :: (x₂, P₂) :: (x₁, P₁) :: ρ) r' J') : Blk S d σ k J (.Assign [.Tuple [.Name x₁ p₁, .Name x₂ p₂, .Name x₃ p₃] n tp] e pos :: rest) ρ r' J' := .mk fun {A l pl h₀ I₀ I m s Q E} hf F hp => by
  refine wpAny_execs_cons (PyProof.Rows.Assign_Tuple (h.run F fun v h' I' tk hl ok st hv => ?_) (hs _) (hw _))
  have F' := F.step hl ok st
  obtain ⟨a, vs, rfl, ht, hvs⟩ := tup_at ok hv
  obtain ⟨v, v', v'', rfl, hv1, hv2, hv3⟩ := Mine.Args.three hvs
  refine assign_Tuple_tuple (s := { s with heap := h', toks := tk }) F.cx.handled ht rfl rfl fun h₂ hk₂ => ?_
  obtain ⟨ok₂, st₂⟩ := ok.extB (get_size h') hk₂
  refine assignInOrder_cons ((F'.step (Le.refl _) ok₂ st₂).put1 (s := { s with heap := h₂, toks := tk }) hf h1 hv1 fun h₃ m₃ tk₃ F₃ => ?_)
  refine assignInOrder_cons (F₃.put1 (s := { s with heap := h₃, toks := tk₃ }) hf h2 hv2 fun h₄ m₄ tk₄ F₄ => ?_)
  refine assignInOrder_cons (F₄.put1 (s := { s with heap := h₄, toks := tk₄ }) hf h3 hv3 fun h₅ m₅ tk₅ F₅ => ?_)
  exact assignInOrder_nil (b.run (s := { s with heap := h₅, toks := tk₅ }) hf F₅ hp)
theorem Blk.unpackX {ts : List Expr} {n : Nat} (h : EvOk S d σ k J e ρ .exc) (hs : ∀ env, swapsWithSole [.Tuple ts n tp] e pos.line env = pure false) (hw : ∀ env, swappedStores [.Tuple ts n tp] e env = pure none) :
    Blk S d σ k J (.Assign [.Tuple ts n tp] e pos :: rest) ρ .exc J := .mk fun hf F hp =>
  wpAny_execs_cons (PyProof.Rows.Assign_Tuple (h.run F fun e h' I' tk hl fl => hp e h' I' tk (F.le.trans hl) (fl.any.back F.since)) (hs _) (hw _))
/-- the first of a tuple raises -/
theorem EvOk.tupleX {es : List Expr} {n : Nat} (h : EvOk S d σ k J e ρ .exc) (he : ∀ env, starEach (e :: es) env = (false, eval e env) :: starEach es env) : EvOk S d σ k J (.Tuple (e :: es) n pos) ρ .exc := .mk fun F hp =>
  Tuple_ (args_cons (h.run F hp) (he _))
theorem CallV.le {k k' : Nat} (hk : k ≤ k') {f : Value} {I₁ : IM} {Ps : List VP} (c : CallV S d k J f I₁ Ps r J') : CallV S d k' J f I₁ Ps r J' := fun hl cx ok ha hp => c hl (cx.le hk) ok ha hp
end
end Mine
end
section
open PySem PySem.W PyProof.Rows PySem.Calls PyProof PySem.Spec PyProof.Rows.LCg
namespace Mine
section
variable {S : St} {d d' : Mut} {σ : Sig} {k : Nat} {J J' J'' : JM} {ρ ρ' : Rho} {P P' P₁ P₂ P₃ : VP} {r : Out} {r' : BOut} {e e₁ e₂ e₃ : Expr} {pos np tp : Pos} {x x₁ x₂ x₃ : Str} {p₁ p₂ p₃ : Pos} {l : List Env} {I I₀ I' : IM} {h₀ h h' : Heap} {s : Shared} {Q E : Value → Shared → Prop} {rest body : List Stmt} {A : Around} {pl : Pl} {m : Str → Option Value}
/-- a call of a def without cells, up to its body -/
theorem code_def {f : Addr} {fd : FuncData} {xs : List Str} {Ps DPs : List VP} {vs dvs : List Value} {R : Result → Shared → Prop} (D : DefIs f fd σ body) (hcell : σ.scope.names.all (fun y => y.2 != .cell) = true)
    (cx : ACx A l (k + 1)) (ok : Ok S d I J l s.heap) (ha : Mine.Args I Ps vs) (hb : BindsTo s fd ⟨vs, []⟩ (xs.zip (vs ++ dvs)))
    (hx : (xs.all fun y => σ.scope.names.lookup y == some .local) = true) (hn : xs.Nodup) (hd : Mine.Args I DPs dvs)
    (h : ∀ (pl : Pl) h₁ m tk, pl.IsFn → FrameOk S d σ k J (xs.zip (Ps ++ DPs)) (A.deeper pl.env) l pl s.heap I I m h₁ → (∀ b o, s.heap.get? b = some o → h₁.get? b = some o) →
      wpAny (model pw S.w) (A.deeper pl.env) (execs body pl.env) (fun f s' => R (.ok (.ret (match f with | .ret v => v | _ => .none))) s')
        (fun e s' => wpAny (model pw S.w) (A.deeper pl.env) (leaving pl.env e) (fun _ s'' => R (.error e) s'') (fun e' s'' => R (.error e') s'') s') { s with heap := h₁, toks := tk }) :
    codeAny (model pw S.w) A (.call (.ref f) ⟨vs, []⟩) R s := by
  obtain ⟨of_, hI, hda⟩ := D.d.I ok
  have keep : ∀ b o, S.G.get? b = some o → s.heap.get? b = some o := fun b o e => ok.imm _ _ (ok.base _ _ e)
  have hcd : s.heap.CodeRec fd.code fd.qualname := by rw [D.cd, D.qual]; exact codeRec_of (S.kin.keeps keep) (D.code _)
  refine codeAny_call_def (fd := fd) (body := body) (binds := xs.zip (vs ++ dvs)) (by have := cx.depth; unfold recursionLimit; lia) (ok.imm _ _ hI) hda (S.top.nolimit.keeps keep) hcd D.body hb ?_ ?_ ?_ (by rw [D.scope]; exact D.co) (by rw [D.scope]; exact D.gen) (by rw [D.scope]; exact D.kind)
  · intro y hy
    rw [D.scope] at hy
    have := List.all_eq_true.mp hcell y hy
    simpa using this
  · intro y hy
    rw [D.scope]
    have := List.all_eq_true.mp hx y.1 (List.of_mem_zip hy).1
    simpa using this
  · intro h₁ hns hk₁
    rw [callEnv_is D]
    obtain ⟨o1, o2, o3, o4⟩ := ok.off (get_size s.heap)
    have hfrs : (A.deeper (σ.env s.heap.objs.size f [])).frames = some (σ.env s.heap.objs.size f [] :: l) := by
      show A.frames.map _ = _
      rw [cx.frames]; rfl
    have ok₁ : Ok S d I J (σ.env s.heap.objs.size f [] :: l) h₁ := by
      have g := ok.grow hk₁
      refine ⟨g.imm, g.base, g.tabs, fun env he => ?_, g.dI, g.dT, g.dk⟩
      rcases List.mem_cons.mp he with rfl | he
      · obtain ⟨o, es, ep, ho, hda, _⟩ := hns
        exact ⟨by show σ.scope.kind ≠ _; rw [D.kind]; decide, s.heap.objs.size, o, es, ep, rfl, o1, o2, o3, ho, hda⟩
      · exact g.fr env he
    refine h (σ.pl s.heap.objs.size f []) h₁ _ _ ⟨rfl, rfl⟩ ⟨⟨hfrs, cx.handled, ?_, ?_⟩, rfl, rfl, rfl, rfl, rfl, rfl, D.kind, ok₁, .of_keeps hk₁, get_size _, ?_, fun ⟨e, he, hf⟩ => o4 e he hf, hns, .inl ⟨o2, o3⟩, ⟨_, hns⟩, Le.refl _, ?_, fun _ _ e => by rw [show (σ.own : List (Str × Addr)) = [] from D.own] at e; cases e⟩ hk₁
    · show A.depth + 1 + 4 * k ≤ 900
      have := cx.depth; lia
    · show A.units + 3 + 64 * k ≤ 9000
      have := cx.units; lia
    · obtain ⟨z, oz, ez, hz⟩ := S.last
      exact Nat.le_trans hz (Heap.lt_size (keep _ _ ez))
    · intro y P e
      obtain ⟨v, hm, hv⟩ := zip_mem xs (ha.append hd) e
      have hy := List.all_eq_true.mp hx y (List.of_mem_zip hm).1
      have hy' : σ.scope.names.lookup y = some .local := by simpa using hy
      unfold Reads
      rw [hy']
      refine ⟨v, ?_, hv⟩
      show (xs.zip (vs ++ dvs)).reverse.lookup y = some v
      exact lookup_of_mem_keys (by rw [List.map_reverse]; exact List.pairwise_reverse.mpr ((zip_keys _ _ hn).imp Ne.symm)) (List.mem_reverse.mpr hm)
/-- self.a = e, one after the other -/
inductive Sets (S : St) (σ : Sig) (k : Nat) (ρ : Rho) (C dx : Addr) (d : Mut) (J : JM) : List Stmt → List (Str × VP) → Prop
  | nil : Sets S σ k ρ C dx d J [] []
  | cons {a : Str} {e : Expr} {P : VP} {rest : List Stmt} {fs : List (Str × VP)} {sp ap pos : Pos} :
      (∀ d' J', More d J d' J' → EvOk S d' σ k J' e ρ (.val P)) → (∀ I v, P.p I v → handedIn v = true) → (∀ Pm, takerIn (Kf Pm) C a = some none) → (∀ env, swapsWith e (some (.Attribute (.Name (u "self") sp) a ap)) pos.line env = pure false) →
      Sets S σ k ρ C dx d J rest fs → Sets S σ k ρ C dx d J (.Assign [.Attribute (.Name (u "self") sp) a ap] e pos :: rest) ((a, P) :: fs)
theorem FrameOk.jump (F : FrameOk S d σ k J ρ A l pl h₀ I₀ I m h) (fn : pl.IsFn) (hl : Le I I') (ok : Ok S d I' J' (pl.fe :: l) h') (st : Step d (pl.fe :: l) h h') (hc : ∀ x c P, pl.env.cells.lookup x = some c → CellHas d J I c P → CellHas d J' I' c P) : FrameOk S d σ k J' ρ A l pl h₀ I₀ I' m h' :=
  have ow : ¬ d pl.env.locals ∧ ¬ IsTab pl.env.locals := by rw [fn.loc]; exact F.frAt.2
  ⟨F.cx, F.esc, F.eg, F.eb, F.eq, F.ec, F.ff, F.kind, ok, F.since.out F.ff F.new st, F.new, F.above, F.apart, st.ns' ow.1 ow.2 F.ns, .inl ow, F.nsf.imp fun _ hn => st.ns' F.frAt.2.1 F.frAt.2.2 hn, F.le.trans hl, F.rho.turn hl hc, F.oc⟩
theorem Ok.but2 {L : Addr} {X : Addr → Prop} (hff : pl.fe.frame = some L) (ok : Ok S d I J (pl.fe :: l) h) (hX : ∀ b, X b → I b = none ∧ ¬ d b ∧ ¬ IsTab b ∧ ∀ env ∈ (pl.fe :: l), env.frame ≠ some b) (k : ∀ b o, h.get? b = some o → b ≠ L → ¬ X b → h'.get? b = some o) (hn : h'.Ns L m) (ap : ¬ InFr l L) : Ok S d I J (pl.fe :: l) h' := by
  obtain ⟨hk, L', oL, es, ep, hL, b, c, f, g, r⟩ := ok.fr _ (.head _)
  obtain rfl : L = L' := Option.some.inj (hff.symm.trans hL)
  refine ⟨fun b' o e => k _ _ (ok.imm _ _ e) (fun q => by rw [q, b] at e; cases e) (fun q => by rw [(hX _ q).1] at e; cases e), ok.base, fun t hm => ⟨(ok.tabs t hm).off, ?_⟩, fun env he => ?_, ok.dI, ok.dT, fun b hb => ?_⟩
  · obtain ⟨ps, e, r⟩ := (ok.tabs t hm).is
    exact ⟨ps, k _ _ e (fun q => f ⟨t, hm, q⟩) fun q => (hX _ q).2.2.1 ⟨t, hm, rfl⟩, r⟩
  · rcases List.mem_cons.mp he with rfl | he
    · obtain ⟨o, es, ep, ho, hd, _⟩ := hn
      exact ⟨hk, L, o, es, ep, hff, b, c, f, ho, hd⟩
    · obtain ⟨hk, L₂, o, es, ep, hL₂, b, c, f, g, r⟩ := ok.fr env (.tail _ he)
      exact ⟨hk, L₂, o, es, ep, hL₂, b, c, f, k _ _ g (fun q => ap ⟨env, he, q ▸ hL₂⟩) fun q => (hX _ q).2.2.2 env (.tail _ he) hL₂, r⟩
  · obtain ⟨o, e, j⟩ := ok.dk b hb
    exact ⟨o, k _ _ e (fun q => c (q ▸ hb)) fun q => (hX _ q).2.1 hb, j⟩
/-- the addresses of d, and dx -/
noncomputable def plus (d : Mut) (dx : Addr) : Mut := fun b => d b ∨ b = dx
/-- another fact of dx -/
noncomputable def upd (J : JM) (dx : Addr) (O : OP) : JM := fun b => open Classical in if b = dx then O else J b
theorem upd_at {dx : Addr} {O : OP} : upd J dx O dx = O := if_pos rfl
theorem upd_off {dx b : Addr} {O : OP} (h : b ≠ dx) : upd J dx O b = J b := if_neg h
/-- this object -/
noncomputable def isObj (od : Obj) : OP := ⟨fun _ o => o = od, fun _ h => h⟩
/-- dx holds this object -/
noncomputable abbrev pin (J : JM) (dx : Addr) (od : Obj) : JM := upd J dx (isObj od)
theorem pin_at {dx : Addr} {od o : Obj} : (pin J dx od dx).p I o ↔ o = od := by show (upd J dx (isObj od) dx).p I o ↔ _; rw [upd_at]; exact Iff.rfl
theorem pin_off {dx b : Addr} {od : Obj} (h : b ≠ dx) : pin J dx od b = J b := upd_off h
theorem upd_more {dx : Addr} {O : OP} (h : ¬ d dx) : More d J (plus d dx) (upd J dx O) := ⟨fun _ hb => .inl hb, fun b hb => upd_off fun q => h (q ▸ hb)⟩
theorem pin_more {dx : Addr} {od : Obj} (h : ¬ d dx) : More d J (plus d dx) (pin J dx od) := upd_more h
theorem Ok.updated {dx : Addr} {O : OP} {od : Obj} (ok : Ok S d I J l h) (hi : I dx = none) (hd : ¬ d dx) (ht : ¬ IsTab dx) (hf : ∀ env ∈ l, env.frame ≠ some dx) (e : h.get? dx = some od) (ho : O.p I od) : Ok S (plus d dx) I (upd J dx O) l h :=
  ok.more (X := fun b => b = dx) (fun b hb => by subst hb; exact ⟨hi, hd, ht, hf⟩) (upd_more hd) fun b hb => hb.imp_right fun q => ⟨q, od, q ▸ e, by rw [q, upd_at]; exact ho⟩
theorem Ok.pinned {dx : Addr} {od : Obj} (ok : Ok S d I J l h) (hi : I dx = none) (hd : ¬ d dx) (ht : ¬ IsTab dx) (hf : ∀ env ∈ l, env.frame ≠ some dx) (e : h.get? dx = some od) : Ok S (plus d dx) I (pin J dx od) l h :=
  ok.updated hi hd ht hf e rfl
theorem Ok.get_pin {dx : Addr} {od : Obj} (ok : Ok S (plus d dx) I (pin J dx od) l h) : h.get? dx = some od := by
  obtain ⟨o, e, j⟩ := ok.dk dx (.inr rfl)
  rw [pin_at.mp j] at e; exact e
theorem CellHas.off {dx : Addr} {o : Obj} (hl : Le I I') (hJ : ∀ b, b ≠ dx → J' b = J b) (ho : (J dx).p I o) (nc : ∀ v, o.data ≠ .cell v) {c : Addr} {P : VP} (h : CellHas d J I c P) : CellHas d J' I' c P := by
  rcases h with ⟨o, v, a, b, q⟩ | ⟨a, b⟩
  · exact .inl ⟨o, v, hl _ _ a, b, P.mono hl q⟩
  · by_cases q : c = dx
    · subst q
      obtain ⟨v, z, _⟩ := b _ _ (Le.refl _) ho
      exact absurd z (nc _)
    · refine .inr ⟨a, fun I₂ o l => ?_⟩
      rw [hJ _ q]; exact b I₂ o (hl.trans l)
theorem pin_cell {dx : Addr} {od od' : Obj} (hl : Le I I') (nc : ∀ v, od.data ≠ .cell v) {c : Addr} {P : VP} (h : CellHas (plus d dx) (pin J dx od) I c P) : CellHas (plus d dx) (pin J dx od') I' c P :=
  h.off hl (fun b hb => by rw [pin_off hb, pin_off hb]) (pin_at.mpr rfl) nc
theorem pin_cells {dx : Addr} {es es' : List DictEntry} {n n' : Nat} (hl : Le I I') {c : Addr} {P : VP} (h : CellHas (plus d dx) (pin J dx (dictOf es n)) I c P) : CellHas (plus d dx) (pin J dx (dictOf es' n')) I' c P :=
  pin_cell hl (fun v q => by cases q) h
theorem fields_get {n : Str} : ∀ {fs : List (Str × VP)} {es : List DictEntry}, FieldsAre I fs es → (fs.map (·.1)).contains n = false → getL n es = some none ∧ ∀ hsh key v, putL n hsh key v es = es ++ [⟨hsh, key, v⟩] ∧ ∀ m, putN n es m = m + 1
  | _, _, .nil, _ => ⟨rfl, fun _ _ _ => ⟨rfl, fun _ => rfl⟩⟩
  | (a, P) :: fs, _, .cons (t := t) (v := v₀) (h := h₀) (es := es) hp hh r, e => by
    rw [List.map_cons, List.contains_cons, Bool.or_eq_false_iff] at e
    have e1 : (Value.str a t).isStr n = false := by
      show (a == n) = false
      cases q : a == n with
      | false => rfl
      | true => rw [beq_iff_eq.mp q] at e; simp at e
    obtain ⟨g, p⟩ := fields_get r e.2
    refine ⟨?_, fun hsh key v => ⟨?_, fun m => ?_⟩⟩
    · unfold getL at g ⊢
      have e2 : (⟨h₀, .str a t, v₀⟩ : DictEntry).refKey = false := rfl
      simp only [List.find?_cons, e1, List.any_cons, e2, Bool.false_or]; exact g
    · show (if (Value.str a t).isStr n = true then _ else _) = _
      rw [e1]
      simp only [Bool.false_eq_true, if_false]
      rw [(p hsh key v).1]; rfl
    · have := (p hsh key v).2 m
      unfold putN at this ⊢
      simp only [List.any_cons, e1, Bool.false_or]; exact this
theorem FieldsAre.snoc {n : Str} {hsh : Int} {t : Tok} {v : Value} (hv : P.p I v) (hh : handedIn v = true) : ∀ {fs : List (Str × VP)} {es : List DictEntry}, FieldsAre I fs es → FieldsAre I (fs ++ [(n, P)]) (es ++ [⟨hsh, .str n t, v⟩])
  | _, _, .nil => .cons hv hh .nil
  | _, _, .cons a b r => .cons a b (FieldsAre.snoc hv hh r)
theorem FieldsAre.length : ∀ {fs : List (Str × VP)} {es : List DictEntry}, FieldsAre I fs es → es.length = fs.length
  | _, _, .nil => rfl
  | _, _, .cons _ _ r => by simp [FieldsAre.length r]
theorem ns_same {L : Addr} {m m' : Str → Option Value} (a : h.Ns L m) (b : h.Ns L m') : m = m' := by
  obtain ⟨o1, es1, ep1, a1, b1, c1, d1⟩ := a
  obtain ⟨o2, es2, ep2, a2, b2, c2, d2⟩ := b
  rw [a1] at a2; cases a2
  rw [b1] at b2; cases b2
  funext y; rw [← d1, ← d2]
structure ClsSets (C : Addr) : Prop where
  set : ∀ P, findIn (Kf P) (.ref C) "__setattr__" = some (some (.builtin "object.__setattr__"))
  over : ∀ P, plainOver (Kf P) C = true
  dict : ∀ P, hasDictIn (Kf P) C = true
theorem rest_news {dx L : Addr} {G h : Heap} {od : Obj} (e : h.get? dx = some od) (hL : dx ≠ L) (hG : G.get? dx = none) : News G L h ((dx, od) :: (allNews G h L).filter fun p => !(p.1 == dx)) := fun p hp => by
  rcases List.mem_cons.mp hp with rfl | hp
  · exact ⟨e, hL, hG⟩
  · exact news_all G h L p (List.mem_filter.mp hp).1
theorem sets_run {C dx xa : Addr} (K : ClsSets C) (hd : ¬ d dx) (hself : ρ.lookup (u "self") = some (isV (.ref xa))) (hsl : σ.scope.names.lookup (u "self") = some .local) : ∀ {body : List Stmt} {fs : List (Str × VP)}, Sets S σ k ρ C dx d J body fs →
    ∀ (fs₀ : List (Str × VP)) (es : List DictEntry) (n : Nat) (I : IM) (m : Str → Option Value) (s : Shared) (Q : Flow → Shared → Prop) (E : Value → Shared → Prop), (∀ a ∈ fs.map (·.1), (fs₀.map (·.1)).contains a = false) → (fs.map (·.1)).Nodup → fs₀.length + fs.length ≤ 64 → pl.IsFn →
      FrameOk S (plus d dx) σ k (pin J dx (dictOf es n)) ρ A l pl h₀ I₀ I m s.heap → I xa = some (instObj C dx) → FieldsAre I fs₀ es →
      (∀ h' I' m' tk es' n', FrameOk S (plus d dx) σ k (pin J dx (dictOf es' n')) ρ A l pl h₀ I₀ I' m' h' → Le I I' → FieldsAre I' (fs₀ ++ fs) es' → Q .next { s with heap := h', toks := tk }) →
      wpAny (model pw S.w) A (execs body pl.env) Q E s
  | _, _, .nil => fun fs₀ es n I m s Q E _ _ _ _ F hx hfs hQ => wpAny_execs_nil (hQ s.heap I m s.toks es n F (Le.refl _) (by simpa using hfs))
  | _, _, .cons (a := a) (P := P) (fs := fs) he hh ht hsw ss => fun fs₀ es n I m s Q E hnew hnd hz hf F hx hfs hQ => by
    refine wpAny_execs_cons (plainObj_wpAny_Assign_Attribute ((he _ _ (pin_more hd)).run F fun v h₁ I₁ tk₁ hl₁ ok₁ st₁ hv => ?_) (hsw _))
    have F₁ := F.step hl₁ ok₁ st₁
    refine (EvOk.name (x := u "self") (by rw [hsl]) hself rfl).run (s := { s with heap := h₁, toks := tk₁ }) F₁ fun ov h₂ I₂ tk₂ hl₂ ok₂ st₂ hov => ?_
    cases hov
    have F₂ := F₁.step hl₂ ok₂ st₂
    have hx₂ := hl₂ _ _ (hl₁ _ _ hx)
    have ex := ok₂.imm _ _ hx₂
    have ed := ok₂.get_pin
    have dL : dx ≠ pl.L := fun q => F₂.frAt.2.1 (q ▸ .inr rfl)
    have dG : S.G.get? dx = none := by
      cases q : S.G.get? dx with
      | none => rfl
      | some o => have := ok₂.base _ _ q; rw [ok₂.dI dx (.inr rfl)] at this; cases this
    have a1 : (fs₀.map (·.1)).contains a = false := hnew a (by simp)
    obtain ⟨g1, g2⟩ := fields_get hfs a1
    obtain ⟨g3, g4⟩ := g2 (PyData.keyHash S.w.params a) (.str a (tk₂ + 1)) v
    refine set_dict (s := { s with heap := h₂, toks := tk₂ }) (C := C) (x := xa) (ox := instObj C dx) (dx := dx) F₂.fr S.kin (rest_news ed dL dG) ⟨ex, rfl, rfl, ed⟩ rfl (K.set _) (K.over _) (ht _) (K.dict _) (by rw [g1]; rfl)
      (es' := es ++ [⟨PyData.keyHash S.w.params a, .str a (tk₂ + 1), v⟩]) (n' := n + 1) (by rw [g3, g4]) (.head fun p hp => by simpa using (List.mem_filter.mp hp).2) (by rw [List.length_append, hfs.length]; simp only [List.length_cons, List.length_nil] at hz ⊢; lia) fun h₃ F₃ N₃ => ?_
    have kp : ∀ b o, h₂.get? b = some o → b ≠ pl.L → ¬ (b = dx) → h₃.get? b = some o := fun b o e hb hbd => by
      cases q : S.G.get? b with
      | some o' =>
        have := F₂.fr.keep _ _ q
        rw [e] at this; cases this
        exact F₃.keep _ _ q
      | none => exact (N₃ (b, o) (.tail _ (List.mem_filter.mpr ⟨all_mem e hb q, by simpa using hbd⟩))).1
    have ed₃ : h₃.get? dx = some (dictOf (es ++ [⟨PyData.keyHash S.w.params a, .str a (tk₂ + 1), v⟩]) (n + 1)) := (N₃ _ (.head _)).1
    have off : I₂ dx = none ∧ ¬ d dx ∧ ¬ IsTab dx ∧ ∀ env ∈ (pl.fe :: l), env.frame ≠ some dx := ⟨ok₂.dI _ (.inr rfl), hd, ok₂.dT _ (.inr rfl), fun env he q => by
      obtain ⟨_, L', _, _, _, hL', _, c, _⟩ := ok₂.fr env he
      rw [hL'] at q
      exact c (.inr (Option.some.inj q))⟩
    have ok₃ : Ok S (plus d dx) I₂ (pin J dx (dictOf (es ++ [⟨PyData.keyHash S.w.params a, .str a (tk₂ + 1), v⟩]) (n + 1))) (pl.fe :: l) h₃ :=
      Ok.pinned ((ok₂.less (pin_more hd)).but2 (X := fun b => b = dx) F₂.ff (fun b hb => by subst hb; exact off) kp F₃.ns F₂.apart) off.1 off.2.1 off.2.2.1 off.2.2.2 ed₃
    have st₃ : Step (plus d dx) (pl.fe :: l) h₂ h₃ := fun b o e => by
      by_cases q : b = dx
      · exact .inr (.inr (.inl (.inr q)))
      · by_cases q' : b = pl.L
        · subst q'
          exact .inr (.inr (.inr ⟨⟨_, .head _, F₂.ff⟩, fun m₂ hm₂ => by rw [ns_same hm₂ F₂.fr.ns]; exact F₃.ns⟩))
        · exact .inl (kp b o e q' q)
    have F₄ := F₂.jump (h' := h₃) (J' := pin J dx (dictOf (es ++ [⟨PyData.keyHash S.w.params a, .str a (tk₂ + 1), v⟩]) (n + 1))) hf (Le.refl _) ok₃ st₃ fun _ c P _ => pin_cells (Le.refl _)
    refine sets_run K hd hself hsl ss (fs₀ ++ [(a, P)]) _ _ _ _ { s with heap := h₃, toks := tk₂ + 2 } Q E (fun b hb => ?_) ?_ ?_ hf F₄ hx₂ (FieldsAre.snoc (P.mono hl₂ hv) (hh _ _ hv) (hfs.mono (hl₁.trans hl₂))) fun h' I' m' tk es' n' F' hl' hfs' => hQ h' I' m' tk es' n' F' ((hl₁.trans hl₂).trans hl') (by simpa using hfs')
    · simp only [List.map_cons, List.nodup_cons] at hnd
      have h1 := hnew b (by simp [hb])
      have h2 : b ≠ a := fun q => hnd.1 (q ▸ hb)
      rw [List.map_append]
      simp only [List.contains_eq_mem, List.mem_append, List.map_cons, List.map_nil, List.mem_singleton, decide_eq_false_iff_not] at h1 ⊢
      rintro (z | z)
      · exact h1 z
      · exact h2 z
    · simp only [List.map_cons, List.nodup_cons] at hnd
      exact hnd.2
    · simp only [List.length_append, List.length_cons, List.length_nil] at hz ⊢; lia
end
end Mine
end
section
open PySem PySem.W PyProof.Rows PySem.Calls PyProof PySem.Spec PyProof.Rows.LCg
namespace Mine
section
variable {S : St} {d d' : Mut} {σ σi : Sig} {k : Nat} {J J' J'' : JM} {ρ ρ' : Rho} {P P' P₁ P₂ P₃ : VP} {r : Out} {r' : BOut} {e e₁ e₂ e₃ : Expr} {pos np tp : Pos} {x x₁ x₂ x₃ : Str} {p₁ p₂ p₃ : Pos} {l : List Env} {I I₀ I' : IM} {h₀ h h' : Heap} {s : Shared} {Q E : Value → Shared → Prop} {rest body : List Stmt} {A : Around} {pl : Pl} {m : Str → Option Value}
theorem ACx.make {C : Addr} {vs : List Value} (cx : ACx A l (k + 2)) : ACx (A.under (.builtin "type.__call__" ⟨.ref C :: vs, []⟩)) l (k + 1) := by
  refine ⟨?_, cx.handled, ?_, ?_⟩
  · unfold Around.under
    dsimp only
    rw [cx.frames]; rfl
  · show A.depth + 1 + 4 * (k + 1) ≤ 900
    have := cx.depth; lia
  · show A.units + 1 + 64 * (k + 1) ≤ 9000
    have := cx.units; lia
/-- a class is called: its __init__ sets the fields -/
structure ClsMake (C fI : Addr) : Prop extends ClsSets C where
  make : ∀ P, makesIn (Kf P) C = true
  init : ∀ P, findIn (Kf P) (.ref C) "__init__" = some (some (.ref fI))
  fn : ∀ P, isFn (Kf P) (.ref fI) = true
  keep : ∀ P, keepIn (Kf P) (.ref C) = true
theorem call_make {C fI : Addr} {fd : FuncData} {xs : List Str} {Ps DPs : List VP} {vs dvs : List Value} {fs : List (Str × VP)} (K : ClsMake C fI) (D : DefIs fI fd σi body) (hcell : σi.scope.names.all (fun y => y.2 != .cell) = true)
    (F : FrameOk S d σ (k + 2) J ρ A l pl h₀ I₀ I m s.heap) (ha : Mine.Args I Ps vs) (hb : ∀ (s : Shared) x, (∀ b o, S.G.get? b = some o → s.heap.get? b = some o) → BindsTo s fd ⟨.ref x :: vs, []⟩ ((u "self" :: xs).zip ((.ref x :: vs) ++ dvs)))
    (hx : ((u "self" :: xs).all fun y => σi.scope.names.lookup y == some .local) = true) (hn : (u "self" :: xs).Nodup) (hd : ∀ I, Mine.Args I DPs dvs) (hz : fs.length ≤ 64) (hfn : (fs.map (·.1)).Nodup)
    (ss : ∀ xa dx, ¬ d dx → Sets S σi k ((u "self" :: xs).zip ((isV (.ref xa) :: Ps) ++ DPs)) C dx d J body fs) (hp : Post S d (pl.fe :: l) I J s (.val (isInst C fs)) Q E) :
    wpAny (model pw S.w) A (call (.ref C) vs []) Q E s := by
  have keep : ∀ b o, S.G.get? b = some o → s.heap.get? b = some o := F.keepG
  have X : (Kf S.w.params).In s.heap := S.kin.keeps keep
  obtain ⟨hh, g, dd, t, os⟩ := s
  dsimp only at F keep X hp
  refine wpAny_call (make_core (makes_of X (K.make _)) (looks_findIn X (K.init _)) (fun self => bind_fn X self (beq_iff_eq.mp (K.fn _))) (.inl rfl) ?_)
  generalize hxa : hh.objs.size + 1 = xa
  generalize hdx : hh.objs.size = dx at *
  have nd : hh.get? dx = none := by rw [← hdx]; exact get_size _
  have nx : (hh.push emptyDict).get? xa = none := by rw [← hxa, ← hdx, ← Heap.size_push hh emptyDict]; exact get_size _
  have kp : ∀ b o, hh.get? b = some o → ((hh.push emptyDict).push (instObj C dx)).get? b = some o := fun b o e => Heap.get?_push_of_some _ (Heap.get?_push_of_some _ e)
  have nx₀ : hh.get? xa = none := by
    cases q : hh.get? xa with
    | none => rfl
    | some o => rw [Heap.get?_push_of_some _ q] at nx; cases nx
  have ed : ((hh.push emptyDict).push (instObj C dx)).get? dx = some (dictOf [] 0) := Heap.get?_push_of_some _ (by rw [← hdx]; exact Heap.get?_push_size _ rfl)
  have ex : ((hh.push emptyDict).push (instObj C dx)).get? xa = some (instObj C dx) := by
    rw [← hxa, ← hdx, ← Heap.size_push hh emptyDict]; exact Heap.get?_push_size _ rfl
  obtain ⟨d1, d2, d3, d4⟩ := F.ok.off nd
  obtain ⟨x1, x2, x3, x4⟩ := F.ok.off nx₀
  have hne : xa ≠ dx := by rw [← hxa]; exact Nat.succ_ne_self _
  have ok₁ := (F.ok.grow kp).put x1 ex x2 x3 x4
  have ok₂ := Ok.pinned (dx := dx) (od := dictOf [] 0) ok₁ (by rw [IM.put_ne (Ne.symm hne)]; exact d1) d2 d3 d4 ed
  have le₁ : Le I (I.put xa (instObj C dx)) := Le.put x1
  refine code_def (s := ⟨(hh.push emptyDict).push (instObj C dx), g, dd, t, os⟩) (Ps := isV (.ref xa) :: Ps) D hcell F.cx.make ok₂ (.cons rfl (ha.mono le₁)) (hb _ _ fun b o e => kp _ _ (keep _ _ e)) hx hn (hd _) fun pl' h₂ m₂ tk₂ hf F₂ hk₂ => ?_
  refine sets_run K.toClsSets d2 lk_head (by have := List.all_eq_true.mp hx (u "self") (.head _); simpa using this) (ss xa dx d2) [] [] 0 _ _ ⟨h₂, g, dd, tk₂, os⟩ _ _ (fun _ _ => rfl) hfn (by simpa using hz) hf F₂ (IM.put_self _ _ _) .nil fun h₃ I₃ m₃ tk₃ es n F₃ hl₃ hfs => ?_
  refine ⟨rfl, ?_⟩
  dsimp only
  have ed₃ := F₃.ok.get_pin
  have off : I₃ dx = none := F₃.ok.dI _ (.inr rfl)
  have okl : Ok S d I₃ J (pl.fe :: l) h₃ := by
    have q := F₃.ok.less (pin_more d2)
    exact ⟨q.imm, q.base, q.tabs, fun env he => q.fr env (.tail _ he), q.dI, q.dT, q.dk⟩
  refine hp _ h₃ (I₃.put dx (dictOf es n)) tk₃ ((le₁.trans hl₃).trans (Le.put off)) (okl.put off ed₃ d2 d3 d4) ?_ ⟨xa, dx, es, n, rfl, ?_, IM.put_self _ _ _, (by simpa using hfs.mono (Le.put off))⟩
  · exact Step.thru (.of_keeps kp) (fun b hb => hb.imp_right fun (q : b = dx) => q ▸ nd) F₃.since
  · rw [IM.put_ne hne]; exact hl₃ _ _ (IM.put_self _ _ _)
theorem EvOk.make {C fI : Addr} {fd : FuncData} {xs : List Str} {es : List Expr} {Ps DPs : List VP} {dvs : List Value} {fs : List (Str × VP)} (K : ClsMake C fI) (D : DefIs fI fd σi body) (hcell : σi.scope.names.all (fun y => y.2 != .cell) = true)
    (hb : ∀ (s : Shared) x (vs : List Value), vs.length = Ps.length → (∀ b o, S.G.get? b = some o → s.heap.get? b = some o) → BindsTo s fd ⟨.ref x :: vs, []⟩ ((u "self" :: xs).zip ((.ref x :: vs) ++ dvs)))
    (hx : ((u "self" :: xs).all fun y => σi.scope.names.lookup y == some .local) = true) (hn : (u "self" :: xs).Nodup) (hd : ∀ I, Mine.Args I DPs dvs) (hz : fs.length ≤ 64) (hfn : (fs.map (·.1)).Nodup)
    (ss : ∀ d J xa dx, ¬ d dx → Sets S σi k ((u "self" :: xs).zip ((isV (.ref xa) :: Ps) ++ DPs)) C dx d J body fs)
    (hk : EvOk S d σ (k + 2) J (.Name x np) ρ (.val (isV (.ref C)))) (hs : PlainArgs es) (ha : ArgsOk S d σ (k + 2) J es ρ Ps) :
    EvOk S d σ (k + 2) J (.Call (.Name x np) es [] pos) ρ (.val (isInst C fs)) := .mk fun {A l pl h₀ I₀ I m s Q E} F hp => by
  refine Call_ (hk.run F fun v h' I' tk hl ok st hv => ?_)
  cases hv
  have F' := F.step hl ok st
  refine callWith_of (first := []) (P := fun h => (Kf S.w.params).In h) (s := { s with heap := h', toks := tk }) (by rw [plain_any hs]; rfl) (keeps_K (K.keep _)) (evalArgs_ok hs (ha.run F' fun vs h₂ I₂ tk₂ hl₂ ok₂ st₂ hv₂ => ⟨S.kin.keeps fun b o e => ok₂.imm _ _ (ok₂.base _ _ e), ?_⟩))
  exact call_make (s := { s with heap := h₂, toks := tk₂ }) K D hcell (F'.step hl₂ ok₂ st₂) hv₂ (fun s x => hb s x _ hv₂.len) hx hn hd hz hfn (ss d J) ((Post.after (r := .val _) hp hl ok st).after hl₂ ok₂ st₂)
end
end Mine
end
section
open PySem PySem.W PyProof.Rows PySem.Calls PyProof PySem.Spec PyProof.Rows.LCg
namespace Mine
/-- the program's own exception class -/
noncomputable abbrev excObj : Obj := excClassObj (u "LispSignal") (u "LispSignal") 38 37 [.type "Exception"] [.type "Exception", .type "BaseException", .type "object"] true [] [] false none none (some (.ref 22)) none (some (.str (u "LispSignal") 196)) (some (.str (u "LispSignal") 204)) (some (.bool true)) "Exception.__new__"
theorem exc_cls : ∀ P, (Kf P).lookup 38 = some excObj := fun _ => by kernel_rfl!
noncomputable abbrev excEs (P : Params) : Array DictEntry := #[en P "__module__" 203 (.str (u "emacs.errors") 194), en P "__firstlineno__" 207 (.int 5 206), en P "__init__" 216 (.ref 35), en P "__static_attributes__" 219 (.ref 36), en P "__weakref__" 221 (.ref 39), en P "__doc__" 222 .none]
theorem exc_dict : ∀ P, (Kf P).lookup 37 = some ⟨.type "dict", none, .dict (excEs P) 3, #[]⟩ := fun _ => by kernel_rfl!
theorem exc_ns {P : Params} {h : Heap} (X : (Kf P).In h) : h.Ns 37 (nsFind (excEs P)) := by
  refine ⟨_, _, _, X _ _ (exc_dict P), rfl, fun e he => ?_, fun _ => rfl⟩
  simp only [List.mem_toArray, List.mem_cons, List.not_mem_nil, or_false] at he
  rcases he with rfl | rfl | rfl | rfl | rfl | rfl <;> exact ⟨_, _, rfl⟩
theorem exc_init : ∀ P, nsFind (excEs P) "__init__" = some (.ref 35) := fun _ => by kernel_rfl!
theorem exc_find : ∀ P, findIn (Kf P) (.ref 38) "__init__" = some (some (.ref 35)) := fun _ => by kernel_rfl!
theorem exc_fn : ∀ P, typeIn (Kf P) (.ref 35) = some (.type "function") := fun _ => by kernel_rfl!
section
variable {prog : Program} {w : World} {A : Around} {E : Value → Shared → Prop} {h : Heap} {g : Array GenState} {d : Drawn} {t : Nat} {os : OsState}
noncomputable abbrev newExcObj (t : Addr) : Obj := { cls := .ref 38, data := .fields #[.ref t, .none, .none, .none, .bool false, .none] }
theorem exc_type_call {P : Params} {rest : List Value} {Q : Fin → Shared → Prop} (X : (Kf P).In h) (hrest : rest.length ≤ sizeLine)
    (hq : wpAny (model prog w) A (call (.ref 35) (.ref (h.objs.size + 1) :: rest)) (fun v s' => v = .none ∧ Q (.done (.ret (.ref (h.objs.size + 1)))) s') E ⟨(h.push { cls := .type "tuple", data := .seq rest.toArray }).push (newExcObj h.objs.size), g, d, t, os⟩) :
    wpAny (model prog w) A (Builtin.«type.__call__» ⟨.ref 38 :: rest, []⟩) Q E ⟨h, g, d, t, os⟩ := by
  have F := PySem.F.excBase_Exception
  have hC : h.get? 38 = some excObj := X _ _ (exc_cls P)
  repeat (first | with_reducible refine wpAny_loadPart_at hC ?_ | with_reducible refine wpAny_madeBy_exc hC ?_ | wp_step)
  refine codeAny_call_builtin_code (Code.quiet_builtin _ F.quiet) (wpAny_check_new_sub F hC ?_)
  refine codeAny_exc_new_sub F hC ?_ hrest
  show wpAny _ _ _ _ _ _
  have kp : ∀ b o, h.get? b = some o → ((h.push { cls := .type "tuple", data := .seq rest.toArray }).push (newExcObj h.objs.size)).get? b = some o := fun b o e => Heap.get?_push_of_some _ (Heap.get?_push_of_some _ e)
  have X₁ := X.keeps kp
  have hC₁ := kp _ _ hC
  have hget : ((h.push { cls := .type "tuple", data := .seq rest.toArray }).push (newExcObj h.objs.size)).get? (h.objs.size + 1) = some (newExcObj h.objs.size) := by heap_get
  have hcC : (Value.ref 38 :: [Value.type "Exception", .type "BaseException", .type "object"]).contains (.ref 38) = true := by simp
  unfold isInstance
  repeat (first | with_reducible refine wpAny_loadPart_at hget ?_ | (with_reducible refine wpAny_isSubtype_exc hC₁ ?_; rw [hcC]) | wp_step)
  show wpAny _ _ (typeLookup (.ref 38) _) _ _ _
  refine (looks_findIn X₁ (exc_find P)).at ?_
  dsimp only
  refine wpAny_holding (wpAny_bind ((bind_fn X₁ _ (exc_fn P)).at ?_))
  refine wpAny_bind (wpAny_mono hq (fun v s' hv => ?_) fun _ _ x => x)
  obtain ⟨rfl, hv⟩ := hv
  exact wpAny_pure (wpAny_pure hv)
theorem exc_call {P : Params} {rest : List Value} {Q : Value → Shared → Prop} (X : (Kf P).In h) (hrest : rest.length ≤ sizeLine)
    (hq : wpAny (model prog w) (A.under (.builtin "type.__call__" ⟨.ref 38 :: rest, []⟩)) (call (.ref 35) (.ref (h.objs.size + 1) :: rest)) (fun v s' => v = .none ∧ Q (.ref (h.objs.size + 1)) s') E ⟨(h.push { cls := .type "tuple", data := .seq rest.toArray }).push (newExcObj h.objs.size), g, d, t, os⟩) :
    wpAny (model prog w) A (call (.ref 38) rest) Q E ⟨h, g, d, t, os⟩ := by
  have hC : h.get? 38 = some excObj := X _ _ (exc_cls P)
  have f1 := tc_lookup
  have f2 := tc_bind (.ref 38)
  have hT : (⟨h, g, d, t, os⟩ : Shared).TypeIs (.ref 38) "type" := ⟨_, hC, rfl⟩
  refine wpAny_call (codeAny_of_tree ?_)
  show wpAny _ _ (callAny (.ref 38) _) _ _ _
  repeat (any_goals (first | assumption | with_reducible refine wpAny_loadPart_at hC ?_ | wp_step))
  refine ⟨rfl, ?_⟩
  refine codeAny_call_builtin_at (Code.quiet_builtin _ (by decide +kernel)) entry_typeCall (wpAny_check_type_call_sub hC (exc_type_call X hrest ?_))
  exact hq
end
theorem exc_mro : ∀ P, clsIn (Kf P) 38 = some { name := u "LispSignal", bases := [.type "Exception"], mro := [.ref 38, .type "Exception", .type "BaseException", .type "object"], ns := 37, qualname := u "LispSignal", hasDict := true, slotNames := [], subclasses := [], abstract := false, collection := none, hasDel := false } := fun _ => by kernel_rfl!
theorem exc_obj : ∀ P, mroIn (Kf P) 38 (.type "object") = some true := fun _ => by kernel_rfl!
theorem exc_base : ∀ P, mroIn (Kf P) 38 (.type "BaseException") = some true := fun _ => by kernel_rfl!
theorem exc_setattr : ∀ P, findIn (Kf P) (.ref 38) "__setattr__" = some (some (.builtin "object.__setattr__")) := fun _ => by kernel_rfl!
section
variable {prog : Program} {w : World} {A : Around} {E : Value → Shared → Prop} {s : Shared} {x dx t : Addr} {name : Str} {v : Value}
theorem store_in {Q : Fin → Shared → Prop} {tk : Tok} {mA : Str → Option Value} {ns : List Str} (hns : s.heap.Ns1 dx mA) (hw : Within mA ns) (hl : ns.length ≤ 10)
    (hq : ∀ h', h'.Ns1 dx (fun y => if y = name then some v else mA y) → Heap.SameBut dx s.heap h' → Q (.done (.ret .none)) { s with heap := h', toks := s.toks + 1 }) : wpAny (model prog w) A (Builtin.ObjectAttr.storeInDict dx (.str name tk) name v) Q E s := by
  unfold Builtin.ObjectAttr.storeInDict Builtin.ObjectAttr.newKeyGuard
  refine wpAny_bind (wpAny_pure (wpAny_bind (wpAny_nsSet1 hns fun h' hn' hs => ?_)))
  obtain ⟨oD, esD, epD, hoD, hdD, hcD⟩ := hn'.count (Within.cons name v hw)
  refine wpAny_bind (wpAny_lookBehind hoD (by rw [hdD]; exact pastItsLine_dict (Nat.le_trans hcD (by rw [List.length_cons, sizeLine_eq]; lia))) ?_)
  exact wpAny_pure (hq h' hn' hs)
theorem exc_osa {P : Params} {ox : Obj} {od : Option Obj} {tk : Tok} {R : Result → Shared → Prop} (X : (Kf P).In s.heap) (I : InstAt s.heap x ox 38 od) (hn : findIn (Kf P) (.ref 38) name = some none)
    (h : wpAny (model prog w) A.in1 (Builtin.ObjectAttr.storeInOwnDict (.ref x) (.ref 38) (.str name tk) name v false)
      (fun fin s' => match fin with | .done f => R (.ok f) s' | .again c' => c'.quiet = true ∧ codeAny (model prog w) A c' R s') (fun e s' => R (.error e) s') s) :
    codeAny (model prog w) A (.call (.builtin "object.__setattr__") ⟨[.ref x, .str name tk, v], []⟩) R s := by
  have SF := PySem.F.store_object
  have sub : Looks (model prog w) s.heap (isInstance (.ref x) (.type "object")) true := I.type.andThen (looks_mroIn X (exc_obj P))
  refine codeAny_call_builtin SF.slot.plain SF.entry (@check_slot (model prog w) _ _ s "object.__setattr__" "object" "__setattr__" (.ref x) [.str name tk, v] [] _ SF.kind SF.split sub (SF.args (.ref x) (.str name tk) v) ?_)
  have hm : Looks (model prog w) s.heap (mroOf (.ref 38)) [.ref 38, .type "Exception", .type "BaseException", .type "object"] := (looks_clsIn X (exc_mro P)).andThen .now
  rw [osa_eq, refuse_eq]
  refine wpAny_bind (wpAny_bind (I.type.here (wpAny_bind (hm.here ?_))))
  rw [refuseLoop_ref, PySem.F.store_Exception.passes]
  refine wpAny_pure (wpAny_bind (I.type.here (wpAny_bind ((looks_findIn X hn).here (wpAny_bind ?_)))))
  exact (Looks.now (a := none)).here h
/-- the first attribute: the object gets its dict -/
theorem exc_set0 {P : Params} {Q : Unit → Shared → Prop} (X : (Kf P).In s.heap) (hx : s.heap.get? x = some (newExcObj t)) (hn : findIn (Kf P) (.ref 38) name = some none)
    (hq : ∀ h', h'.get? x = some { newExcObj t with dict := some s.heap.objs.size } → h'.Ns1 s.heap.objs.size (fun y => if y = name then some v else none) → (∀ b o, b ≠ x → s.heap.get? b = some o → h'.get? b = some o) → Q () { s with heap := h', toks := s.toks + 2 }) :
    wpAny (model prog w) A (setAttr (.ref x) name v) Q E s := by
  have I : InstAt s.heap x (newExcObj t) 38 none := ⟨hx, rfl, rfl, trivial⟩
  refine set_plain X I (exc_setattr P) (exc_osa (s := { s with toks := s.toks + 1 }) X I hn ?_)
  have hxs : x ≠ s.heap.objs.size := Nat.ne_of_lt (Heap.lt_size hx)
  refine wpAny_bind (wpAny_pure (wpAny_bind (wpAny_bind (wpAny_loadPart hx (wpAny_bind ((looks_clsIn X (exc_mro P)).here (s := { s with toks := s.toks + 1 }) ?_))))))
  dsimp only
  rw [if_neg (by decide), if_neg (by decide)]
  refine wpAny_bind (wpAny_alloc ?_)
  have hx₁ : (s.heap.push { cls := .type "dict", data := .dict #[] }).get? x = some (newExcObj t) := Heap.get?_push_of_some _ hx
  refine wpAny_bind (wpAny_update hx₁ ?_)
  refine wpAny_pure ?_
  have hgd : ((s.heap.push { cls := .type "dict", data := .dict #[] }).update x fun o => { o with dict := some s.heap.objs.size }).get? s.heap.objs.size = some { cls := .type "dict", data := .dict #[] } :=
    (Heap.get?_update_ne _ _ _ _ hxs.symm).trans (Heap.get?_push_at rfl rfl)
  have hnd : ((s.heap.push { cls := .type "dict", data := .dict #[] }).update x fun o => { o with dict := some s.heap.objs.size }).Ns s.heap.objs.size (fun _ => none) :=
    ⟨_, #[], _, hgd, rfl, fun e he => absurd he (by simp), fun _ => rfl⟩
  refine store_in (Heap.Ns1.of_empty hnd) Within.nil (by decide) fun h' hn' hs => ?_
  refine hq h' ((hs.2 x hxs).trans (Heap.get?_update_self _ hx₁ rfl)) hn' fun b o hb e => ?_
  exact (hs.2 b (Nat.ne_of_lt (Heap.lt_size e))).trans ((Heap.get?_update_ne _ _ _ _ hb).trans (Heap.get?_push_of_some _ e))
/-- a later attribute -/
theorem exc_set1 {P : Params} {Q : Unit → Shared → Prop} {mA : Str → Option Value} {ns : List Str} (X : (Kf P).In s.heap) (hx : s.heap.get? x = some { newExcObj t with dict := some dx }) (hd : s.heap.Ns1 dx mA) (hw : Within mA ns) (hl : ns.length ≤ 10) (hn : findIn (Kf P) (.ref 38) name = some none)
    (hq : ∀ h', Heap.SameBut dx s.heap h' → h'.Ns1 dx (fun y => if y = name then some v else mA y) → Q () { s with heap := h', toks := s.toks + 2 }) :
    wpAny (model prog w) A (setAttr (.ref x) name v) Q E s := by
  obtain ⟨od, es, ep, hod, _⟩ := id hd
  have I : InstAt s.heap x { newExcObj t with dict := some dx } 38 (some od) := ⟨hx, rfl, rfl, hod⟩
  refine set_plain X I (exc_setattr P) (exc_osa (s := { s with toks := s.toks + 1 }) X I hn ?_)
  refine wpAny_bind (wpAny_pure (wpAny_bind (wpAny_bind (wpAny_loadPart hx (wpAny_bind ((looks_clsIn X (exc_mro P)).here (s := { s with toks := s.toks + 1 }) ?_))))))
  dsimp only
  rw [if_neg (by decide)]
  refine wpAny_pure ?_
  exact store_in hd hw hl fun h' hn' hs => hq h' hs hn'
end
end Mine
end
section
open PySem PySem.W PyProof.Rows PySem.Calls PyProof PySem.Spec PyProof.Rows.LCg
namespace Mine
section
variable {S : St} {d d' : Mut} {σ σi : Sig} {k : Nat} {J J' J'' : JM} {ρ ρ' : Rho} {P P' P₁ P₂ P₃ : VP} {r : Out} {r' : BOut} {e e₁ e₂ e₃ : Expr} {pos np tp cpos : Pos} {x x₁ x₂ x₃ : Str} {p₁ p₂ p₃ : Pos} {l : List Env} {I I₀ I' : IM} {h₀ h h' : Heap} {s : Shared} {Q E : Value → Shared → Prop} {rest body : List Stmt} {A : Around} {pl : Pl} {m : Str → Option Value}
theorem FrameOk.jumpTo (F : FrameOk S d σ k J ρ A l pl h₀ I₀ I m h) (fn : pl.IsFn) (hl : Le I I') (M : ∀ b, d b → d' b) (ok : Ok S d' I' J' (pl.fe :: l) h') (st : Step d' (pl.fe :: l) h h') (hc : ∀ x c P, pl.env.cells.lookup x = some c → CellHas d J I c P → CellHas d' J' I' c P) : FrameOk S d' σ k J' ρ A l pl h₀ I₀ I' m h' := by
  have fr : I' pl.L = none ∧ ¬ d' pl.L ∧ ¬ IsTab pl.L := by
    obtain ⟨_, L', o, es, ep, hf, r1, r2, r3, _⟩ := ok.fr _ (.head _)
    obtain rfl : pl.L = L' := Option.some.inj (F.ff.symm.trans hf)
    exact ⟨r1, r2, r3⟩
  have ow : ¬ d' pl.env.locals ∧ ¬ IsTab pl.env.locals := by rw [fn.loc]; exact fr.2
  exact ⟨F.cx, F.esc, F.eg, F.eb, F.eq, F.ec, F.ff, F.kind, ok, (F.since.more M).out F.ff F.new st, F.new, F.above, F.apart, st.ns' ow.1 ow.2 F.ns, .inl ow, F.nsf.imp fun _ hn => st.ns' fr.2.1 fr.2.2 hn, F.le.trans hl, F.rho.turn hl hc, F.oc⟩
noncomputable abbrev st_excInit : Stmt := inCls 2 0
theorem D_excInit : DefIs 35 (fdO st_excInit (u "LispSignal.__init__") .none (.str (u "emacs.errors") 194) (.ref 34)) (sigO st_excInit (u "LispSignal.__init__") (.ref 34)) (bodyOf st_excInit) := defIs_of (fun _ => by kernel_rfl!) (by kernel_rfl!) (fun _ => by kernel_rfl!)
theorem exc_noS : ∀ P, findIn (Kf P) (.ref 38) (u "symbol") = some none := fun _ => by kernel_rfl!
theorem exc_noD : ∀ P, findIn (Kf P) (.ref 38) (u "data") = some none := fun _ => by kernel_rfl!
/-- the exception's __init__ -/
theorem exc_init_run {xa t : Addr} {v₁ v₂ : Value} {Q : Value → Shared → Prop} (cx : ACx A l (k + 1)) (ok : Ok S d I J l s.heap) (hx : s.heap.get? xa = some (newExcObj t)) (x1 : I xa = none) (x2 : ¬ d xa) (x3 : ¬ IsTab xa) (x4 : ∀ env ∈ l, env.frame ≠ some xa)
    (hQ : ∀ h' I' tk dx, h'.get? xa = some { newExcObj t with dict := some dx } → Le I I' → Ok S d I' J l h' → I' xa = none → Step (plus d xa) l s.heap h' → Q .none { s with heap := h', toks := tk }) :
    wpAny (model pw S.w) A (call (.ref 35) [.ref xa, v₁, v₂]) Q E s := by
  have ok₁ := Ok.pinned ok x1 x2 x3 x4 hx
  refine wpAny_call (code_def (xs := [u "self", u "symbol", u "data"]) (Ps := [isV (.ref xa), isV v₁, isV v₂]) (DPs := []) (dvs := []) D_excInit (by kernel_rfl!) cx ok₁ (.cons rfl (.cons rfl (.cons rfl .nil))) (BindsTo.of_eq rfl) (by kernel_rfl!) (by decide) .nil fun pl h₁ m tk hf F kp => ?_)
  show wpAny _ _ (execs [.Assign [.Attribute (.Name (u "self") _) (u "symbol") _] (.Name (u "symbol") _) _, .Assign [.Attribute (.Name (u "self") _) (u "data") _] (.Name (u "data") _) _] pl.env) _ _ _
  have FL : ∀ {b : Addr}, (∃ o, s.heap.get? b = some o) → b ≠ pl.L := fun ⟨o, e⟩ q => by rw [q, F.new] at e; cases e
  refine wpAny_execs_cons (plainObj_wpAny_Assign_Attribute ((EvOk.name (P := isV v₁) (by kernel_rfl!) (lk_tail (by kernel_rfl!) lk_head) (by kernel_rfl!)).run (s := { s with heap := h₁, toks := tk }) F fun v h₂ I₂ tk₂ hl₂ ok₂ st₂ hv => ?_) rfl)
  cases hv
  have F₂ := F.step hl₂ ok₂ st₂
  refine (EvOk.name (P := isV (.ref xa)) (by kernel_rfl!) lk_head (by kernel_rfl!)).run (s := { s with heap := h₂, toks := tk₂ }) F₂ fun v h₃ I₃ tk₃ hl₃ ok₃ st₃ hv => ?_
  cases hv
  have F₃ := F₂.step hl₃ ok₃ st₃
  have off : I₃ xa = none ∧ ¬ d xa ∧ ¬ IsTab xa ∧ ∀ env ∈ (pl.fe :: l), env.frame ≠ some xa := ⟨ok₃.dI _ (.inr rfl), x2, x3, fun env he q => by
    rcases List.mem_cons.mp he with rfl | he
    · exact FL ⟨_, hx⟩ (Option.some.inj (q.symm.trans F.ff))
    · exact x4 env he q⟩
  have X₃ : (Kf S.w.params).In h₃ := S.kin.keeps fun b o e => ok₃.imm _ _ (ok₃.base _ _ e)
  refine exc_set0 (s := { s with heap := h₃, toks := tk₃ }) X₃ ok₃.get_pin (exc_noS _) fun h₄ hx₄ hd₄ kp₄ => ?_
  dsimp only at hx₄ hd₄ kp₄
  generalize hdx : h₃.objs.size = dx at *
  have nd : h₃.get? dx = none := by rw [← hdx]; exact get_size _
  obtain ⟨o1, o2, o3, o4⟩ := ok₃.off nd
  have od2 : ¬ d dx := fun q => o2 (.inl q)
  have hne : dx ≠ xa := fun q => o2 (.inr q)
  have okd : Ok S d I₃ J (pl.fe :: l) h₄ := (ok₃.less (pin_more x2)).turn (X := fun b => b = xa) (fun b hb => by subst hb; exact off) kp₄
  have okx := Ok.pinned okd off.1 off.2.1 off.2.2.1 off.2.2.2 hx₄
  obtain ⟨od, hod, hod'⟩ : ∃ od, h₄.get? dx = some od ∧ ∀ v, od.data ≠ .cell v := by
    obtain ⟨od, es, ep, e1, e2, _⟩ := hd₄
    exact ⟨od, e1, fun v q => by rw [e2] at q; cases q⟩
  have ok₄ := Ok.pinned (dx := dx) okx o1 o2 o3 o4 hod
  have st₄ : Step (plus (plus d xa) dx) (pl.fe :: l) h₃ h₄ := fun b o e => by
    by_cases q : b = xa
    · exact .inr (.inr (.inl (.inl (.inr q))))
    · exact .inl (kp₄ b o q e)
  have F₄ := F₃.jumpTo (J' := pin (pin J xa { newExcObj t with dict := some dx }) dx od) hf (Le.refl _) (fun b hb => .inl hb) ok₄ st₄ fun _ c v _ hc => by
    have := pin_cell (od' := { newExcObj t with dict := some dx }) (Le.refl I₃) (fun v q => by cases q) hc
    exact (pin_more o2).cell (Le.refl _) this
  refine wpAny_execs_cons (plainObj_wpAny_Assign_Attribute ((EvOk.name (P := isV v₂) (by kernel_rfl!) (lk_tail (by kernel_rfl!) (lk_tail (by kernel_rfl!) lk_head)) (by kernel_rfl!)).run (s := { s with heap := h₄, toks := tk₃ + 2 }) F₄ fun v h₅ I₅ tk₅ hl₅ ok₅ st₅ hv => ?_) rfl)
  cases hv
  have F₅ := F₄.step hl₅ ok₅ st₅
  refine (EvOk.name (P := isV (.ref xa)) (by kernel_rfl!) lk_head (by kernel_rfl!)).run (s := { s with heap := h₅, toks := tk₅ }) F₅ fun v h₆ I₆ tk₆ hl₆ ok₆ st₆ hv => ?_
  cases hv
  have F₆ := F₅.step hl₆ ok₆ st₆
  have X₆ : (Kf S.w.params).In h₆ := S.kin.keeps fun b o e => ok₆.imm _ _ (ok₆.base _ _ e)
  have hx₆ : h₆.get? xa = some { newExcObj t with dict := some dx } := by
    obtain ⟨o, e, j⟩ := ok₆.dk xa (.inl (.inr rfl))
    rw [pin_off (Ne.symm hne)] at j
    rw [pin_at.mp j] at e; exact e
  have hd₆ : h₆.Ns1 dx (fun y => if y = u "symbol" then some v₁ else none) := by
    refine hd₄.at fun o e => ?_
    rw [hod] at e; cases e
    exact ok₆.get_pin
  refine exc_set1 (s := { s with heap := h₆, toks := tk₆ }) X₆ hx₆ hd₆ (Within.cons _ _ Within.nil) (by decide) (exc_noD _) fun h₇ hs₇ _ => ?_
  refine wpAny_execs_nil ?_
  have okl := ok₆.less (pin_more o2)
  have okl' := (okl.less (pin_more x2)).turn (h' := h₇) (X := fun b => b = dx) (fun b hb => by subst hb; exact ⟨ok₆.dI _ (.inr rfl), od2, o3, o4⟩) fun b o hb e => hs₇.extBut b o hb e
  refine hQ h₇ I₆ _ dx (hs₇.extBut _ _ (Ne.symm hne) hx₆) (((hl₂.trans hl₃).trans hl₅).trans hl₆) ⟨okl'.imm, okl'.base, okl'.tabs, fun env he => okl'.fr env (.tail _ he), okl'.dI, okl'.dT, okl'.dk⟩ (ok₆.dI _ (.inl (.inr rfl))) ?_
  have nd₀ : s.heap.get? dx = none := by
    have := F₃.since.fresh (d := plus d xa) (l := l) (I := I₃) (J := pin J xa (newExcObj t)) (S := S) ⟨ok₃.imm, ok₃.base, ok₃.tabs, fun env he => ok₃.fr env (.tail _ he), ok₃.dI, ok₃.dT, ok₃.dk⟩ nd
    exact this
  refine Step.thru (d' := plus (plus d xa) dx) (Step.refl _ _ _) (fun b hb => hb.imp_right fun (q : b = dx) => q ▸ nd₀) ?_
  refine F₆.since.thru (d' := plus (plus d xa) dx) (fun b hb => .inl hb) fun b o e => ?_
  by_cases q : b = dx
  · exact .inr (.inr (.inl (.inr q)))
  · exact .inl (hs₇.extBut b o q e)
end
end Mine
end
section
open PySem PySem.W PyProof.Rows PySem.Calls PyProof PySem.Spec PyProof.Rows.LCg
namespace Mine
theorem raise_made {M : Model} {A : Around} {E : Value → Shared → Prop} {env : Env} {P : Params} {s : Shared} {x : Sem Value} {Q : Flow → Shared → Prop} (hh : A.handled = none)
    (h : wpAny M A x (fun v s₁ => ∃ e t dd, v = .ref e ∧ (Kf P).In s₁.heap ∧ s₁.heap.get? e = some { newExcObj t with dict := some dd } ∧ E (.ref e) s₁) E s) : wpAny M A (raiseStmt env (some x) none) Q E s := by
  have hcB : (Value.ref 38 :: [Value.type "Exception", .type "BaseException", .type "object"]).contains (.type "BaseException") = true := by simp
  unfold raiseStmt
  refine wpAny_bind (wpAny_mono h (fun v s₁ h₁ => ?_) fun _ _ x => x)
  obtain ⟨e, t, dd, rfl, X, he, hE⟩ := h₁
  have hC : s₁.heap.get? 38 = some excObj := X _ _ (exc_cls P)
  obtain ⟨hp, g, d, tk, os⟩ := s₁
  repeat (first | with_reducible refine wpAny_loadPart_at he ?_ | with_reducible refine wpAny_loadPart_at hC ?_ | (with_reducible refine wpAny_isSubtype_exc hC ?_; rw [hcB]) | wp_step)
  exact wpAny_raiseNew_none hh hE
section
variable {S : St} {d d' : Mut} {σ σi : Sig} {k : Nat} {J J' J'' : JM} {ρ ρ' : Rho} {P P' P₁ P₂ P₃ : VP} {r : Out} {r' : BOut} {e e₁ e₂ e₃ : Expr} {pos np tp cpos : Pos} {x x₁ x₂ x₃ : Str} {p₁ p₂ p₃ : Pos} {l : List Env} {I I₀ I' : IM} {h₀ h h' : Heap} {s : Shared} {Q E : Value → Shared → Prop} {rest body : List Stmt} {A : Around} {pl : Pl} {m : Str → Option Value}
theorem exc_keep : ∀ P, keepIn (Kf P) (.ref 38) = true := fun _ => by kernel_rfl!
/-- an exception just made, off everything, flies -/
theorem Fly.made {xa t dx : Addr} (ok : Ok S d I J l h) (hx : h.get? xa = some { newExcObj t with dict := some dx }) (hI : I xa = none) (hd : ¬ d xa) (ht : ¬ IsTab xa) (hf : ∀ env ∈ l, env.frame ≠ some xa) (hn : h₀.get? xa = none) (st : Step d l h₀ h) : Fly false S d l xa h₀ I J h := by
  have hin : ∀ env ∈ l, ∀ b, env.frame = some b → b ∈ xa :: l.filterMap (·.frame) := fun env he b hb => .tail _ (List.mem_filterMap.mpr ⟨env, he, hb⟩)
  have out : ∀ b, b ∉ (xa :: l.filterMap (·.frame)) → ∀ o, h.get? b = some o → (hideAll h (xa :: l.filterMap (·.frame))).get? b = some o := fun b hb o e => hideAll_get _ e hb
  have frs : h.FunFrames (hideAll h (xa :: l.filterMap (·.frame))) l := by
    have : ∀ l', (∀ env ∈ l', env ∈ l) → h.FunFrames (hideAll h (xa :: l.filterMap (·.frame))) l' := by
      intro l'
      induction l' with
      | nil => intro _; trivial
      | cons env r ih =>
        intro hl
        obtain ⟨hk, L, o, es, ep, hL, a, b, c, g, hdt⟩ := ok.fr env (hl env (.head _))
        exact ⟨hk, ⟨L, o, hL, hideAll_none _ (hin env (hl env (.head _)) L hL), g, fun vs q => by rw [hdt] at q; cases q⟩, ih fun e he => hl e (.tail _ he)⟩
    exact this l fun _ he => he
  have nin : ∀ b o, I b = some o → b ∉ (xa :: l.filterMap (·.frame)) := fun b o e hb => by
    rcases List.mem_cons.mp hb with rfl | hb
    · rw [hI] at e; cases e
    · obtain ⟨env, he, hL⟩ := List.mem_filterMap.mp hb
      obtain ⟨_, L, _, _, _, hL', a, _⟩ := ok.fr env he
      rw [hL] at hL'; cases hL'
      rw [a] at e; cases e
  have ntab : ∀ b, IsTab b → b ∉ (xa :: l.filterMap (·.frame)) := fun b e hb => by
    rcases List.mem_cons.mp hb with rfl | hb
    · exact ht e
    · obtain ⟨env, he, hL⟩ := List.mem_filterMap.mp hb
      obtain ⟨_, L, _, _, _, hL', _, _, c, _⟩ := ok.fr env he
      rw [hL] at hL'; cases hL'
      exact c e
  have nd : ∀ b, d b → b ∉ (xa :: l.filterMap (·.frame)) := fun b e hb => by
    rcases List.mem_cons.mp hb with rfl | hb
    · exact hd e
    · obtain ⟨env, he, hL⟩ := List.mem_filterMap.mp hb
      obtain ⟨_, L, _, _, _, hL', _, c, _⟩ := ok.fr env he
      rw [hL] at hL'; cases hL'
      exact c e
  refine ⟨hideAll h (xa :: l.filterMap (·.frame)), .ref t, ⟨fun b o e => of_hideAll _ e, hideAll_none _ (.head _), frs, .inr ⟨rfl, _, _, hx, rfl, rfl, rfl, rfl⟩⟩, ⟨fun b o e => out b (nin b o e) o (ok.imm _ _ e), ok.base, fun tt htt => ⟨(ok.tabs tt htt).off, ?_⟩, fun _ he => (nomatch he), ok.dI, ok.dT, fun b hb => ?_⟩, ok.fr, fun b o e => ?_⟩
  · obtain ⟨ps, e, r⟩ := (ok.tabs tt htt).is
    exact ⟨ps, out _ (ntab _ ⟨tt, htt, rfl⟩) _ e, r⟩
  · obtain ⟨o, e, j⟩ := ok.dk b hb
    exact ⟨o, out b (nd b hb) o e, j⟩
  · have hbx : b ≠ xa := fun q => by rw [q, hn] at e; cases e
    rcases st b o e with q | q | q | q
    · by_cases hb : b ∈ (xa :: l.filterMap (·.frame))
      · rcases List.mem_cons.mp hb with z | hb
        · exact absurd z hbx
        · obtain ⟨env, he, hL⟩ := List.mem_filterMap.mp hb
          exact .inr (.inr (.inr ⟨⟨env, he, hL⟩, fun m hm => ns_of_get e q hm⟩))
      · exact .inl (out b hb o q)
    · exact .inr (.inl q)
    · exact .inr (.inr (.inl q))
    · exact .inr (.inr (.inr q))
/-- raise LispSignal(a, b) -/
theorem Blk.raise (hk : σ.scope.names.lookup (u "LispSignal") = some .globalImplicit) (hs : PlainArgs [e₁, e₂]) (ha : ArgsOk S d σ (k + 2) J [e₁, e₂] ρ [P₁, P₂]) :
    Blk S d σ (k + 2) J (.Raise (some (.Call (.Name (u "LispSignal") np) [e₁, e₂] [] cpos)) none pos :: rest) ρ .exc J := .mk fun {A l pl h₀ I₀ I m s Q E} hf F hp => by
  refine wpAny_execs_cons ?_
  rw [arm_exec_Raise]
  refine wpAny_bind (wpAny_standAt ?_)
  show wpAny _ _ (raiseStmt pl.env (some (do let v ← eval (.Call (.Name (u "LispSignal") np) [e₁, e₂] [] cpos) pl.env; standAt pos; pure v)) none) _ _ _
  refine raise_made (P := S.w.params) F.cx.handled (wpAny_bind (wpAny_mono (Q := fun v s₁ => ∃ e t dd, v = .ref e ∧ (Kf S.w.params).In s₁.heap ∧ s₁.heap.get? e = some { newExcObj t with dict := some dd } ∧ E (.ref e) s₁) ?_ (fun v s' h => wpAny_bind (wpAny_standAt (wpAny_pure h))) fun _ _ x => x))
  refine Call_ ((EvOk.glob (v := .ref 38) hk (fun _ => by kernel_rfl!) (by kernel_rfl!)).run F fun v h' I' tk hl ok st hv => ?_)
  cases hv
  have F' := F.step hl ok st
  refine callWith_of (first := []) (P := fun h => (Kf S.w.params).In h) (s := { s with heap := h', toks := tk }) (by rw [plain_any hs]; rfl) (keeps_K (exc_keep _)) (evalArgs_ok hs (ha.run F' fun vs h₂ I₂ tk₂ hl₂ ok₂ st₂ hv₂ => ⟨S.kin.keeps fun b o e => ok₂.imm _ _ (ok₂.base _ _ e), ?_⟩))
  obtain ⟨v₁, v₂, rfl, -, -⟩ := hv₂.two
  have F₂ := F'.step hl₂ ok₂ st₂
  have X₂ : (Kf S.w.params).In h₂ := S.kin.keeps fun b o e => ok₂.imm _ _ (ok₂.base _ _ e)
  refine exc_call X₂ (by rw [sizeLine_eq]; show 2 ≤ _; decide) ?_
  have kp : ∀ b o, h₂.get? b = some o → ((h₂.push { cls := .type "tuple", data := .seq [v₁, v₂].toArray }).push (newExcObj h₂.objs.size)).get? b = some o := fun b o e => Heap.get?_push_of_some _ (Heap.get?_push_of_some _ e)
  have ex : ((h₂.push { cls := .type "tuple", data := .seq [v₁, v₂].toArray }).push (newExcObj h₂.objs.size)).get? (h₂.objs.size + 1) = some (newExcObj h₂.objs.size) := by heap_get
  have nx : h₂.get? (h₂.objs.size + 1) = none := by
    cases q : h₂.get? (h₂.objs.size + 1) with
    | none => rfl
    | some o => exact absurd (Heap.lt_size q) (Nat.not_lt.mpr (Nat.le_succ _))
  obtain ⟨x1, x2, x3, x4⟩ := ok₂.off nx
  refine exc_init_run (S := S) (d := d) (J := J) (I := I₂) (l := pl.fe :: l) (k := k) F.cx.make (ok₂.grow kp) ex x1 x2 x3 x4 fun h₃ I₃ tk₃ dx hx₃ hl₃ ok₃ i₃ st₃ => ⟨rfl, _, _, _, rfl, S.kin.keeps fun b o e => ok₃.imm _ _ (ok₃.base _ _ e), hx₃, ?_⟩
  have st₂₃ : Step d (pl.fe :: l) h₂ h₃ := (Step.of_keeps kp).thru (d' := plus d (h₂.objs.size + 1)) (fun b hb => hb.imp_right fun (q : b = h₂.objs.size + 1) => q ▸ nx) st₃
  have n₀ : h₀.get? (h₂.objs.size + 1) = none := by
    cases q : h₀.get? (h₂.objs.size + 1) with
    | none => rfl
    | some o =>
      rcases F₂.since _ _ q with z | z | z | ⟨⟨env, he, hf'⟩, _⟩
      · rw [nx] at z; cases z
      · exact absurd z x3
      · exact absurd z x2
      · exact absurd hf' (x4 env (.tail _ he))
  refine hp _ h₃ I₃ tk₃ (F₂.le.trans hl₃) (Fly.made ok₃ hx₃ i₃ x2 x3 x4 n₀ ?_)
  exact F₂.since.wide.trans st₂₃
end
end Mine
end
section
open PySem PySem.W PyProof.Rows PySem.Calls PyProof PySem.Spec PyProof.Rows.LCg
namespace Mine
theorem for_turn {A : Around} {env : Env} {R : Result → Shared → Prop} {w : World} {s : Shared} {target : Expr} {it : Value} {body orelse : List Stmt}
    (turn : wpAny (model pw w) A (pyNext it) (fun r s₁ => match r with
      | none => wpAny (model pw w) A (execs orelse env) (fun f s₃ => R (.ok f) s₃) (notedBy (model pw w) A env fun e s' => R (.error e) s') s₁
      | some v => wpAny (model pw w) A (letOwnedTupleGo target it v) (fun _ s₁' =>
          wpAny (model pw w) A (assign target env v) (fun _ s₂ => wpAny (model pw w) A (execs body env) (fun f s₃ => match f with
            | .next | .cont => codeAny (model pw w) A (.forLoop target it body orelse env) R s₃
            | .brk => R (.ok .next) s₃
            | .ret v => R (.ok (.ret v)) s₃) (notedBy (model pw w) A env fun e s' => R (.error e) s') s₂) (notedBy (model pw w) A env fun e s' => R (.error e) s') s₁') (notedBy (model pw w) A env fun e s' => R (.error e) s') s₁) (notedBy (model pw w) A env fun e s' => R (.error e) s') s) :
    codeAny (model pw w) A (.forLoop target it body orelse env) R s := by
  refine codeAny_of_tree ?_
  show wpAny _ A ((forTurn target it body orelse env).onRaise (fun x => do noteFrame x env; theTreesLotGoes x)) _ _ s
  refine wpAny_noted ?_
  simp only [forTurn]
  refine wpAny_bind (wpAny_standAt (wpAny_bind (wpAny_onRaise (wpAny_mono turn (fun r s₁ h₁ => ?_) fun _ _ h' => wpAny_standAt h'))))
  cases r with
  | none => exact wpAny_pure ⟨rfl, codeAny_block h₁⟩
  | some v =>
    refine wpAny_bind (wpAny_mono h₁ (fun _ s₁' h₁' => ?_) fun _ _ h' => h')
    refine wpAny_bind (wpAny_mono h₁' (fun _ s₂ h₂ => wpAny_bind (wpAny_mono h₂ (fun f s₃ h₃ => ?_) fun _ _ h' => h')) fun _ _ h' => h')
    cases f with
    | next => exact wpAny_pure ⟨rfl, h₃⟩
    | cont => exact wpAny_pure ⟨rfl, h₃⟩
    | brk => exact wpAny_pure h₃
    | ret v => exact wpAny_pure h₃
section
variable {S : St} {d d' : Mut} {σ σi : Sig} {k : Nat} {J J' J'' : JM} {ρ ρ' : Rho} {P P' : VP} {r' : BOut} {pos np tp : Pos} {x : Str} {p₁ : Pos} {l : List Env} {I I₀ I' : IM} {h₀ h h' : Heap} {s : Shared} {E : Value → Shared → Prop} {rest body : List Stmt} {iter : Expr} {items : List VP} {A : Around} {pl : Pl} {m : Str → Option Value}
theorem FrameOk.unpin {dx : Addr} {od : Obj} (fn : pl.IsFn) (F : FrameOk S (plus d dx) σ k (pin J dx od) ρ A l pl h₀ I₀ I m h) (nd : ¬ d dx) (n₀ : h₀.get? dx = none) (nc : ∀ v, od.data ≠ .cell v) : FrameOk S d σ k J ρ A l pl h₀ I₀ I m h := by
  have ok := F.ok.less (pin_more nd)
  refine ⟨F.cx, F.esc, F.eg, F.eb, F.eq, F.ec, F.ff, F.kind, ok, (Step.refl _ _ _).thru (d' := plus d dx) (fun b hb => hb.imp_right fun (q : b = dx) => q ▸ n₀) F.since, F.new, F.above, F.apart, F.ns, .inl ?_, F.nsf, F.le, F.rho.turn (Le.refl _) fun _ c v _ hc => ?_, F.oc⟩
  · rw [fn.loc]; exact ⟨fun q => F.frAt.2.1 (.inl q), F.frAt.2.2⟩
  · rcases hc with ⟨o, v, a, b, q⟩ | ⟨a, b⟩
    · exact .inl ⟨o, v, a, b, q⟩
    · by_cases q : c = dx
      · subst q
        obtain ⟨v, z, _⟩ := b _ _ (Le.refl _) (pin_at.mpr rfl)
        exact absurd z (nc _)
      · refine .inr ⟨a.elim id fun z => absurd z q, ?_⟩
        rw [pin_off q] at b; exact b
/-- a value is bound to a target -/
structure TgtOk (S : St) (σ : Sig) (target : Expr) (P : VP) (ρ ρ' : Rho) : Prop where
  run : ∀ {d : Mut} {k : Nat} {J : JM} {A : Around} {l : List Env} {pl : Pl} {h₀ : Heap} {I₀ I : IM} {m : Str → Option Value} {s : Shared} {v : Value} {Q : Unit → Shared → Prop} {E : Value → Shared → Prop}, pl.IsFn →
    FrameOk S d σ k J ρ A l pl h₀ I₀ I m s.heap → P.p I v → (∀ h' m' tk, FrameOk S d σ k J ρ' A l pl h₀ I₀ I m' h' → Q () { s with heap := h', toks := tk }) → wpAny (model pw S.w) A (assign target pl.env v) Q E s
theorem TgtOk.name (hk : σ.scope.names.lookup x = some .local) : TgtOk S σ (.Name x pos) P ρ ((x, P) :: ρ) := .mk fun hf F hv hQ => F.put1 hf hk hv hQ
theorem TgtOk.pair {P₁ P₂ : VP} {x₁ x₂ : Str} {p₁ p₂ : Pos} {n : Nat} (h1 : σ.scope.names.lookup x₁ = some .local) (h2 : σ.scope.names.lookup x₂ = some .local) : TgtOk S σ (.Tuple [.Name x₁ p₁, .Name x₂ p₂] n tp) (isTup [P₁, P₂]) ρ ((x₂, P₂) :: (x₁, P₁) :: ρ) := .mk fun {d k J A l pl h₀ I₀ I m s v Q E} hf F hv hQ => by
  obtain ⟨a, vs, rfl, ht, hvs⟩ := tup_at F.ok hv
  obtain ⟨v, v', rfl, hv1, hv2⟩ := hvs.two
  refine assign_Tuple_tuple F.cx.handled ht rfl rfl fun h₂ hk₂ => ?_
  obtain ⟨ok₂, st₂⟩ := F.ok.extB (get_size s.heap) hk₂
  refine assignInOrder_cons ((F.step (Le.refl _) ok₂ st₂).put1 (s := { s with heap := h₂ }) hf h1 hv1 fun h₃ m₃ tk₃ F₃ => ?_)
  refine assignInOrder_cons (F₃.put1 (s := { s with heap := h₃, toks := tk₃ }) hf h2 hv2 fun h₄ m₄ tk₄ F₄ => ?_)
  exact assignInOrder_nil (hQ h₄ m₄ tk₄ F₄)
noncomputable def goesBack : BOut → Bool
  | .ret _ => true
  | .new _ => true
  | _ => false
/-- a for from its i-th item on, and what stands behind it -/
inductive ForB (S : St) (d : Mut) (σ : Sig) (k : Nat) (target : Expr) (body rest : List Stmt) (r' : BOut) (J' : JM) : JM → Rho → List VP → Prop
  | done {J : JM} {ρ : Rho} : Blk S d σ k J rest ρ r' J' → ForB S d σ k target body rest r' J' J ρ []
  | turn {J J₁ : JM} {ρ ρx ρ₁ : Rho} {P : VP} {items : List VP} : TgtOk S σ target P ρ ρx → (∀ It oI, ¬ d It → plainIt oI = true → Blk S (plus d It) σ k (pin J It oI) body ρx (.fall ρ₁) (pin J₁ It oI)) → ForB S d σ k target body rest r' J' J₁ ρ₁ items → ForB S d σ k target body rest r' J' J ρ (P :: items)
  | leave {J : JM} {ρ ρx : Rho} {P : VP} {items : List VP} : goesBack r' = true → TgtOk S σ target P ρ ρx → (∀ It oI, ¬ d It → plainIt oI = true → Blk S (plus d It) σ k (pin J It oI) body ρx r' (pin J' It oI)) → ForB S d σ k target body rest r' J' J ρ (P :: items)
theorem wpAny_lotGo {M : Model} {target : Expr} {It : Addr} {v : Value} {o : Obj} {Q : Unit → Shared → Prop} (e : s.heap.get? It = some o) (hp : plainIt o = true) (hQ : Q () s) : wpAny M A (letOwnedTupleGo target (.ref It) v) Q E s := by
  unfold letOwnedTupleGo
  split
  all_goals try exact wpAny_pure hQ
  all_goals
    split
    · rename_i h1
      cases h1
      refine wpAny_bind (wpAny_load e ?_)
      split
      · rename_i hc hd
        unfold plainIt at hp
        rw [hc] at hp
        simp only [Bool.and_eq_true, Bool.not_eq_true'] at hp
        rw [if_neg (by rw [hp.2]; simp)]
        exact wpAny_pure hQ
      · exact wpAny_pure hQ
    · exact wpAny_pure hQ
theorem Fly.less {l : List Env} {e : Addr} {tr : Bool} (M : More d J d' J') (hd : ∀ b, d' b → d b ∨ h₀.get? b = none) (fl : Fly tr S d' l e h₀ I J' h) : Fly tr S d l e h₀ I J h := by
  obtain ⟨B, a0, hfl, okB, hfr, hk⟩ := fl
  refine ⟨B, a0, hfl, okB.less M, fun env he => ?_, fun b o e => ?_⟩
  · obtain ⟨a, L, o, es, ep, hf, b, c, f, g, r⟩ := hfr env he
    exact ⟨a, L, o, es, ep, hf, b, fun q => c (M.md _ q), f, g, r⟩
  · rcases hk b o e with q | q | q | q
    · exact .inl q
    · exact .inr (.inl q)
    · rcases hd b q with z | z
      · exact .inr (.inr (.inl z))
      · rw [z] at e; cases e
    · exact .inr (.inr (.inr q))
/-- out of a block where more may be turned -/
theorem BPost.less {It : Addr} {O : OP} {r : BOut} {Q : Flow → Shared → Prop} {E' : Value → Shared → Prop} (nf : goesBack r = true) (nd : ¬ d It) (n₀ : h₀.get? It = none) (hp : BPost S d σ k A l pl h₀ I₀ J' s r Q E) : BPost S (plus d It) σ k A l pl h₀ I₀ (upd J' It O) s r Q E' := by
  have hd : ∀ b, plus d It b → d b ∨ h₀.get? b = none := fun b hb => hb.imp_right fun (q : b = It) => q ▸ n₀
  cases r with
  | fall _ => cases nf
  | exc => cases nf
  | ret P => exact fun v h' I' tk hl ok st hv => hp v h' I' tk hl (ok.less (upd_more nd)) ((Step.refl _ _ _).thru (d' := plus d It) hd st) hv
  | new P => exact fun a h' I' tk hl ok st hv hn => hp a h' I' tk hl (ok.less (upd_more nd)) ((Step.refl _ _ _).thru (d' := plus d It) hd st) hv hn
theorem BPost.here {r : BOut} {Q : Flow → Shared → Prop} {h₁ : Heap} {tk : Nat} (hl : Le I₀ I) (hp : BPost S d σ k A l pl h₀ I₀ J' s r Q E) : BPost S d σ k A l pl h₀ I J' { s with heap := h₁, toks := tk } r Q E := by
  cases r with
  | fall _ => exact fun h' I' m' tk F => hp h' I' m' tk ⟨F.cx, F.esc, F.eg, F.eb, F.eq, F.ec, F.ff, F.kind, F.ok, F.since, F.new, F.above, F.apart, F.ns, F.own, F.nsf, hl.trans F.le, F.rho, F.oc⟩
  | ret P => exact fun v h' I' tk hl' ok st hv => hp v h' I' tk (hl.trans hl') ok st hv
  | new P => exact fun a h' I' tk hl' ok st hv hn => hp a h' I' tk (hl.trans hl') ok st hv hn
  | exc => exact fun e h' I' tk hl' fl => hp e h' I' tk (hl.trans hl') fl
/-- what is off everything is turned -/
theorem FrameOk.turned {It : Addr} (F : FrameOk S d σ k J ρ A l pl h₀ I₀ I m h) (fn : pl.IsFn) (off : I It = none ∧ ¬ d It ∧ ¬ IsTab It ∧ ∀ env ∈ (pl.fe :: l), env.frame ≠ some It) (n₀ : h₀.get? It = none) (kp : ∀ b o, ¬ (b = It) → h.get? b = some o → h'.get? b = some o) : FrameOk S d σ k J ρ A l pl h₀ I₀ I m h' := by
  have hL : pl.L ≠ It := fun q => off.2.2.2 _ (.head _) (q ▸ F.ff)
  have ns : ∀ {b m}, b ≠ It → h.Ns b m → h'.Ns b m := fun hb hn => by
    obtain ⟨o, ho⟩ := ns_there hn
    exact ns_of_get ho (kp _ _ hb ho) hn
  refine ⟨F.cx, F.esc, F.eg, F.eb, F.eq, F.ec, F.ff, F.kind, F.ok.turn (X := fun b => b = It) (fun b hb => by subst hb; exact off) kp, F.since.thru (d' := plus d It) (fun b hb => hb.imp_right fun (q : b = It) => q ▸ n₀) fun b o e => ?_, F.new, F.above, F.apart, ns (by rw [fn.loc]; exact hL) F.ns, F.own, F.nsf.imp fun _ hn => ns hL hn, F.le, F.rho, F.oc⟩
  by_cases q : b = It
  · exact .inr (.inr (.inl (.inr q)))
  · exact .inl (kp b o q e)
theorem for_run {target : Expr} {It : Addr} {fp : List Addr} {Pw : Nat → Value → Prop} {Sw : Nat → Heap → Prop} {items₀ : List VP} {Iw : IM} {Q : Flow → Shared → Prop} (W : Walks pw S.w A It fp [It] items₀.length Pw Sw) (hfp : ∀ b ∈ fp, b = It ∨ ∃ o, Iw b = some o) (hIo : ∀ i h, Sw i h → ∃ o, h.get? It = some o ∧ plainIt o = true) (hPw : ∀ i v Pi, Pw i v → items₀[i]? = some Pi → Pi.p Iw v)
    (nd : ¬ d It) (n₀ : h₀.get? It = none) (hf : pl.IsFn) : ∀ {J : JM} {ρ : Rho} {items : List VP}, ForB S d σ k target body rest r' J' J ρ items → ∀ (i : Nat) (I₀ I : IM) (m : Str → Option Value) (s : Shared), items = items₀.drop i → i ≤ items₀.length → Le Iw I →
      FrameOk S d σ k J ρ A l pl h₀ I₀ I m s.heap → Sw i s.heap → I It = none → ¬ IsTab It → (∀ env ∈ (pl.fe :: l), env.frame ≠ some It) → BPost S d σ k A l pl h₀ I₀ J' s r' Q E →
      codeAny (model pw S.w) A (.forLoop target (.ref It) body [] pl.env) (fun r s' => match r with | .ok f => (match f with | .next => wpAny (model pw S.w) A (execs rest pl.env) Q E s' | f => Q f s') | .error _ => False) s := by
  intro J ρ items fb
  have turnTo : ∀ {J : JM} {ρ ρx : Rho} {P : VP} {items : List VP} (i : Nat) (I₀ I : IM) (m : Str → Option Value) (s : Shared) {R : Result → Shared → Prop}, TgtOk S σ target P ρ ρx → P :: items = items₀.drop i → Le Iw I → FrameOk S d σ k J ρ A l pl h₀ I₀ I m s.heap → Sw i s.heap → I It = none → ¬ IsTab It → (∀ env ∈ (pl.fe :: l), env.frame ≠ some It) →
      (∀ oI h₃ m₃ tk₃, plainIt oI = true → (∀ h₄ I₄, Le I I₄ → (∀ b o, I₄ b = some o → h₄.get? b = some o) → h₄.get? It = some oI → Sw (i + 1) h₄) → FrameOk S (plus d It) σ k (pin J It oI) ρx A l pl h₀ I₀ I m₃ h₃ → wpAny (model pw S.w) A (execs body pl.env) (fun f s₃ => match f with
            | .next | .cont => codeAny (model pw S.w) A (.forLoop target (.ref It) body [] pl.env) R s₃
            | .brk => R (.ok .next) s₃
            | .ret v => R (.ok (.ret v)) s₃) (notedBy (model pw S.w) A pl.env fun e s' => R (.error e) s') { s with heap := h₃, toks := tk₃ }) →
      codeAny (model pw S.w) A (.forLoop target (.ref It) body [] pl.env) R s := by
    intro J ρ ρx P items i I₀ I m s R tgt hit hlw F hS hI ht hfr hb
    have hlt : i < items₀.length := by
      have := congrArg List.length hit
      rw [List.length_drop] at this
      simp at this; lia
    have hPi : items₀[i]? = some P := by
      rw [List.drop_eq_getElem_cons hlt] at hit
      rw [List.getElem?_eq_getElem hlt]
      exact congrArg some (List.cons.inj hit).1.symm
    refine for_turn (W.item i s _ _ hlt hS fun v h₂ tk₂ hPv hS₂ hk₂ => ?_)
    have hk₂' : ∀ b o, ¬ (b = It) → s.heap.get? b = some o → h₂.get? b = some o := fun b o hb e => hk₂ b o (by simpa using hb) e
    obtain ⟨oI, heI, hpl⟩ := hIo _ _ hS₂
    refine wpAny_lotGo (s := { s with heap := h₂, toks := tk₂ }) heI hpl ?_
    have ok₂ : Ok S d I J (pl.fe :: l) h₂ := F.ok.turn (X := fun b => b = It) (fun b hb => by subst hb; exact ⟨hI, nd, ht, hfr⟩) hk₂'
    have ok₂' := Ok.pinned ok₂ hI nd ht hfr heI
    have st₂ : Step (plus d It) (pl.fe :: l) s.heap h₂ := fun b o e => by
      by_cases q : b = It
      · exact .inr (.inr (.inl (.inr q)))
      · exact .inl (hk₂' b o q e)
    have F₂ := F.jumpTo hf (Le.refl _) (fun b hb => .inl hb) ok₂' st₂ fun _ c P' _ hc => (pin_more nd).cell (Le.refl _) hc
    refine tgt.run (s := { s with heap := h₂, toks := tk₂ }) hf F₂ (P.mono hlw (hPw i v P hPv hPi)) fun h₃ m₃ tk₃ F₃ => ?_
    refine hb oI h₃ m₃ tk₃ hpl (fun h₄ I₄ hl₄ im₄ hI₄ => W.frame _ _ _ hS₂ fun b hb o e => ?_) F₃
    rcases hfp b hb with rfl | ⟨o', ho'⟩
    · rw [heI] at e; cases e; exact hI₄
    · have e' : h₂.get? b = some o' := ok₂.imm _ _ (hlw _ _ ho')
      rw [e'] at e; cases e
      exact im₄ _ _ (hl₄ _ _ (hlw _ _ ho'))
  induction fb with
  | @done J ρ b =>
    intro i I₀ I m s hit hi hlw F hS hI ht hfr hp
    have hi' : i = items₀.length := by
      have := congrArg List.length hit
      rw [List.length_drop] at this
      simp at this; lia
    subst hi'
    refine for_turn (W.done s _ _ hS fun h₂ tk₂ hk₂ => ?_)
    have F₂ := F.turned hf ⟨hI, nd, ht, hfr⟩ n₀ fun b o hb e => hk₂ b o (by simpa using hb) e
    refine wpAny_execs_nil ?_
    exact b.run (s := { s with heap := h₂, toks := tk₂ }) hf F₂ hp
  | @turn J J₁ ρ ρx ρ₁ P items tgt hb _ ih =>
    intro i I₀ I m s hit hi hlw F hS hI ht hfr hp
    have hlt : i < items₀.length := by
      have := congrArg List.length hit
      rw [List.length_drop] at this
      simp at this; lia
    refine turnTo i I₀ I m s tgt hit hlw F hS hI ht hfr fun oI h₃ m₃ tk₃ hpl hSw F₃ => ?_
    refine (hb It oI nd hpl).run (s := { s with heap := h₃, toks := tk₃ }) hf F₃.rebase fun h₄ I₄ m₄ tk₄ F₄ => ?_
    have off : ∀ env ∈ (pl.fe :: l), env.frame ≠ some It := fun env he q => by
      obtain ⟨_, L', _, _, _, hL', _, c, _⟩ := F₄.ok.fr env he
      rw [hL'] at q
      exact c (.inr (Option.some.inj q))
    have F₅ := F₄.unpin hf nd n₀ (plainIt.nc hpl)
    have F₆ : FrameOk S d σ k J₁ ρ₁ A l pl h₀ I₀ I₄ m₄ h₄ := ⟨F₅.cx, F₅.esc, F₅.eg, F₅.eb, F₅.eq, F₅.ec, F₅.ff, F₅.kind, F₅.ok, F₅.since, F₅.new, F₅.above, F₅.apart, F₅.ns, F₅.own, F₅.nsf, F.le.trans F₅.le, F₅.rho, F₅.oc⟩
    exact ih (i + 1) I₀ I₄ m₄ { s with heap := h₄, toks := tk₄ } (by rw [List.drop_eq_getElem_cons hlt] at hit; exact (List.cons.inj hit).2) hlt (hlw.trans F₅.le) F₆ (hSw _ _ F₅.le F₄.ok.imm F₄.ok.get_pin) (F₄.ok.dI _ (.inr rfl)) (F₄.ok.dT _ (.inr rfl)) off hp
  | @leave J ρ ρx P items nf tgt hb =>
    intro i I₀ I m s hit hi hlw F hS hI ht hfr hp
    refine turnTo i I₀ I m s tgt hit hlw F hS hI ht hfr fun oI h₃ m₃ tk₃ hpl hSw F₃ => ?_
    refine (hb It oI nd hpl).run (s := { s with heap := h₃, toks := tk₃ }) hf F₃ ?_
    cases r' with
    | fall _ => cases nf
    | exc => cases nf
    | ret P => exact BPost.less (E := E) (r := .ret P) rfl nd n₀ hp
    | new P => exact BPost.less (E := E) (r := .new P) rfl nd n₀ hp
theorem Blk.forB {target : Expr} {its : List VP} (hi : EvOk S d σ k J iter ρ (.val (isIter its))) (hs : ∀ env x, foldedSetIterable iter env x = pure x) (fb : ForB S d σ k target body rest r' J' J ρ its) : Blk S d σ k J (.For target iter body [] pos :: rest) ρ r' J' := .mk fun {A l pl h₀ I₀ I m s Q E} hf F hp => by
  refine wpAny_execs_cons (wpAny_For (hi.run F fun xv h₁ I₁ tk₁ hl₁ ok₁ st₁ hxv => ?_) (hs _))
  replace hxv : IterV I₁ xv its := @hxv
  have F₁ := F.step hl₁ ok₁ st₁
  refine hxv (s := { s with heap := h₁, toks := tk₁ }) F.cx.handled ok₁.imm fun oI fp Pw Sw W hfp hIo hPw hS0 => ?_
  dsimp only at W hfp hIo hPw hS0 ⊢
  obtain ⟨o1, o2, o3, o4⟩ := ok₁.off (get_size h₁)
  have kp : ∀ b o, h₁.get? b = some o → (h₁.push oI).get? b = some o := fun b o e => Heap.get?_push_of_some _ e
  have F₂ := F₁.step (Le.refl _) (ok₁.grow kp) (.of_keeps kp)
  have n₀ : h₀.get? h₁.objs.size = none := F₁.since.wide.fresh ok₁ (get_size h₁)
  exact codeAny_mono (for_run (W _ F.cx.handled) hfp hIo hPw o2 n₀ hf fb 0 I₀ I₁ m { s with heap := h₁.push oI, toks := tk₁ } rfl (Nat.zero_le _) (Le.refl _) F₂ hS0 o1 o3 o4 hp) fun r s' hr => by
    cases r with
    | ok f => exact hr
    | error e => exact hr.elim
end
end Mine
end
section
open PySem PySem.W PyProof.Rows PySem.Calls PyProof PySem.Spec PyProof.Rows.LCg
namespace Mine
noncomputable abbrev Meth (σ : Sig) (o : Expr) (name : Str) (apos : Pos) (es : List Expr) (pos : Pos) : Prop := ∃ pl : Env → Sem Bool, ∀ env, eval (.Call (.Attribute o name apos) es [] pos) env = (do
      let ov ← eval o env
      standAt apos.atName
      let (f, first) ← holding [ov] (getMethod ov name (pl env))
      callWith pos f first (backTo pos (starEach es env)) [])
/-- an int of this kind -/
noncomputable def exI (q : Int → Prop) : VP := ⟨fun _ v => ∃ i t, v = .int i t ∧ q i, fun _ h => h⟩
/-- a list of ints of this kind -/
noncomputable def exL (q : List Int → Prop) : VP := ⟨fun I v => ∃ xs, q xs ∧ (isList xs).p I v, fun k ⟨xs, a, b⟩ => ⟨xs, a, (isList xs).mono k b⟩⟩
section
variable {S : St} {d d' : Mut} {σ σi : Sig} {k : Nat} {J J' J'' : JM} {ρ ρ' : Rho} {P P' : VP} {r : BOut} {e e₁ e₂ : Expr} {pos np tp ap pp : Pos} {x : Str} {p₁ : Pos} {l : List Env} {I I₀ I' : IM} {h₀ h h' : Heap} {s : Shared} {E : Value → Shared → Prop} {rest body : List Stmt} {A : Around} {pl : Pl} {m : Str → Option Value}
theorem Blk.exAt {α : Type} {PX : VP} {P : α → VP} {q : α → Prop} (hx : ρ.lookup x = some PX) (hk : σ.scope.names.lookup x = some .local) (hP : ∀ I v, PX.p I v → ∃ a, q a ∧ (P a).p I v) (b : ∀ a, q a → Blk S d σ k J body ((x, P a) :: ρ) r J') : Blk S d σ k J body ρ r J' := .mk fun {A l pl h₀ I₀ I m s Q E} hf F hp => by
  have hr := F.rho x _ hx
  unfold Reads at hr
  rw [hk] at hr
  obtain ⟨v, hm, hv⟩ := hr
  obtain ⟨a, hq, ha⟩ := hP _ _ hv
  refine (b a hq).run hf (F.facts fun h y Q' e => ?_) hp
  rw [List.lookup_cons] at e
  by_cases z : y = x
  · subst z
    simp only [beq_self_eq_true] at e
    cases e
    unfold Reads
    rw [hk]
    exact ⟨v, hm, ha⟩
  · have q1 : (y == x) = false := by simpa using z
    rw [q1] at e
    exact h _ _ e
theorem Blk.exI {q : Int → Prop} (hx : ρ.lookup x = some (exI q)) (hk : σ.scope.names.lookup x = some .local) (b : ∀ i, q i → Blk S d σ k J body ((x, isInt i) :: ρ) r J') : Blk S d σ k J body ρ r J' :=
  Blk.exAt (P := isInt) hx hk (fun _ _ ⟨i, t, a, b⟩ => ⟨i, b, t, a⟩) b
theorem Blk.exL {q : List Int → Prop} (hx : ρ.lookup x = some (exL q)) (hk : σ.scope.names.lookup x = some .local) (b : ∀ i, q i → Blk S d σ k J body ((x, isList i) :: ρ) r J') : Blk S d σ k J body ρ r J' :=
  Blk.exAt (P := isList) hx hk (fun _ _ ⟨i, a, b⟩ => ⟨i, a, b⟩) b
theorem Ok.weak (ok : Ok S d I J l h) (hw : ∀ b I o, d b → (J b).p I o → (J' b).p I o) : Ok S d I J' l h :=
  ⟨ok.imm, ok.base, ok.tabs, ok.fr, ok.dI, ok.dT, fun b hb => let ⟨o, e, j⟩ := ok.dk b hb; ⟨o, e, hw b _ _ hb j⟩⟩
theorem Blk.weak (b : Blk S d σ k J body ρ r J') (nf : goesBack r = true) (hw : ∀ b I o, d b → (J' b).p I o → (J'' b).p I o) : Blk S d σ k J body ρ r J'' := .mk fun {A l pl h₀ I₀ I m s Q E} hf F hp => by
  cases r with
  | fall _ => cases nf
  | exc => cases nf
  | ret P => exact b.run hf F fun v h' I' tk hl ok st hv => hp v h' I' tk hl (ok.weak hw) st hv
  | new P => exact b.run hf F fun v h' I' tk hl ok st hv hn => hp v h' I' tk hl (ok.weak hw) st hv hn
theorem Ok.upd {a : Addr} {O : OP} (ok : Ok S d I J l h) (ho : ∀ o, h.get? a = some o → O.p I o) : Ok S d I (upd J a O) l h :=
  ⟨ok.imm, ok.base, ok.tabs, ok.fr, ok.dI, ok.dT, fun b hb => by
    obtain ⟨o, e, j⟩ := ok.dk b hb
    refine ⟨o, e, ?_⟩
    by_cases q : b = a
    · subst q; rw [upd_at]; exact ho _ e
    · rw [upd_off q]; exact j⟩
theorem Blk.fixAt {α : Type} {a : Addr} {Ox : α → OP} {q : α → Prop} (hd : d a) (hJ : ∀ I o, (J a).p I o → (∃ x, q x ∧ (Ox x).p I o) ∧ ∀ v, o.data ≠ .cell v) (b : ∀ x, q x → Blk S d σ k (upd J a (Ox x)) body ρ r J') : Blk S d σ k J body ρ r J' := .mk fun {A l pl h₀ I₀ I m s Q E} hf F hp => by
  obtain ⟨o, ho, hj⟩ := F.ok.dk a hd
  obtain ⟨⟨x, hq, hx⟩, nc⟩ := hJ _ _ hj
  refine (b x hq).run hf (F.jump hf (Le.refl _) (F.ok.upd fun o' e => by rw [ho] at e; cases e; exact hx) (Step.refl _ _ _) fun _ c P _ hc => hc.off (dx := a) (Le.refl _) (fun b hb => upd_off hb) hj nc) hp
theorem Ok.change {a : Addr} {O : OP} {o' : Obj} (ok : Ok S d I J l h) (hd : d a) (hs : Heap.SameBut a h h') (e : h'.get? a = some o') (ho : O.p I o') : Ok S d I (Mine.upd J a O) l h' := by
  refine ⟨fun b o e => ?_, ok.base, fun t ht => ⟨(ok.tabs t ht).off, ?_⟩, fun env he => ?_, ok.dI, ok.dT, fun b hb => ?_⟩
  · rw [hs.2 b (fun q => by rw [q, ok.dI a hd] at e; cases e)]; exact ok.imm _ _ e
  · obtain ⟨ps, e, r⟩ := (ok.tabs t ht).is
    exact ⟨ps, (hs.2 _ fun q => ok.dT a hd ⟨t, ht, q⟩).trans e, r⟩
  · obtain ⟨q, L, o, es, ep, hf, b, c, f, g, r⟩ := ok.fr env he
    exact ⟨q, L, o, es, ep, hf, b, c, f, (hs.2 _ fun z => c (by rw [z]; exact hd)).trans g, r⟩
  · by_cases q : b = a
    · subst q; exact ⟨o', e, by rw [upd_at]; exact ho⟩
    · obtain ⟨o, e, j⟩ := ok.dk b hb
      exact ⟨o, (hs.2 _ q).trans e, by rw [upd_off q]; exact j⟩
theorem FrameOk.change {a : Addr} {O : OP} {o o' : Obj} (F : FrameOk S d σ k J ρ A l pl h₀ I₀ I m h) (fn : pl.IsFn) (hd : d a) (hj : (J a).p I o) (nc : ∀ v, o.data ≠ .cell v) (hs : Heap.SameBut a h h') (e : h'.get? a = some o') (ho : O.p I o') : FrameOk S d σ k (Mine.upd J a O) ρ A l pl h₀ I₀ I m h' :=
  F.jump fn (Le.refl _) (F.ok.change hd hs e ho) (fun b ob eb => by
    by_cases q : b = a
    · subst q; exact .inr (.inr (.inl hd))
    · exact .inl ((hs.2 b q).trans eb)) fun _ c P _ hc => hc.off (dx := a) (Le.refl _) (fun b hb => upd_off hb) hj nc
/-- a list of these ints that may be turned -/
noncomputable def listO (xs : List Int) : OP := ⟨fun _ o => ∃ its n, o = listOf its n ∧ IntsAre its.toList xs, fun _ h => h⟩
theorem listO_nc {xs : List Int} {o : Obj} (h : (listO xs).p I o) : ∀ v, o.data ≠ .cell v := fun v q => by
  obtain ⟨its, n, rfl, _⟩ := h; cases q
theorem listO_at {a : Addr} {xs : List Int} (ok : Ok S d I J l h) (hd : d a) (hJ : J a = listO xs) : ∃ its n, h.get? a = some (listOf its n) ∧ h.IsList a its ∧ IntsAre its.toList xs := by
  obtain ⟨o, e, j⟩ := ok.dk a hd
  rw [hJ] at j
  obtain ⟨its, n, rfl, hi⟩ := j
  exact ⟨its, n, e, ⟨_, e, rfl, n, rfl⟩, hi⟩
theorem EvOk.lenD {a : Addr} {xs : List Int} (hk : σ.scope.names.lookup (u "len") = some .globalImplicit) (ha : ArgsOk S d σ k J [e] ρ [isV (.ref a)]) (hs : PlainArgs [e]) (hd : d a) (hJ : J a = listO xs) (hz : xs.length ≤ 2 ^ 20) : EvOk S d σ k J (.Call (.Name (u "len") np) [e] [] pos) ρ (.val (isInt xs.length)) :=
  EvOk.callBlt (id := "len") (P := (isInt xs.length)) (EvOk.blt hk (fun _ => by kernel_rfl!) (by kernel_rfl!) (by decide +kernel) (by kernel_rfl!)) hs ha fun {A l pl h₀ I₀ I m s Q E vs} F hv hp => by
    obtain ⟨v, rfl, hv1⟩ := hv.one
    cases hv1
    obtain ⟨its, n, ho, hb, hbi⟩ := listO_at F.ok hd hJ
    have hsz : its.size = xs.length := by rw [← Array.length_toList, hbi.length]
    refine len_list hb (by rw [hsz]; lia) ?_
    exact hsz ▸ hp.here (tk := _) F.ok ⟨_, rfl⟩
theorem EvOk.itemD {a : Addr} {xs : List Int} {i y : Int} (h₁ : EvOk S d σ k J e₁ ρ (.val (isV (.ref a)))) (h₂ : EvOk S d σ k J e₂ ρ (.val (isInt i))) (hs : IdxE e₂) (hd : d a) (hJ : J a = listO xs) (h0 : 0 ≤ i) (hx : xs[i.toNat]? = some y) (hi : i < 2 ^ 62) : EvOk S d σ k J (.Subscript e₁ e₂ pos) ρ (.val (isInt y)) :=
  EvOk.twoF (P := (isInt y)) (op := fun l r => .Subscript l r pos) (fun h => Subscript_ h) h₁ h₂ fun {A l pl h₀ I₀ I m s Q E x v} F hv ⟨t, hy⟩ hp => by
    cases hv
    subst hy
    obtain ⟨its, n, ho, hb, hbi⟩ := listO_at F.ok hd hJ
    obtain ⟨t', hx'⟩ := hbi.get i.toNat _ hx
    exact tail_any hb.typeIs slot_list_getitem.lookup (wpAny_getItem_list hb h0 (by lia) (by simpa using hx') (hp.here (tk := _) F.ok ⟨_, rfl⟩)) (hs _ _)
theorem ints_erase {vs : List Value} {ns : List Int} (h : IntsAre vs ns) : IntsAre (vs.eraseIdx 0) ns.tail := by
  cases h with
  | nil => exact .nil
  | cons _ _ r => exact r
/-- deck.pop(0) -/
theorem Blk.popD {a : Addr} {xs : List Int} {dp cp : Pos} {n : Nat} (hn : EvOk S d σ k J (.Name x dp) ρ (.val (isV (.ref a)))) (hd : d a) (hJ : J a = listO xs) (h0 : 0 < xs.length) (hz : xs.length ≤ 64) (hm : Meth σ (.Name x dp) (u "pop") ap [.Constant (.int 0) n cp] pos)
    (hs : ∀ env, swapsWith (.Call (.Attribute (.Name x dp) (u "pop") ap) [.Constant (.int 0) n cp] [] pos) none pp.line env = pure false)
    (b : Blk S d σ k (upd J a (listO xs.tail)) rest ρ r J') : Blk S d σ k J (.Expr (.Call (.Attribute (.Name x dp) (u "pop") ap) [.Constant (.int 0) n cp] [] pos) pp :: rest) ρ r J' := .mk fun {A l pl h₀ I₀ I m s Q E} hf F hp => by
  obtain ⟨plf, hm⟩ := hm
  refine wpAny_execs_cons (wpAny_Expr_any (MethodCall_ (hn.run F fun v h₁ I₁ tk₁ hl₁ ok₁ st₁ hv => ?_) (hm _)) ?_ (hs _))
  · cases hv
    have F₁ := F.step hl₁ ok₁ st₁
    obtain ⟨its, c, ho, hb, hbi⟩ := listO_at ok₁ hd hJ
    refine getMethod_builtin hb.typeIs PySem.F.plainAttrs_list PySem.F.slot_list_pop PySem.F.type_list_pop (fun a e => by cases e; exact ⟨_, ho, rfl⟩) ?_
    refine callBlt_ok (s := { s with heap := h₁, toks := tk₁ }) F₁ (fun _ => rfl) (ArgsOk.cons EvOk.intC .nil fun _ => rfl) fun vs h₂ I₂ tk₂ hl₂ ok₂ st₂ hv₂ => ?_
    obtain ⟨v, rfl, ⟨t, rfl⟩⟩ := hv₂.one
    have F₂ := F₁.step hl₂ ok₂ st₂
    obtain ⟨its, c, ho, hb, hbi⟩ := listO_at ok₂ hd hJ
    have hsz : its.size = xs.length := by rw [← Array.length_toList, hbi.length]
    have h0' : 0 < its.size := by lia
    refine call_meets PySem.F.slot_list_pop hb.typeIs PySem.F.entry_list_pop (PySem.F.args_list_pop_2 _ _) (PySem.MeetsSeq.list_pop_at a its c 0 t 0 its[0] (by decide +kernel) (by unfold seqIndex?; simp [h0']) (Array.getElem?_eq_getElem h0') (by rw [hsz, sizeLine_eq]; lia)) ⟨ho, ?_⟩
    have q := PySem.IsL.update (n := c) ho fun xs => xs.eraseIdxIfInBounds 0
    obtain ⟨oD, eD, jD⟩ := ok₂.dk a hd
    refine b.run (s := { s with heap := _, toks := tk₂ }) hf (F₂.change hf hd jD (by rw [hJ] at jD; exact listO_nc jD) (Heap.SameBut.update ..) q ⟨_, _, rfl, ?_⟩) hp
    unfold Array.eraseIdxIfInBounds
    rw [dif_pos h0', Array.toList_eraseIdx]
    exact ints_erase hbi
  · have : pl.env.scope.kind ≠ .module := by rw [F.knd]; decide
    unfold interactive
    rw [beq_eq_false_iff_ne.mpr this]; rfl
theorem upd_upd {a : Addr} {O O' : OP} : Mine.upd (Mine.upd J a O) a O' = Mine.upd J a O' := by
  funext b
  by_cases q : b = a
  · subst q; rw [upd_at, upd_at]
  · rw [upd_off q, upd_off q, upd_off q]
/-- deck[i] = e -/
theorem Blk.setD {a : Addr} {xs : List Int} {i y : Int} {sp : Pos} (h : EvOk S d σ k J e ρ (.val (isInt y))) (h₁ : EvOk S d σ k J e₁ ρ (.val (isV (.ref a)))) (h₂ : EvOk S d σ k J e₂ ρ (.val (isInt i))) (hd : d a) (hJ : J a = listO xs) (h0 : 0 ≤ i ∧ i < xs.length) (hz : xs.length ≤ 64)
    (hs : ∀ env, swapsWith e (some (.Subscript e₁ e₂ sp)) pos.line env = pure false) (b : Blk S d σ k (Mine.upd J a (listO (xs.set i.toNat y))) rest ρ r J') : Blk S d σ k J (.Assign [.Subscript e₁ e₂ sp] e pos :: rest) ρ r J' := .mk fun {A l pl h₀ I₀ I m s Q E} hf F hp => by
  refine wpAny_execs_cons (wpAny_Assign_Subscript (h.run F fun v h' I' tk hl ok st hv => ?_) (hs _))
  obtain ⟨t, rfl⟩ := hv
  have F' := F.step hl ok st
  refine h₁.run (s := { s with heap := h', toks := tk }) F' fun v₁ h₁' I₁ tk₁ hl₁ ok₁ st₁ hv₁ => ?_
  cases hv₁
  have F₁ := F'.step hl₁ ok₁ st₁
  refine h₂.run (s := { s with heap := h₁', toks := tk₁ }) F₁ fun v₂ h₂' I₂ tk₂ hl₂ ok₂ st₂ hv₂ => ?_
  obtain ⟨t₂, rfl⟩ := hv₂
  have F₂ := F₁.step hl₂ ok₂ st₂
  obtain ⟨its, c, ho, hb, hbi⟩ := listO_at ok₂ hd hJ
  have hsz : its.size = xs.length := by rw [← Array.length_toList, hbi.length]
  refine ki_setAt ho h0.1 (by lia) (by lia) ?_
  have q := PySem.IsL.update (n := c) ho fun xs => xs.setIfInBounds i.toNat (.int y t)
  obtain ⟨oD, eD, jD⟩ := ok₂.dk a hd
  refine b.run (s := { s with heap := _, toks := tk₂ }) hf (F₂.change hf hd jD (by rw [hJ] at jD; exact listO_nc jD) (Heap.SameBut.update ..) q ⟨_, _, rfl, ?_⟩) hp
  rw [Array.toList_setIfInBounds]
  exact ints_set hbi _
theorem EvOk.mod {a b : Int} (h₁ : EvOk S d σ k J e₁ ρ (.val (isInt a))) (h₂ : EvOk S d σ k J e₂ ρ (.val (isInt b))) (hb : 0 < b) : EvOk S d σ k J (.BinOp e₁ .Mod e₂ pos) ρ (.val (isInt (a % b))) :=
  EvOk.two (P := isInt (a % b)) (op := fun l r => .BinOp l .Mod r pos) wpAny_BinOp h₁ h₂ fun ok _ ⟨_, ha⟩ ⟨_, hb'⟩ hp => ha ▸ hb' ▸ PyProof.Rows.mod_int' (by lia) (by rw [Int.fmod_eq_emod_of_nonneg a (by lia)]; exact hp.here ok ⟨_, rfl⟩)
theorem EvOk.fdiv {a b : Int} (h₁ : EvOk S d σ k J e₁ ρ (.val (isInt a))) (h₂ : EvOk S d σ k J e₂ ρ (.val (isInt b))) (hb : 0 < b ∧ b < 1000000) : EvOk S d σ k J (.BinOp e₁ .FloorDiv e₂ pos) ρ (.val (isInt (a / b))) :=
  EvOk.two (P := isInt (a / b)) (op := fun l r => .BinOp l .FloorDiv r pos) wpAny_BinOp h₁ h₂ fun ok _ ⟨_, ha⟩ ⟨_, hb'⟩ hp => ha ▸ hb' ▸ PyProof.Rows.floordiv_int (by lia) (by rw [Int.fdiv_eq_ediv_of_nonneg a (by lia)]; exact hp.here ok ⟨_, rfl⟩) (.inl (PyProof.noPylong_small (by lia)))
theorem EvOk.mul {a b : Int} (h₁ : EvOk S d σ k J e₁ ρ (.val (isInt a))) (h₂ : EvOk S d σ k J e₂ ρ (.val (isInt b))) (hb : b.natAbs < 2 ^ 64) : EvOk S d σ k J (.BinOp e₁ .Mult e₂ pos) ρ (.val (isInt (a * b))) :=
  EvOk.two (P := isInt (a * b)) (op := fun l r => .BinOp l .Mult r pos) wpAny_BinOp h₁ h₂ fun ok _ ⟨_, ha⟩ ⟨_, hb'⟩ hp => ha ▸ hb' ▸ PySem.P.mul_int (hp.here ok ⟨_, rfl⟩) (.of_right (intBits_le hb))
theorem EvOk.pow {a b : Int} (h₁ : EvOk S d σ k J e₁ ρ (.val (isInt a))) (h₂ : EvOk S d σ k J e₂ ρ (.val (isInt b))) (hb : (0 ≤ b ∧ b ≤ 1000000) ∧ a.natAbs < 2 ^ 64) : EvOk S d σ k J (.BinOp e₁ .Pow e₂ pos) ρ (.val (isInt (a ^ b.toNat))) :=
  EvOk.two (P := isInt (a ^ b.toNat)) (op := fun l r => .BinOp l .Pow r pos) wpAny_BinOp h₁ h₂ fun ok _ ⟨_, ha⟩ ⟨_, hb'⟩ hp => ha ▸ hb' ▸ PyProof.Rows.pow_int_small hb.1.1 hb.1.2 hb.2 (hp.here ok ⟨_, rfl⟩)
theorem EvOk.addE {a : Int} {q q' : Int → Prop} (h₁ : EvOk S d σ k J e₁ ρ (.val (isInt a))) (h₂ : EvOk S d σ k J e₂ ρ (.val (exI q))) (hq : ∀ i, q i → q' (a + i)) : EvOk S d σ k J (.BinOp e₁ .Add e₂ pos) ρ (.val (exI q')) :=
  EvOk.two (P := exI q') (op := fun l r => .BinOp l .Add r pos) wpAny_BinOp h₁ h₂ fun ok _ ⟨_, ha⟩ ⟨i, _, hb, hi⟩ hp => ha ▸ hb ▸ PySem.P.add_int (hp.here ok ⟨_, _, rfl, hq i hi⟩)
end
end Mine
end
section
open PySem PySem.W PyProof.Rows PySem.Calls PyProof PySem.Spec PyProof.Rows.LCg
namespace Mine
noncomputable abbrev ch (c : Nat) : Str := ⟨#[c]⟩
theorem seqIndex_pos {i : Int} {n : Nat} (h0 : 0 ≤ i) (h1 : i < n) : seqIndex? i n = some i.toNat := by
  unfold seqIndex?
  rw [if_neg (show ¬ i < 0 by lia)]
  simp [h0, h1]
/-- a sign of this kind -/
noncomputable def exC (q : Nat → Prop) : VP := ⟨fun _ v => ∃ c t, v = .str (ch c) t ∧ q c, fun _ h => h⟩
section
variable {S : St} {d d' : Mut} {σ σi : Sig} {k : Nat} {J J' J'' : JM} {ρ ρ' : Rho} {P P' : VP} {r : BOut} {e e₁ e₂ : Expr} {pos np tp ap pp sp : Pos} {x y : Str} {p₁ : Pos} {l : List Env} {I I₀ I' : IM} {h₀ h h' : Heap} {s : Shared} {E : Value → Shared → Prop} {rest body : List Stmt} {A : Around} {pl : Pl} {m : Str → Option Value}
theorem EvOk.lenS (hk : σ.scope.names.lookup (u "len") = some .globalImplicit) (ha : ArgsOk S d σ k J [e] ρ [isStr x]) (hs : PlainArgs [e]) (hz : x.length ≤ 2 ^ 20) : EvOk S d σ k J (.Call (.Name (u "len") np) [e] [] pos) ρ (.val (isInt x.length)) :=
  EvOk.callBlt (id := "len") (P := (isInt x.length)) (EvOk.blt hk (fun _ => by kernel_rfl!) (by kernel_rfl!) (by decide +kernel) (by kernel_rfl!)) hs ha fun {A l pl h₀ I₀ I m s Q E vs} F hv hp => by
    obtain ⟨v, rfl, ⟨t, rfl⟩⟩ := hv.one
    exact PySem.P.len_str (by lia) (hp.here (tk := _) F.ok ⟨_, rfl⟩)
theorem EvOk.itemS {i : Int} {c : Nat} (h₁ : EvOk S d σ k J e₁ ρ (.val (isStr x))) (h₂ : EvOk S d σ k J e₂ ρ (.val (isInt i))) (hs : IdxE e₂) (hi : -(2 ^ 62) ≤ i ∧ i < 2 ^ 62) (hc : (seqIndex? i x.length).bind (x.cps[·]?) = some c) : EvOk S d σ k J (.Subscript e₁ e₂ pos) ρ (.val (isStr (ch c))) :=
  EvOk.twoF (P := isStr (ch c)) (op := fun l r => .Subscript l r pos) (fun h => Subscript_ h) h₁ h₂ fun {A l pl h₀ I₀ I m s Q E x' v} F ⟨t', hx⟩ ⟨t, hy⟩ hp => by
    subst hx; subst hy
    refine tail_any (typeIs_str _ _ _) PySem.F.slot_str_getitem.lookup (PySem.P.getItem_str (by simp; lia) hc (hp.here (tk := _) F.ok ⟨_, rfl⟩)) (hs _ _)
theorem EvOk.itemSE (h₁ : EvOk S d σ k J e₁ ρ (.val (isStr x))) (h₂ : EvOk S d σ k J e₂ ρ (.val (exI fun i => 0 ≤ i ∧ i < x.length))) (hs : IdxE e₂) (hz : x.length ≤ 2 ^ 20) : EvOk S d σ k J (.Subscript e₁ e₂ pos) ρ (.val (exC fun c => c ∈ x.cps.toList)) :=
  EvOk.twoF (P := exC fun c => c ∈ x.cps.toList) (op := fun l r => .Subscript l r pos) (fun h => Subscript_ h) h₁ h₂ fun {A l pl h₀ I₀ I m s Q E x' v} F ⟨t', hx⟩ ⟨i, t, hy, h0, h1⟩ hp => by
    subst hx; subst hy
    have hl : i.toNat < x.cps.size := by
      have : x.length = x.cps.size := rfl
      lia
    have hc : (seqIndex? i x.length).bind (x.cps[·]?) = some x.cps[i.toNat] := by
      rw [seqIndex_pos h0 h1]
      exact Array.getElem?_eq_getElem hl
    refine tail_any (typeIs_str _ _ _) PySem.F.slot_str_getitem.lookup (PySem.P.getItem_str (by simp; lia) hc (hp.here (tk := _) F.ok ⟨_, _, rfl, ?_⟩)) (hs _ _)
    simp
theorem EvOk.ordE {q : Nat → Prop} (hk : σ.scope.names.lookup (u "ord") = some .globalImplicit) (ha : ArgsOk S d σ k J [e] ρ [exC q]) (hs : PlainArgs [e]) : EvOk S d σ k J (.Call (.Name (u "ord") np) [e] [] pos) ρ (.val (exI fun i => ∃ c : Nat, i = c ∧ q c)) :=
  EvOk.callBlt (id := "ord") (P := (exI fun i => ∃ c : Nat, i = c ∧ q c)) (EvOk.blt hk (fun _ => by kernel_rfl!) (by kernel_rfl!) (by decide +kernel) (by kernel_rfl!)) hs ha fun {A l pl h₀ I₀ I m s Q E vs} F hv hp => by
    obtain ⟨v, rfl, c, t, rfl, hq⟩ := hv.one
    exact PySem.P.ord_of_char (hp.here (tk := _) F.ok ⟨_, _, rfl, _, rfl, hq⟩)
theorem EvOk.ordS {c : Nat} (hk : σ.scope.names.lookup (u "ord") = some .globalImplicit) (ha : ArgsOk S d σ k J [e] ρ [isStr (ch c)]) (hs : PlainArgs [e]) : EvOk S d σ k J (.Call (.Name (u "ord") np) [e] [] pos) ρ (.val (isInt c)) :=
  EvOk.callBlt (id := "ord") (P := isInt c) (EvOk.blt hk (fun _ => by kernel_rfl!) (by kernel_rfl!) (by decide +kernel) (by kernel_rfl!)) hs ha fun {A l pl h₀ I₀ I m s Q E vs} F hv hp => by
    obtain ⟨v, rfl, t, rfl⟩ := hv.one
    exact PySem.P.ord_of_char (hp.here (tk := _) F.ok ⟨_, rfl⟩)
theorem cmp_eqS : CmpIs S d J .Eq (isStr x) (isStr y) (x == y) := fun ok _ ⟨_, ha⟩ ⟨_, hb⟩ hp => ha ▸ hb ▸ PyProof.Rows.eq_str (hp.here (tk := _) ok rfl)
noncomputable def strIn (y x : Str) : Bool := !(Builtin.Str.occurrences x y 0 x.length 1).isEmpty
theorem cmp_inS : CmpIs S d J .In (isStr y) (isStr x) (strIn y x) := fun ok _ ⟨_, ha⟩ ⟨_, hb⟩ hp => ha ▸ hb ▸ PySem.P.in_str (hp.here (tk := _) ok rfl)
theorem cmp_notInS : CmpIs S d J .NotIn (isStr y) (isStr x) (!strIn y x) := fun ok _ ⟨_, ha⟩ ⟨_, hb⟩ hp => ha ▸ hb ▸ PySem.P.notIn_str (hp.here (tk := _) ok rfl)
theorem cmp_neB {a b : Bool} : CmpIs S d J .NotEq (isBool a) (isBool b) (a != b) := fun {A l I s Q E v v'} ok hh ha hb hp => by
  cases ha; cases hb
  exact PyProof.Rows.ne_bool (hp.here (tk := _) ok rfl)
theorem EvOk.addS (h₁ : EvOk S d σ k J e₁ ρ (.val (isStr x))) (h₂ : EvOk S d σ k J e₂ ρ (.val (isStr y))) (hx : (x.length == 0) = false ∧ (y.length == 0) = false) (hz : x.length + y.length ≤ 2 ^ 20) : EvOk S d σ k J (.BinOp e₁ .Add e₂ pos) ρ (.val (isStr (x ++ y))) :=
  EvOk.two (P := isStr (x ++ y)) (op := fun l r => .BinOp l .Add r pos) wpAny_BinOp h₁ h₂ fun ok _ ⟨_, ha⟩ ⟨_, hb⟩ hp => ha ▸ hb ▸ PySem.P.add_str (by
    rw [hx.1, hx.2]
    exact ⟨by rw [PySem.strLen_append, sizeLine_eq]; lia, hp.here ok ⟨_, rfl⟩⟩)
/-- a bound of a slice -/
structure PartOk (S : St) (d : Mut) (σ : Sig) (k : Nat) (J : JM) (e : Option Expr) (ρ : Rho) (a : Option Int) : Prop where
  run : ∀ {A : Around} {l : List Env} {pl : Pl} {h₀ : Heap} {I₀ I : IM} {m : Str → Option Value} {s : Shared} {Q E : Value → Shared → Prop},
    FrameOk S d σ k J ρ A l pl h₀ I₀ I m s.heap → (∀ v h' I' tk, Le I I' → Ok S d I' J (pl.fe :: l) h' → Step d (pl.fe :: l) s.heap h' → IsPart v a → Q v { s with heap := h', toks := tk }) → wpAny (model pw S.w) A (evalPart e pl.env) Q E s
theorem PartOk.none : PartOk S d σ k J .none ρ .none := .mk fun F hp => wpAny_pure (hp _ _ _ _ (Le.refl _) F.ok (Step.refl _ _ _) .none)
theorem PartOk.some {a : Int} (h : EvOk S d σ k J e ρ (.val (isInt a))) : PartOk S d σ k J (.some e) ρ (.some a) := .mk fun F hp => h.run F fun v h' I' tk hl ok st ⟨t, hv⟩ => by
  subst hv
  exact hp _ h' I' tk hl ok st (.int _ _)
/-- xs[a:b] -/
theorem EvOk.sliceL {lo hi : Option Expr} {a b : Option Int} {xs ms : List Int} (h₁ : EvOk S d σ k J e₁ ρ (.val (isList xs))) (hl : PartOk S d σ k J lo ρ a) (hh : PartOk S d σ k J hi ρ b) (hz : xs.length ≤ 2 ^ 20) (hm : ∀ vs, IntsAre vs xs → IntsAre (slicePick vs.toArray a b none).toList ms)
    (hs : ∀ o n, subscripted (.Slice lo hi none sp) false (.ref o) (.ref n) = operate [.ref n, .ref o] (getItem (.ref o) (.ref n))) (ht : ∀ o r, letTemporaryGo e₁ (.ref o) r = pure ()) : EvOk S d σ k J (.Subscript e₁ (.Slice lo hi none sp) pos) ρ (.val (isList ms)) := .mk fun {A l pl h₀ I₀ I m s Q E} F hp => by
  refine Subscript_ (h₁.run F fun v h₁ I₁ tk₁ hl₁ ok₁ st₁ hv => wpAny_Slice ?_)
  have F₁ := F.step hl₁ ok₁ st₁
  refine hl.run (s := { s with heap := h₁, toks := tk₁ }) F₁ fun v₂ h₂ I₂ tk₂ hl₂ ok₂ st₂ p₂ => ?_
  have F₂ := F₁.step hl₂ ok₂ st₂
  refine hh.run (s := { s with heap := h₂, toks := tk₂ }) F₂ fun v₃ h₃ I₃ tk₃ hl₃ ok₃ st₃ p₃ => wpAny_pure ?_
  have F₃ := F₂.step hl₃ ok₃ st₃
  obtain ⟨c, its, n, rfl, _, hc, hci⟩ := isList_at ok₃ ((isList xs).mono (hl₂.trans hl₃) hv)
  have hsz : its.size = xs.length := by rw [← Array.length_toList, hci.length]
  refine slice_list (s := { s with heap := h₃, toks := tk₃ }) F₃.fr (news_all _ _ _) hc p₂ p₃ (fun h' F' N' => ?_) (hs _ _) (ht _) (by rw [hsz, sizeLine_eq]; lia)
  have nb : h₃.get? (h₃.objs.size + 1) = none := by
    cases q : h₃.get? (h₃.objs.size + 1) with
    | none => rfl
    | some o => exact absurd (Heap.lt_size q) (Nat.not_lt.mpr (Nat.le_succ _))
  obtain ⟨q1, q2, q3⟩ := F₃.bridge1 F' N' nb
  refine hp _ h' _ _ (((hl₁.trans hl₂).trans hl₃).trans q2) q1 (((st₁.trans st₂).trans st₃).trans q3) ⟨_, _, _, rfl, IM.put_self _ _ _, ?_⟩
  simpa using hm _ hci
/-- text[i:] -/
theorem EvOk.sliceS {i : Int} (h₁ : EvOk S d σ k J e₁ ρ (.val (isStr x))) (h₂ : EvOk S d σ k J e₂ ρ (.val (isInt i))) (hz : x.length ≤ 2 ^ 20)
    (hs : ∀ y t n, subscripted (.Slice (some e₂) none none sp) false (.str y t) (.ref n) = operate [.ref n, .str y t] (getItem (.str y t) (.ref n))) (ht : ∀ y t r, letTemporaryGo e₁ (.str y t) r = pure ()) : EvOk S d σ k J (.Subscript e₁ (.Slice (some e₂) none none sp) pos) ρ (.val (isStr (Txt.slice x (some i) none))) := .mk fun {A l pl h₀ I₀ I m s Q E} F hp => by
  refine Subscript_ (h₁.run F fun v h₁ I₁ tk₁ hl₁ ok₁ st₁ ⟨t, hv⟩ => wpAny_Slice ?_)
  subst hv
  have F₁ := F.step hl₁ ok₁ st₁
  refine h₂.run (s := { s with heap := h₁, toks := tk₁ }) F₁ fun v₂ h₂ I₂ tk₂ hl₂ ok₂ st₂ ⟨t₂, p₂⟩ => wpAny_pure (wpAny_pure ?_)
  subst p₂
  have F₂ := F₁.step hl₂ ok₂ st₂
  refine slice_strN_sn (s := { s with heap := h₂, toks := tk₂ }) F₂.fr (news_all _ _ _) (fun h' t' k F' N' => ?_) (hs _ _ _) (ht _ _) (by rw [sizeLine_eq]; lia)
  obtain ⟨q1, q3⟩ := F₂.bridge0 F' N'
  exact hp _ h' _ _ (hl₁.trans hl₂) q1 ((st₁.trans st₂).trans q3) ⟨_, rfl⟩
theorem str_iter {v : Value} (h : (isStr x).p I v) : (isIter (x.cps.toList.map fun c => isStr (ch c))).p I v := by
  obtain ⟨t, rfl⟩ := h
  have key : IterV I (.str x t) (x.cps.toList.map fun c => isStr (ch c)) := by
    intro w A s Q E hh im hq
    have hP : ∀ (i : Nat) (v : Value) (Pi : VP), SignAt x i v → (x.cps.toList.map fun c => isStr (ch c))[i]? = some Pi → Pi.p I v := fun i v Pi ⟨c, u, hc, hv⟩ hi => by
      rw [List.getElem?_map] at hi
      obtain ⟨c', hc', rfl⟩ := Option.map_eq_some_iff.mp hi
      rw [Array.getElem?_toList, hc] at hc'
      cases hc'
      exact ⟨u, hv⟩
    have hl : (x.cps.toList.map fun c => isStr (ch c)).length = x.cps.size := by simp
    cases ha : x.cps.all (· < 128)
    · exact wpAny_pyIter_wide ha (hq _ [s.heap.objs.size] (SignAt x) (fun i h => h.IsStrIter s.heap.objs.size "str_iterator" x t i) (fun A' hA => by rw [hl]; exact Walks.strWide hA _ x t) (fun b hb => .inl (by simpa using hb)) (fun i h ⟨o, e, hc, hd⟩ => ⟨o, e, by unfold plainIt; rw [hd, hc]; rfl⟩) hP ⟨_, Heap.get?_push_size _ rfl, rfl, rfl⟩)
    · exact wpAny_pyIter_ascii ha (hq _ [s.heap.objs.size] (SignAt x) (fun i h => h.IsStrIter s.heap.objs.size "str_ascii_iterator" x t i) (fun A' hA => by rw [hl]; exact Walks.strAscii hA _ x t) (fun b hb => .inl (by simpa using hb)) (fun i h ⟨o, e, hc, hd⟩ => ⟨o, e, by unfold plainIt; rw [hd, hc]; rfl⟩) hP ⟨_, Heap.get?_push_size _ rfl, rfl, rfl⟩)
  exact @key
theorem tup_iter {Ps : List VP} {v : Value} (h : (isTup Ps).p I v) : (isIter Ps).p I v := by
  obtain ⟨a, vs, n, rfl, hI, ha⟩ := h
  have key : IterV I (.ref a) Ps := by
    intro w A s Q E hh im hq
    have hl : s.heap.IsTuple a vs.toArray := ⟨_, im _ _ hI, rfl, n, rfl⟩
    have hlt : a ≠ s.heap.objs.size := Nat.ne_of_lt (Heap.lt_size (im _ _ hI))
    have hlen : vs.toArray.size = Ps.length := by rw [List.size_toArray, ha.len]
    refine wpAny_pyIter_tuple hl (hq _ [s.heap.objs.size, a] (fun i v => vs.toArray[i]? = some v) (fun i h => h.IsTupleIter s.heap.objs.size a i ∧ h.IsTuple a vs.toArray) (fun A' hA => ?_) (fun b hb => ?_) (fun i h st => let ⟨o, e, hc, hd⟩ := st.1; ⟨o, e, by unfold plainIt; rw [hd, hc]; rfl⟩) (fun i v Pi hP hi => ?_) ⟨⟨_, Heap.get?_push_size _ rfl, rfl, rfl⟩, hl.push _⟩)
    · rw [← hlen]; exact Walks.tuple hA _ a hlt vs.toArray
    · rcases List.mem_cons.mp hb with rfl | hb
      · exact .inl rfl
      · rw [List.mem_singleton.mp hb]; exact .inr ⟨_, hI⟩
    · exact ha.at2 hi (by simpa using hP)
  exact @key
end
end Mine
end
section
open PySem PySem.W PyProof.Rows PySem.Calls PyProof PySem.Spec PyProof.Rows.LCg
namespace Mine
noncomputable abbrev ik (S : St) : KeyKind pw S.w Int := intKind pw S.w
noncomputable def anyH : VP := ⟨fun _ v => handedIn v = true, fun _ h => h⟩
noncomputable abbrev isSynK (kd : Str) : VP := isInst 210 [(u "kind", isStr kd), (u "match", anyH), (u "flags", isStr (u ""))]
/-- the rows of a syntax table: a dict, the kinds of its values -/
noncomputable def rowsP (S : St) (n : Nat) (sp : Int → Option Str) (I : IM) (o : Obj) : Prop := ∃ (es : Array DictEntry) (ep : Nat) (kvs : List (Int × Value)), o.ExactDict ∧ o.data = .dict es ep ∧ KeysOf (ik S) es ∧ Pairs (ik S) es.toList kvs ∧ (kvs.map fun kv => kv.1).Nodup ∧ kvs.length ≤ n ∧
    ∀ c, (sp c = none → valueAt kvs c = none) ∧ ∀ kd, sp c = some kd → ∃ v, valueAt kvs c = some v ∧ (isSynK kd).p I v
theorem rowsP.mono {S : St} {n : Nat} {sp : Int → Option Str} {I I' : IM} {o : Obj} (k : Le I I') (h : rowsP S n sp I o) : rowsP S n sp I' o := by
  obtain ⟨es, ep, kvs, a, b, c, d, e, f, g⟩ := h
  exact ⟨es, ep, kvs, a, b, c, d, e, f, fun x => ⟨(g x).1, fun kd hk => let ⟨v, p, q⟩ := (g x).2 kd hk; ⟨v, p, (isSynK kd).mono k q⟩⟩⟩
noncomputable def rowsO (S : St) (n : Nat) (sp : Int → Option Str) : OP := ⟨rowsP S n sp, rowsP.mono⟩
theorem valueAt_stored {K : Type} [DecidableEq K] (kvs : List (K × Value)) (k : K) (v : Value) (x : K) : valueAt (stored kvs k v) x = if x = k then some v else valueAt kvs x := by
  unfold stored
  by_cases h : kvs.any (fun kv => kv.1 = k) = true
  · rw [if_pos h]
    unfold valueAt
    induction kvs with
    | nil => simp at h
    | cons a r ih =>
      obtain ⟨a1, a2⟩ := a
      by_cases hk : a1 = k
      · subst hk
        by_cases hx : x = a1
        · subst hx; simp
        · have hx' : ¬ a1 = x := fun e => hx e.symm
          simp only [List.map_cons, if_true, List.find?_cons, hx', decide_false, hx, if_false]
          by_cases h2 : r.any (fun kv => kv.1 = a1) = true
          · have := ih h2
            rw [if_neg hx] at this
            exact this
          · have : (r.map fun kv => if kv.1 = a1 then (kv.1, v) else kv) = r := by
              refine (List.map_congr_left fun kv hkv => ?_).trans (List.map_id r)
              rw [if_neg fun e => h2 (List.any_eq_true.mpr ⟨kv, hkv, by simpa using e⟩)]; rfl
            rw [this]
      · by_cases hx : a1 = x
        · have hxk : ¬ x = k := fun e => hk (hx.trans e)
          subst hx
          simp [hk]
        · simp only [List.map_cons, if_neg hk, List.find?_cons, hx, decide_false]
          refine ih ?_
          simpa [hk] using h
  · rw [if_neg h]
    unfold valueAt
    rw [List.find?_append]
    by_cases hx : x = k
    · subst hx
      have : kvs.find? (fun kv => kv.1 = x) = none := by
        rw [List.find?_eq_none]
        intro kv hkv e
        exact h (List.any_eq_true.mpr ⟨kv, hkv, e⟩)
      rw [this]; simp
    · have hx' : ¬ k = x := fun e => hx e.symm
      simp [hx, hx']
section
variable {S : St} {d d' : Mut} {σ σi : Sig} {k : Nat} {J J' J'' : JM} {ρ ρ' : Rho} {P P' : VP} {r : BOut} {e e₁ e₂ : Expr} {pos np tp ap pp sp : Pos} {x y : Str} {p₁ : Pos} {l : List Env} {I I₀ I' : IM} {h₀ h h' : Heap} {s : Shared} {Q E : Value → Shared → Prop} {rest body : List Stmt} {A : Around} {pl : Pl} {m : Str → Option Value} {rb : Addr} {n : Nat} {sy : Int → Option Str}
theorem rowsO_nc {o : Obj} (h : (rowsO S n sy).p I o) : ∀ v, o.data ≠ .cell v := fun v q => by
  obtain ⟨es, ep, kvs, _, hd, _⟩ := h
  rw [hd] at q; cases q
theorem rows_at {o : Obj} (h : (rowsO S n sy).p I o) {hp : Heap} (e : hp.get? rb = some o) : ∃ kvs, hp.DictOf (ik S) rb kvs ∧ kvs.length ≤ n ∧ ∀ c, (sy c = none → valueAt kvs c = none) ∧ ∀ kd, sy c = some kd → ∃ v, valueAt kvs c = some v ∧ (isSynK kd).p I v :=
  let ⟨es, ep, kvs, a, b, c, d, e', f, g⟩ := h; ⟨kvs, ⟨o, es, ep, e, a, b, c, d, e'⟩, f, g⟩
theorem rows_of {kvs : List (Int × Value)} {hp : Heap} (h : hp.DictOf (ik S) rb kvs) (hl : kvs.length ≤ n) (hs : ∀ c, (sy c = none → valueAt kvs c = none) ∧ ∀ kd, sy c = some kd → ∃ v, valueAt kvs c = some v ∧ (isSynK kd).p I v) : ∃ o, hp.get? rb = some o ∧ (rowsO S n sy).p I o :=
  let ⟨o, es, ep, e, a, b, c, d, e'⟩ := h; ⟨o, e, es, ep, kvs, a, b, c, d, e', hl, hs⟩
/-- rows[c] = syntax -/
theorem Blk.setRow {c : Int} {kd : Str} (h : EvOk S d σ k J e ρ (.val (isSynK kd))) (h₁ : EvOk S d σ k J e₁ ρ (.val (isV (.ref rb)))) (h₂ : EvOk S d σ k J e₂ ρ (.val (isInt c))) (hd : d rb) (hJ : J rb = rowsO S n sy) (hn : n ≤ 2 ^ 16)
    (hs : ∀ env, swapsWith e (some (.Subscript e₁ e₂ sp)) pos.line env = pure false) (b : Blk S d σ k (Mine.upd J rb (rowsO S (n + 1) (fun x => if x = c then some kd else sy x))) rest ρ r J') : Blk S d σ k J (.Assign [.Subscript e₁ e₂ sp] e pos :: rest) ρ r J' := .mk fun {A l pl h₀ I₀ I m s Q E} hf F hp => by
  refine wpAny_execs_cons (wpAny_Assign_Subscript (h.run F fun v h' I' tk hl ok st hv => ?_) (hs _))
  have F' := F.step hl ok st
  refine h₁.run (s := { s with heap := h', toks := tk }) F' fun v₁ h₁' I₁ tk₁ hl₁ ok₁ st₁ hv₁ => ?_
  cases hv₁
  have F₁ := F'.step hl₁ ok₁ st₁
  refine h₂.run (s := { s with heap := h₁', toks := tk₁ }) F₁ fun v₂ h₂' I₂ tk₂ hl₂ ok₂ st₂ hv₂ => ?_
  obtain ⟨t₂, rfl⟩ := hv₂
  have F₂ := F₁.step hl₂ ok₂ st₂
  obtain ⟨o, ho, hj⟩ := ok₂.dk rb hd
  have hj' := hj
  rw [hJ] at hj'
  obtain ⟨kvs, hD, hkl, hsp⟩ := rows_at hj' ho
  have hv2 := (isSynK kd).mono (hl₁.trans hl₂) hv
  refine wpAny_setItem_pairs (knd := ik S) (k := c) (by simp [intKind, Value.isInt]) hD (fun h₃ hD₃ hs₃ => ?_) (by rw [sizeLine_eq]; lia)
  obtain ⟨o₃, ho₃, hr₃⟩ := rows_of (S := S) (I := I₂) (n := n + 1) (sy := fun x => if x = c then some kd else sy x) hD₃ (Nat.le_trans (stored_length_le _ _ _) (Nat.succ_le_succ hkl)) fun x => by
    rw [valueAt_stored]
    by_cases q : x = c
    · subst q
      simp only [if_true]
      exact ⟨fun z => by simp at z, fun kd' z => by simp at z; subst z; exact ⟨v, rfl, hv2⟩⟩
    · simp only [if_neg q]
      exact hsp x
  exact b.run (s := { s with heap := h₃, toks := _ }) hf (F₂.change hf hd hj (rowsO_nc hj') hs₃ ho₃ hr₃) hp
/-- one attribute of a new object more -/
theorem set_one {C dx xa : Addr} {a : Str} {v : Value} {es : List DictEntry} {c : Nat} {fs₀ : List (Str × VP)} {Q : Unit → Shared → Prop} (K : ClsSets C) (hd : ¬ d dx) (hf : pl.IsFn) (ht : ∀ Pm, takerIn (Kf Pm) C a = some none) (hh : handedIn v = true) (hnew : (fs₀.map (·.1)).contains a = false) (hz : fs₀.length < 64)
    (F : FrameOk S (plus d dx) σ k (pin J dx (dictOf es c)) ρ A l pl h₀ I₀ I m s.heap) (hx : I xa = some (instObj C dx)) (hfs : FieldsAre I fs₀ es)
    (hQ : ∀ h' tk hs tk', FrameOk S (plus d dx) σ k (pin J dx (dictOf (es ++ [⟨hs, .str a tk', v⟩]) (c + 1))) ρ A l pl h₀ I₀ I m h' → (∀ b o, s.heap.get? b = some o → b ≠ pl.L → b ≠ dx → h'.get? b = some o) → Q () { s with heap := h', toks := tk }) : wpAny (model pw S.w) A (setAttr (.ref xa) a v) Q E s := by
  have ok₂ := F.ok
  have ex := ok₂.imm _ _ hx
  have ed := ok₂.get_pin
  have dL : dx ≠ pl.L := fun q => F.frAt.2.1 (q ▸ .inr rfl)
  have dG : S.G.get? dx = none := by
    cases q : S.G.get? dx with
    | none => rfl
    | some o => have := ok₂.base _ _ q; rw [ok₂.dI dx (.inr rfl)] at this; cases this
  obtain ⟨g1, g2⟩ := fields_get hfs hnew
  obtain ⟨g3, g4⟩ := g2 (PyData.keyHash S.w.params a) (.str a (s.toks + 1)) v
  refine set_dict (C := C) (x := xa) (ox := instObj C dx) (dx := dx) F.fr S.kin (rest_news ed dL dG) ⟨ex, rfl, rfl, ed⟩ rfl (K.set _) (K.over _) (ht _) (K.dict _) (by rw [g1]; rfl)
    (es' := es ++ [⟨PyData.keyHash S.w.params a, .str a (s.toks + 1), v⟩]) (n' := c + 1) (by rw [g3, g4]) (.head fun p hp => by simpa using (List.mem_filter.mp hp).2) (by rw [List.length_append, hfs.length]; simp only [List.length_cons, List.length_nil]; lia) fun h₃ F₃ N₃ => ?_
  have kp : ∀ b o, s.heap.get? b = some o → b ≠ pl.L → ¬ (b = dx) → h₃.get? b = some o := fun b o e hb hbd => by
    cases q : S.G.get? b with
    | some o' =>
      have := F.fr.keep _ _ q
      rw [e] at this; cases this
      exact F₃.keep _ _ q
    | none => exact (N₃ (b, o) (.tail _ (List.mem_filter.mpr ⟨all_mem e hb q, by simpa using hbd⟩))).1
  have ed₃ : h₃.get? dx = some (dictOf (es ++ [⟨PyData.keyHash S.w.params a, .str a (s.toks + 1), v⟩]) (c + 1)) := (N₃ _ (.head _)).1
  have off : I dx = none ∧ ¬ d dx ∧ ¬ IsTab dx ∧ ∀ env ∈ (pl.fe :: l), env.frame ≠ some dx := ⟨ok₂.dI _ (.inr rfl), hd, ok₂.dT _ (.inr rfl), fun env he q => by
    obtain ⟨_, L', _, _, _, hL', _, c, _⟩ := ok₂.fr env he
    rw [hL'] at q
    exact c (.inr (Option.some.inj q))⟩
  have ok₃ : Ok S (plus d dx) I (pin J dx (dictOf (es ++ [⟨PyData.keyHash S.w.params a, .str a (s.toks + 1), v⟩]) (c + 1))) (pl.fe :: l) h₃ :=
    Ok.pinned ((ok₂.less (pin_more hd)).but2 (X := fun b => b = dx) F.ff (fun b hb => by subst hb; exact off) kp F₃.ns F.apart) off.1 off.2.1 off.2.2.1 off.2.2.2 ed₃
  have st₃ : Step (plus d dx) (pl.fe :: l) s.heap h₃ := fun b o e => by
    by_cases q : b = dx
    · exact .inr (.inr (.inl (.inr q)))
    · by_cases q' : b = pl.L
      · subst q'
        exact .inr (.inr (.inr ⟨⟨_, .head _, F.ff⟩, fun m₂ hm₂ => by rw [ns_same hm₂ F.fr.ns]; exact F₃.ns⟩))
      · exact .inl (kp b o e q' q)
  exact hQ h₃ _ _ _ (F.jump (h' := h₃) (J' := pin J dx (dictOf (es ++ [⟨PyData.keyHash S.w.params a, .str a (s.toks + 1), v⟩]) (c + 1))) hf (Le.refl _) ok₃ st₃ fun _ c P _ => pin_cells (Le.refl _)) kp
noncomputable abbrev st_tabInit : Stmt := inCls 34 0
theorem D_tabInit : DefIs 239 (fdO st_tabInit (u "SyntaxTable.__init__") (.ref 232) (.str (u "emacs.syntax") 428) (.ref 238)) (sigO st_tabInit (u "SyntaxTable.__init__") (.ref 238)) (bodyOf st_tabInit) := defIs_of (fun _ => by kernel_rfl!) (by kernel_rfl!) (fun _ => by kernel_rfl!)
theorem K_tab : ClsMake 291 239 where
  set _ := by kernel_rfl!
  over _ := by kernel_rfl!
  dict _ := by kernel_rfl!
  make _ := by kernel_rfl!
  init _ := by kernel_rfl!
  fn _ := by kernel_rfl!
  keep _ := by kernel_rfl!
/-- a syntax table whose rows may be turned -/
noncomputable abbrev isTab (rb : Addr) : VP := isInst 291 [(u "parent", isNone), (u "rows", isV (.ref rb))]
theorem rowsO_new : (rowsO S 0 fun _ => none).p I ({ cls := .type "dict", data := .dict #[] } : Obj) :=
  ⟨#[], 0, [], ⟨rfl, rfl, rfl⟩, rfl, fun e he => by simp at he, .nil, by simp, Nat.le_refl _, fun c => ⟨fun _ => rfl, fun kd h => by cases h⟩⟩
theorem low : sysModules < S.G.objs.size := Nat.lt_trans (by decide) (Heap.lt_size (S.kin 21 _ (show (Kf S.w.params).lookup 21 = some _ from rfl)))
/-- SyntaxTable() -/
theorem call_tab (F : FrameOk S d σ (k + 2) J ρ A l pl h₀ I₀ I m s.heap)
    (hp : ∀ xa rb h' I' tk, Le I I' → ¬ d rb → s.heap.get? rb = none → (isTab rb).p I' (.ref xa) → Ok S (plus d rb) I' (Mine.upd J rb (rowsO S 0 fun _ => none)) (pl.fe :: l) h' → Step d (pl.fe :: l) s.heap h' → (rb == sysModules) = false → Q (.ref xa) { s with heap := h', toks := tk }) :
    wpAny (model pw S.w) A (call (.ref 291) [] []) Q E s := by
  have keep : ∀ b o, S.G.get? b = some o → s.heap.get? b = some o := F.keepG
  have X : (Kf S.w.params).In s.heap := S.kin.keeps keep
  obtain ⟨hh, g, dd, t, os⟩ := s
  dsimp only at F keep X hp
  refine wpAny_call (make_core (makes_of X (K_tab.make _)) (looks_findIn X (K_tab.init _)) (fun self => bind_fn X self (beq_iff_eq.mp (K_tab.fn _))) (.inl rfl) ?_)
  generalize hxa : hh.objs.size + 1 = xa
  generalize hdx : hh.objs.size = dx at *
  have nd : hh.get? dx = none := by rw [← hdx]; exact get_size _
  have nx : (hh.push emptyDict).get? xa = none := by rw [← hxa, ← hdx, ← Heap.size_push hh emptyDict]; exact get_size _
  have kp : ∀ b o, hh.get? b = some o → ((hh.push emptyDict).push (instObj 291 dx)).get? b = some o := fun b o e => Heap.get?_push_of_some _ (Heap.get?_push_of_some _ e)
  have nx₀ : hh.get? xa = none := by
    cases q : hh.get? xa with
    | none => rfl
    | some o => rw [Heap.get?_push_of_some _ q] at nx; cases nx
  have ed : ((hh.push emptyDict).push (instObj 291 dx)).get? dx = some (dictOf [] 0) := Heap.get?_push_of_some _ (by rw [← hdx]; exact Heap.get?_push_size _ rfl)
  have ex : ((hh.push emptyDict).push (instObj 291 dx)).get? xa = some (instObj 291 dx) := by
    rw [← hxa, ← hdx, ← Heap.size_push hh emptyDict]; exact Heap.get?_push_size _ rfl
  obtain ⟨d1, d2, d3, d4⟩ := F.ok.off nd
  obtain ⟨x1, x2, x3, x4⟩ := F.ok.off nx₀
  have hne : xa ≠ dx := by rw [← hxa]; exact Nat.succ_ne_self _
  have ok₁ := (F.ok.grow kp).put x1 ex x2 x3 x4
  have ok₂ := Ok.pinned (dx := dx) (od := dictOf [] 0) ok₁ (by rw [IM.put_ne (Ne.symm hne)]; exact d1) d2 d3 d4 ed
  have le₁ : Le I (I.put xa (instObj 291 dx)) := Le.put x1
  refine code_def (s := ⟨(hh.push emptyDict).push (instObj 291 dx), g, dd, t, os⟩) (xs := [u "self", u "parent"]) (Ps := [isV (.ref xa)]) (DPs := [isNone]) (dvs := [.none]) D_tabInit (by kernel_rfl!) F.cx.make ok₂ (.cons rfl .nil) (kp_binds ((S.kin.keeps keep).keeps kp) (fun _ => by kernel_rfl!)) (by kernel_rfl!) (by decide) (.cons rfl .nil) fun pl' h₂ m₂ tk₂ hf F₂ hk₂ => ?_
  show wpAny _ _ (execs [.Assign [.Attribute (.Name (u "self") _) (u "parent") _] (.Name (u "parent") _) _, .Assign [.Attribute (.Name (u "self") _) (u "rows") _] (.Dict [] [] _) _] pl'.env) _ _ _
  have exI : (I.put xa (instObj 291 dx)) xa = some (instObj 291 dx) := IM.put_self _ _ _
  refine wpAny_execs_cons (plainObj_wpAny_Assign_Attribute ((EvOk.name (P := isNone) (by kernel_rfl!) (lk_tail (by kernel_rfl!) lk_head) (by kernel_rfl!)).run (s := ⟨h₂, g, dd, tk₂, os⟩) F₂ fun v h₃ I₃ tk₃ hl₃ ok₃ st₃ hv₃ => ?_) rfl)
  cases hv₃
  have F₃ := F₂.step hl₃ ok₃ st₃
  refine (EvOk.name (P := isV (.ref xa)) (by kernel_rfl!) lk_head (by kernel_rfl!)).run (s := ⟨h₃, g, dd, tk₃, os⟩) F₃ fun v h₄ I₄ tk₄ hl₄ ok₄ st₄ hv₄ => ?_
  cases hv₄
  have F₄ := F₃.step hl₄ ok₄ st₄
  have ex₄ := hl₄ _ _ (hl₃ _ _ exI)
  refine set_one (s := ⟨h₄, g, dd, tk₄, os⟩) (fs₀ := []) (es := []) (c := 0) K_tab.toClsSets d2 hf (fun _ => by kernel_rfl!) rfl rfl (by decide) F₄ ex₄ .nil fun h₅ tk₅ hs₅ tk₅' F₅ kp₅ => ?_
  dsimp only at kp₅ ⊢
  refine wpAny_execs_cons (plainObj_wpAny_Assign_Attribute ?_ rfl)
  rw [PySem.eval_Dict_empty]
  refine wpAny_bind (wpAny_standAt (wpAny_newObj_type ?_))
  generalize hrb : h₅.objs.size = rb at *
  have nrb : h₅.get? rb = none := by rw [← hrb]; exact get_size _
  have kp₆ : ∀ b o, h₅.get? b = some o → (h₅.push ({ cls := .type "dict", data := .dict #[] } : Obj)).get? b = some o := fun b o e => Heap.get?_push_of_some _ e
  have erb : (h₅.push ({ cls := .type "dict", data := .dict #[] } : Obj)).get? rb = some { cls := .type "dict", data := .dict #[] } := by rw [← hrb]; exact Heap.get?_push_size _ rfl
  have F₆ := F₅.step (Le.refl _) (F₅.ok.grow kp₆) (.of_keeps kp₆)
  have hr := F₆.rho (u "self") _ lk_head
  unfold Reads at hr
  rw [show (sigO st_tabInit (u "SyntaxTable.__init__") (.ref 238)).scope.names.lookup (u "self") = some .local from by kernel_rfl!] at hr
  obtain ⟨v, hm, hv⟩ := hr
  cases hv
  refine wpAny_Name (wpAny_loadName_local F₆.knd (F₆.kof (by kernel_rfl!)) F₆.ns hm ?_) (by kernel_rfl!)
  refine set_one (s := ⟨h₅.push { cls := .type "dict", data := .dict #[] }, g, dd, tk₅, os⟩) (fs₀ := [(u "parent", isNone)]) (c := 1) K_tab.toClsSets d2 hf (fun _ => by kernel_rfl!) rfl (by decide) (by decide) F₆ ex₄ (.cons rfl rfl .nil) fun h₇ tk₇ hs₇ tk₇' F₇ kp₇ => ?_
  refine wpAny_execs_nil ⟨rfl, ?_⟩
  dsimp only at kp₇ ⊢
  have dne : dx ≠ rb := fun q => by
    have := F₅.ok.get_pin
    rw [q, nrb] at this; cases this
  have Lne : rb ≠ pl'.L := fun q => by
    obtain ⟨_, L', oL, _, _, hL', _, _, _, eL, _⟩ := F₅.ok.fr _ (.head _)
    obtain rfl : pl'.L = L' := Option.some.inj (F₅.ff.symm.trans hL')
    rw [← q, nrb] at eL; cases eL
  have erb₇ := kp₇ _ _ erb Lne (Ne.symm dne)
  obtain ⟨r1, r2, r3, r4⟩ := F₅.ok.off nrb
  have ed₇ : h₇.get? dx = some (dictOf [⟨hs₅, .str (u "parent") tk₅', .none⟩, ⟨hs₇, .str (u "rows") tk₇', .ref rb⟩] 2) := F₇.ok.get_pin
  have off : I₄ dx = none := F₇.ok.dI _ (.inr rfl)
  have okl : Ok S d I₄ J (pl.fe :: l) h₇ := by
    have q := F₇.ok.less (pin_more d2)
    exact ⟨q.imm, q.base, q.tabs, fun env he => q.fr env (.tail _ he), q.dI, q.dT, q.dk⟩
  have nrb₀ : hh.get? rb = none := by
    have := F₅.since.wide.fresh F₅.ok nrb
    cases q : hh.get? rb with
    | none => rfl
    | some o => rw [kp _ _ q] at this; cases this
  have frd : ∀ env ∈ (pl.fe :: l), env.frame ≠ some rb := fun env he => r4 env (.tail _ he)
  refine hp xa rb h₇ (I₄.put dx (dictOf [⟨hs₅, .str (u "parent") tk₅', .none⟩, ⟨hs₇, .str (u "rows") tk₇', .ref rb⟩] 2)) tk₇ (((le₁.trans hl₃).trans hl₄).trans (Le.put off)) (fun q => r2 (.inl q)) nrb₀ ⟨xa, dx, _, _, rfl, ?_, IM.put_self _ _ _, .cons rfl rfl (.cons rfl rfl .nil)⟩ ?_ ?_ ?_
  · rw [IM.put_ne hne]; exact ex₄
  · refine (okl.put off ed₇ d2 d3 d4).updated ?_ (fun q => r2 (.inl q)) r3 frd erb₇ rowsO_new
    rw [IM.put_ne (Ne.symm dne)]; exact r1
  · exact Step.thru (.of_keeps kp) (fun b hb => hb.imp_right fun (q : b = dx) => q ▸ nd) F₇.since
  · have h21 : h₅.get? 21 = _ := F₅.ok.imm _ _ (F₅.ok.base _ _ (S.kin 21 _ (show (Kf S.w.params).lookup 21 = some _ from rfl)))
    have := Heap.lt_size h21
    rw [hrb] at this
    exact beq_eq_false_iff_ne.mpr fun q => by rw [q] at this; revert this; decide
end
end Mine
end
section
open PySem PySem.W PyProof.Rows PySem.Calls PyProof PySem.Spec PyProof.Rows.LCg
namespace Mine
noncomputable def rowsV (S : St) (sy : Int → Option Str) : VP := ⟨fun I v => ∃ rb o n, v = .ref rb ∧ (rb == sysModules) = false ∧ I rb = some o ∧ (rowsO S n sy).p I o, fun k ⟨rb, o, n, a, b, c, d⟩ => ⟨rb, o, n, a, b, k _ _ c, (rowsO S n sy).mono k d⟩⟩
/-- a syntax table -/
noncomputable abbrev isTable (S : St) (sy : Int → Option Str) : VP := isInst 291 [(u "parent", isNone), (u "rows", rowsV S sy)]
section
variable {S : St} {d d' : Mut} {σ σi : Sig} {k : Nat} {J J' J'' J₁ : JM} {ρ ρ' : Rho} {P P' : VP} {r : BOut} {e e₁ e₂ o : Expr} {pos np tp ap pp sp cp p' : Pos} {x y name : Str} {p₁ : Pos} {l : List Env} {I I₀ I' : IM} {h₀ h h' : Heap} {s : Shared} {Q E : Value → Shared → Prop} {rest body : List Stmt} {A : Around} {pl : Pl} {m : Str → Option Value} {rb : Addr} {n : Nat} {sy : Int → Option Str} {es : List Expr} {Ps : List VP}
/-- x = SyntaxTable() -/
theorem Blk.tab (hk : σ.scope.names.lookup (u "SyntaxTable") = some .globalImplicit) (hx : σ.scope.names.lookup x = some .local) (hs : ∀ env, swapsWith (.Call (.Name (u "SyntaxTable") np) [] [] cp) (some (.Name x p')) pos.line env = pure false)
    (b : ∀ rb, ¬ d rb → (rb == sysModules) = false → Blk S (plus d rb) σ (k + 2) (Mine.upd J rb (rowsO S 0 fun _ => none)) rest ((x, isTab rb) :: ρ) (.ret (isTab rb)) (Mine.upd J rb (rowsO S n sy))) :
    Blk S d σ (k + 2) J (.Assign [.Name x p'] (.Call (.Name (u "SyntaxTable") np) [] [] cp) pos :: rest) ρ (.ret (isTable S sy)) J := .mk fun {A l pl h₀ I₀ I m s Q E} hf F hp => by
  refine wpAny_execs_cons (wpAny_Assign_Name (Call_ ((EvOk.glob (v := .ref 291) hk (fun _ => by kernel_rfl!) (by kernel_rfl!)).run F fun v h' I' tk hl ok st hv => ?_)) (hs _))
  cases hv
  have F' := F.step hl ok st
  refine callWith_of (first := []) (P := fun h => (Kf S.w.params).In h) (s := { s with heap := h', toks := tk }) (by rw [plain_any (fun _ => rfl)]; rfl) (keeps_K (K_tab.keep _)) (evalArgs_ok (es := []) (fun _ => rfl) (ArgsOk.nil.run F' fun vs h₂ I₂ tk₂ hl₂ ok₂ st₂ hv₂ => ⟨S.kin.keeps fun b o e => ok₂.imm _ _ (ok₂.base _ _ e), ?_⟩))
  cases hv₂
  have F₂ := F'.step hl₂ ok₂ st₂
  refine call_tab (s := { s with heap := h₂, toks := tk₂ }) F₂ fun xa rb h₃ I₃ tk₃ hl₃ nd nrb hv₃ ok₃ st₃ hsm => ?_
  have F₃ := F₂.jumpTo (J' := Mine.upd J rb (rowsO S 0 fun _ => none)) hf hl₃ (fun b hb => .inl hb) ok₃ (st₃.more fun b hb => .inl hb) fun _ c P _ hc => (upd_more nd).cell hl₃ hc
  have n₀ : h₀.get? rb = none := F₂.since.wide.fresh F₂.ok nrb
  refine wpAny_storeName_local (s := { s with heap := h₃, toks := tk₃ }) (F₃.kof hx) F₃.ns (fun h₄ hn₄ hs₄ => ?_) (by rw [F₃.knd]; rfl)
  have F₄ := F₃.store (P := isTab rb) hf hx hn₄ hs₄ hv₃
  refine (b rb nd hsm).run (s := { s with heap := h₄, toks := _ }) hf F₄ fun v h₅ I₅ tk₅ hl₅ ok₅ st₅ hv₅ => ?_
  obtain ⟨o, ho, hj⟩ := ok₅.dk rb (.inr rfl)
  rw [upd_at] at hj
  have hi := ok₅.dI rb (.inr rfl)
  have fr : ∀ env ∈ (pl.fe :: l), env.frame ≠ some rb := fun env he q => by
    obtain ⟨_, L', _, _, _, hL', _, c, _⟩ := ok₅.fr env he
    rw [hL'] at q
    exact c (.inr (Option.some.inj q))
  refine hp v h₅ (I₅.put rb o) tk₅ (hl₅.trans (Le.put hi)) ((ok₅.less (upd_more nd)).put hi ho nd (ok₅.dT rb (.inr rfl)) fr) ((Step.refl _ _ _).thru (d' := plus d rb) (fun b hb => hb.imp_right fun (q : b = rb) => q ▸ n₀) st₅) ?_
  obtain ⟨y, dx, es, n', rfl, q1, q2, q3⟩ := hv₅
  refine ⟨y, dx, es, n', rfl, Le.put hi _ _ q1, Le.put hi _ _ q2, ?_⟩
  cases q3 with
  | cons a b r =>
    cases r with
    | cons a' b' r' =>
      cases r'
      exact .cons a b (.cons ⟨rb, o, n, a', hsm, IM.put_self _ _ _, (rowsO S n sy).mono (Le.put hi) hj⟩ b' .nil)
/-- a method is called that turns rb -/
theorem Blk.callM {C f : Addr} {fd : FuncData} {fs : List (Str × VP)} {O : OP} {apos : Pos} (D : IsDef f fd) (hm : ∀ P, methOk (Kf P) C name f = true) (hf' : fs.lookup name = none) (hd : d rb) (nc : ∀ I o, (J rb).p I o → ∀ v, o.data ≠ .cell v) (h : EvOk S d σ k J o ρ (.val (isInst C fs))) (hs : PlainArgs es) (ha : ArgsOk S d σ k J es ρ Ps) (he : Meth σ o name apos es pos)
    (hsw : ∀ env, swapsWith (.Call (.Attribute o name apos) es [] pos) none pp.line env = pure false) (c : CallOk S d k J f (isInst C fs :: Ps) (.val P) (Mine.upd J rb O)) (b : Blk S d σ k (Mine.upd J rb O) rest ρ r J') : Blk S d σ k J (.Expr (.Call (.Attribute o name apos) es [] pos) pp :: rest) ρ r J' := .mk fun {A l pl h₀ I₀ I m s Q E} hf F hp => by
  obtain ⟨plf, he⟩ := he
  refine wpAny_execs_cons (wpAny_Expr_any (MethodCall_ (h.run F fun v h' I' tk hl ok st hv => ?_) (he _)) ?_ (hsw _))
  · obtain ⟨y, dx, es', n, rfl, hi, hfs⟩ := inst_at ok hv
    have hm := hm S.w.params
    unfold methOk at hm
    simp only [Bool.and_eq_true, beq_iff_eq] at hm
    have F' := F.step hl ok st
    refine method_inst F'.fr S.kin hi hm.1.1 hm.1.2 hm.2 (hfs.miss hf') ?_
    obtain ⟨o, hI, hd'⟩ := D.I ok
    refine callWith_ok (s := { s with heap := h', toks := tk }) F' hI hd' hs ha fun vs h₂ I₂ tk₂ hl₂ ok₂ st₂ hv₂ => ?_
    have F₂ := F'.step hl₂ ok₂ st₂
    refine c (s := { s with heap := h₂, toks := tk₂ }) (fun _ _ e => by cases e) F.cx ok₂ (.cons ((isInst C fs).mono hl₂ hv) hv₂) fun v h₃ I₃ tk₃ hl₃ ok₃ st₃ hv₃ => ?_
    obtain ⟨ob, eb, jb⟩ := ok₂.dk rb hd
    exact b.run (s := { s with heap := h₃, toks := tk₃ }) hf (F₂.jump hf hl₃ ok₃ st₃ fun _ c P _ hc => hc.off (dx := rb) hl₃ (fun b hb => upd_off hb) jb (nc _ _ jb)) hp
  · have : pl.env.scope.kind ≠ .module := by rw [F.knd]; decide
    unfold interactive
    rw [beq_eq_false_iff_ne.mpr this]; rfl
/-- rows.get(c, None) -/
theorem EvOk.rowsGet {c : Int} {kd : Str} {apos : Pos} (h : EvOk S d σ k J o ρ (.val (rowsV S sy))) (hs : PlainArgs es) (ha : ArgsOk S d σ k J es ρ [isInt c, isNone]) (he : Meth σ o (u "get") apos es pos) (hc : sy c = some kd) : EvOk S d σ k J (.Call (.Attribute o (u "get") apos) es [] pos) ρ (.val (isSynK kd)) := .mk fun {A l pl h₀ I₀ I m s Q E} F hp => by
  obtain ⟨plf, he⟩ := he
  refine MethodCall_ (h.run F fun v h' I' tk hl ok st hv => ?_) (he _)
  obtain ⟨rb, ob, n, rfl, hsm, hI, hr⟩ := hv
  have F' := F.step hl ok st
  obtain ⟨kvs, hD, hkl, hsp⟩ := rows_at hr (ok.imm _ _ hI)
  refine getMethod_builtin hD.typeIs PySem.F.plainAttrs_dict PySem.F.slot_dict_get PySem.F.type_dict_get (fun a e => by cases e; obtain ⟨_, _, _, b, _⟩ := hr; exact ⟨_, ok.imm _ _ hI, b.2.1⟩) ?_
  refine callBlt_ok (s := { s with heap := h', toks := tk }) F' hs ha fun vs h₂ I₂ tk₂ hl₂ ok₂ st₂ hv₂ => ?_
  obtain ⟨v, v', rfl, ⟨t, rfl⟩, hn⟩ := hv₂.two
  cases hn
  obtain ⟨kvs, hD, hkl, hsp⟩ := rows_at ((rowsO S n sy).mono hl₂ hr) (ok₂.imm _ _ (hl₂ _ _ hI))
  obtain ⟨v, hv, hk⟩ := (hsp c).2 kd hc
  refine call_meetsIn PySem.F.slot_dict_get hD.typeIs PySem.F.entry_dict_get (PySem.F.args_dict_get_3 _ _ _) (meets_dict_get_default (ik S) rb (k := c) (by simp [intKind, Value.isInt]) hsm .none) ⟨_, hD.mapOf, ?_⟩
  show Q _ _
  rw [hv]
  exact (Post.after (r := .val (isSynK kd)) (Post.after (tk := tk) (r := .val (isSynK kd)) hp hl ok st) hl₂ ok₂ st₂) _ h₂ I₂ _ (Le.refl _) ok₂ (Step.refl _ _ _) hk
/-- a def that comes to its end -/
theorem CallOk.defF {f : Addr} {fd : FuncData} {body : List Stmt} {xs : List Str} {Ps DPs : List VP} {dvs : List Value} {ρ' : Rho} (D : DefIs f fd σ body) (hcell : σ.scope.names.all (fun y => y.2 != .cell) = true)
    (hb : ∀ (s : Shared) (vs : List Value), vs.length = Ps.length → (∀ b o, S.G.get? b = some o → s.heap.get? b = some o) → BindsTo s fd ⟨vs, []⟩ (xs.zip (vs ++ dvs)))
    (hx : (xs.all fun y => σ.scope.names.lookup y == some .local) = true) (hn : xs.Nodup) (hd : ∀ I, Mine.Args I DPs dvs) (b : Blk S d σ k J body (xs.zip (Ps ++ DPs)) (.fall ρ') J') : CallOk S d (k + 1) J f Ps (.val isNone) J' := fun {A l I s vs Q E} _ cx ok ha hp =>
  wpAny_call (code_def D hcell cx ok ha (hb s vs ha.len fun b o e => ok.imm _ _ (ok.base _ _ e)) hx hn (hd _) fun pl h₁ m tk hf F _ => b.run (s := { s with heap := h₁, toks := tk }) hf F fun h' I' m' tk' F' =>
    hp .none h' I' tk' F'.le ⟨F'.ok.imm, F'.ok.base, F'.ok.tabs, fun env he => F'.ok.fr env (.tail _ he), F'.ok.dI, F'.ok.dT, F'.ok.dk⟩ F'.since rfl)
theorem Blk.nil0 : Blk S d σ k J [] ρ (.fall []) J := .mk fun hf F hp => wpAny_execs_nil (hp _ _ _ _ (F.facts fun _ _ _ e => by cases e))
theorem upd_comm {a b : Addr} {O O' : OP} (h : a ≠ b) : Mine.upd (Mine.upd J a O) b O' = Mine.upd (Mine.upd J b O') a O := by
  funext c
  by_cases q : c = b
  · subst q; rw [upd_at, upd_off (Ne.symm h), upd_at]
  · rw [upd_off q]
    by_cases q' : c = a
    · subst q'; rw [upd_at, upd_at]
    · rw [upd_off q', upd_off q', upd_off q]
theorem EvOk.joinNil {apos : Pos} (h : EvOk S d σ k J o ρ (.val (isStr x))) (hs : PlainArgs es) (ha : ArgsOk S d σ k J es ρ [isListOf []]) (he : Meth σ o (u "join") apos es pos) (hok : JoinOk x [] = true) : EvOk S d σ k J (.Call (.Attribute o (u "join") apos) es [] pos) ρ (.val (isStr (Txt.join x []))) := .mk fun {A l pl h₀ I₀ I m s Q E} F hp => by
  obtain ⟨plf, he⟩ := he
  refine MethodCall_ (h.run F fun v h' I' tk hl ok st ⟨t, hv⟩ => ?_) (he _)
  subst hv
  have F' := F.step hl ok st
  refine PySem.GM.join ?_
  refine callBlt_ok (s := { s with heap := h', toks := tk }) F' hs ha fun vs h₂ I₂ tk₂ hl₂ ok₂ st₂ hv₂ => ?_
  obtain ⟨v, rfl, a, its, n, rfl, hI, hi⟩ := hv₂.one
  have hit : its = (strValues []).toArray := by
    cases hi' : its.toList with
    | nil => rw [← Array.toArray_toList (xs := its), hi']; rfl
    | cons _ _ => rw [hi'] at hi; cases hi
  refine PySem.SC.join (l := []) (texts := []) (D := a) ⟨_, ok₂.imm _ _ hI, rfl, n, by rw [hit]⟩ rfl hok fun t' k' => ?_
  exact (Post.after (r := .val _) (Post.after (tk := tk) (r := .val _) hp hl ok st) hl₂ ok₂ st₂) _ h₂ I₂ _ (Le.refl _) ok₂ (Step.refl _ _ _) ⟨_, rfl⟩
theorem EvOk.allNil (hk : σ.scope.names.lookup (u "all") = some .globalImplicit) (ha : ArgsOk S d σ k J [e] ρ [isListOf []]) (hs : PlainArgs [e]) : EvOk S d σ k J (.Call (.Name (u "all") np) [e] [] pos) ρ (.val (isBool true)) :=
  EvOk.callBlt (id := "all") (P := isBool true) (EvOk.blt hk (fun _ => by kernel_rfl!) (by kernel_rfl!) (by decide +kernel) (by kernel_rfl!)) hs ha fun {A l pl h₀ I₀ I m s Q E vs} F hv hp => by
    obtain ⟨v, rfl, a, its, n, rfl, hI, hi⟩ := hv.one
    refine call_all_walk ?_
    have hit : its.size = 0 := by rw [← Array.length_toList, hi.len]; rfl
    have hl : s.heap.IsList a its := ⟨_, F.ok.imm _ _ hI, rfl, n, rfl⟩
    have hlt : a ≠ s.heap.objs.size := Nat.ne_of_lt (Heap.lt_size (F.ok.imm _ _ hI))
    refine wpAny_pyIter_list hl ⟨s.heap.objs.size, _, _, _, _, _, fun _ => true, rfl, Walks.list (A := A.in1) F.cx.handled s.heap.objs.size a hlt its, ⟨⟨_, Heap.get?_push_size _ rfl, rfl, rfl⟩, hl.push _⟩, ?_, ?_⟩
    · intro i v s Q E hP _
      have : i < its.size := (Array.getElem?_eq_some_iff.mp hP).1
      lia
    · intro h' tk hk
      have off := F.ok.off (get_size s.heap)
      have kp : ∀ b o, s.heap.get? b = some o → h'.get? b = some o := fun b o e => hk b o (by simp; exact Nat.ne_of_lt (Heap.lt_size e)) (Heap.get?_push_of_some _ e)
      rw [hit]
      exact hp _ h' I _ (Le.refl _) (F.ok.grow kp) (.of_keeps kp) rfl
end
end Mine
end
section
open PySem PySem.W PyProof.Rows PySem.Calls PyProof PySem.Spec PyProof.Rows.LCg
namespace Mine
/-- a cell that holds nothing yet -/
noncomputable def emptyO : OP := ⟨fun _ o => o.data = .cell none, fun _ h => h⟩
/-- a cell whose value is of this kind -/
noncomputable def cellO (P : VP) : OP := ⟨fun I o => ∃ v, o.data = .cell (some v) ∧ P.p I v, fun k ⟨v, a, b⟩ => ⟨v, a, P.mono k b⟩⟩
noncomputable def plusL (d : Mut) : List Addr → Mut
  | [] => d
  | c :: r => plusL (plus d c) r
noncomputable def updL (J : JM) : List (Addr × OP) → JM
  | [] => J
  | p :: r => updL (upd J p.1 p.2) r
theorem plusL_in {d : Mut} {b : Addr} : ∀ {cs : List Addr}, plusL d cs b ↔ d b ∨ b ∈ cs
  | [] => by simp [plusL]
  | c :: r => by
    unfold plusL
    rw [plusL_in]
    unfold plus
    simp only [List.mem_cons]
    constructor
    · rintro ((h | h) | h)
      · exact .inl h
      · exact .inr (.inl h)
      · exact .inr (.inr h)
    · rintro (h | h | h)
      · exact .inl (.inl h)
      · exact .inl (.inr h)
      · exact .inr h
theorem updL_off {J : JM} {b : Addr} : ∀ {ps : List (Addr × OP)}, b ∉ ps.map (·.1) → updL J ps b = J b
  | [], _ => rfl
  | p :: r, h => by
    simp only [List.map_cons, List.mem_cons, not_or] at h
    unfold updL
    rw [updL_off h.2, upd_off h.1]
theorem updL_at {J : JM} {b : Addr} {O : OP} : ∀ {ps : List (Addr × OP)}, (ps.map (·.1)).Nodup → (b, O) ∈ ps → updL J ps b = O
  | p :: r, hn, h => by
    simp only [List.map_cons, List.nodup_cons] at hn
    unfold updL
    rcases List.mem_cons.mp h with e | h
    · subst e
      rw [updL_off hn.1, upd_at]
    · exact updL_at hn.2 h
theorem pw_inj {α : Type} : ∀ {l : List (α × Addr)}, l.Pairwise (fun x y => x.2 ≠ y.2) → ∀ {a b : α} {c : Addr}, (a, c) ∈ l → (b, c) ∈ l → a = b
  | x :: r, h, a, b, c, ha, hb => by
    simp only [List.pairwise_cons] at h
    rcases List.mem_cons.mp ha with e | ha
    · rcases List.mem_cons.mp hb with e' | hb
      · rw [← e'] at e; exact congrArg Prod.fst e
      · exact absurd (by rw [← e]) (h.1 _ hb)
    · rcases List.mem_cons.mp hb with e' | hb
      · exact absurd (by rw [← e']) (h.1 _ ha)
      · exact pw_inj h.2 ha hb
section
variable {S : St} {d d' : Mut} {σ σi : Sig} {k : Nat} {J J₂ : JM} {ρ ρ' : Rho} {P : VP} {r : BOut} {e e₁ e₂ o : Expr} {pos np tp ap pp sp cp p' : Pos} {x y name : Str} {l : List Env} {I I₀ I' : IM} {h₀ h h' : Heap} {s : Shared} {Q E : Value → Shared → Prop} {rest body : List Stmt} {A : Around} {pl : Pl} {m : Str → Option Value}
theorem Ok.less' {d' : Mut} {J' : JM} (md : ∀ b, d b → d' b) (mJ : ∀ b, d b → J' b = J b) (ok : Ok S d' I J' l h) : Ok S d I J l h := ok.less ⟨md, mJ⟩
theorem Ok.ownL : ∀ (ps : List (Addr × OP)) (d : Mut) (J : JM), Ok S d I J l h → (ps.map (·.1)).Nodup → (∀ p ∈ ps, I p.1 = none ∧ ¬ d p.1 ∧ ¬ IsTab p.1 ∧ (∀ env ∈ l, env.frame ≠ some p.1) ∧ ∃ o, h.get? p.1 = some o ∧ p.2.p I o) → Ok S (plusL d (ps.map (·.1))) I (updL J ps) l h
  | [], _, _, ok, _, _ => ok
  | p :: r, d, J, ok, hn, hp => by
    simp only [List.map_cons, List.nodup_cons] at hn
    obtain ⟨a, b, c, f, o, e, g⟩ := hp p (.head _)
    unfold updL
    rw [List.map_cons]
    unfold plusL
    refine Ok.ownL r (plus d p.1) (Mine.upd J p.1 p.2) (ok.updated a b c f e g) hn.2 fun q hq => ?_
    obtain ⟨a', b', c', f'⟩ := hp q (.tail _ hq)
    refine ⟨a', fun z => ?_, c', f'⟩
    rcases z with z | z
    · exact b' z
    · exact hn.1 (z ▸ List.mem_map_of_mem hq)
/-- a def with cells of its own, some of them stored -/
theorem CallOk.defO {f : Addr} {fd : FuncData} {body : List Stmt} {xs : List Str} {Ps DPs : List VP} {dvs : List Value} {os : List (Str × OP)} {P' : List Addr → VP} {J' : List Addr → JM} (D : DefIs f fd σ body)
    (hb : ∀ (vs : List Value), vs.length = Ps.length → bindArgs fd ⟨vs, []⟩ = pure (xs.zip (vs ++ dvs)))
    (hx : ∀ n, (xs.all fun y => σ.scope.names.lookup y == some .local || (σ.scope.names.lookup y == some .cell && ((cellsFrom n σ.scope.names []).lookup y).isSome)) = true) (hn : xs.Nodup) (hd : ∀ I, Args I DPs dvs)
    (hos : ∀ n, (os.all fun y => ((cellsFrom n σ.scope.names []).lookup y.1).isSome && σ.scope.names.lookup y.1 == some .cell) = true) (hon : (os.map (·.1)).Nodup)
    (hO : ∀ y O, (y, O) ∈ os → (∃ Pp, (xs.zip (Ps ++ DPs)).lookup y = some Pp ∧ O = cellO Pp) ∨ (y ∉ xs ∧ O = emptyO))
    (b : ∀ cs : List Addr, cs.length = os.length → cs.Nodup → (∀ c ∈ cs, ¬ d c) → Blk S (plusL d cs) { σ with own := (os.map (·.1)).zip cs } k (updL J (cs.zip (os.map (·.2)))) body (xs.zip (Ps ++ DPs)) (.ret (P' cs)) (J' cs))
    (hconv : ∀ cs l I' h' v, cs.length = os.length → cs.Nodup → (∀ c ∈ cs, ¬ d c) → Ok S (plusL d cs) I' (J' cs) l h' → (P' cs).p I' v → ∃ I'', Le I' I'' ∧ Ok S d I'' J₂ l h' ∧ P.p I'' v) : CallOk S d (k + 1) J f Ps (.val P) J₂ := fun {A l I s vs Q E} _ cx ok ha hp => by
  obtain ⟨of_, hI, hda⟩ := D.d.I ok
  have keep : ∀ b o, S.G.get? b = some o → s.heap.get? b = some o := fun b o e => ok.imm _ _ (ok.base _ _ e)
  have hcd : s.heap.CodeRec fd.code fd.qualname := by rw [D.cd, D.qual]; exact codeRec_of (S.kin.keeps keep) (D.code _)
  refine wpAny_call (codeAny_call_cells (fd := fd) (body := body) (binds := xs.zip (vs ++ dvs)) (by have := cx.depth; unfold recursionLimit; lia) (ok.imm _ _ hI) hda (S.top.nolimit.keeps keep) hcd D.body (hb vs ha.len) D.clos ?_ ?_ (by rw [D.scope]; exact D.co) (by rw [D.scope]; exact D.gen) (by rw [D.scope]; exact D.kind))
  · intro y hy
    rw [D.scope]
    have := List.all_eq_true.mp (hx (s.heap.objs.size + 1)) y.1 (List.of_mem_zip hy).1
    simp only [Bool.or_eq_true, Bool.and_eq_true, beq_iff_eq] at this
    exact this
  · intro s₁ X
    rw [callEnvC_is D] at X ⊢
    obtain ⟨h₁, tk₁, rfl⟩ := X.toInCall.same
    have hk₁ : ∀ b o, s.heap.get? b = some o → h₁.get? b = some o := X.toInCall.keep
    have hns := X.toInCall.ns
    obtain ⟨o1, o2, o3, o4⟩ := ok.off (get_size s.heap)
    have hos := hos (s.heap.objs.size + 1)
    have hx := hx (s.heap.objs.size + 1)
    have Xcell := X.cell
    have Xapart := X.apart
    have Xabove := X.above
    dsimp only at Xcell Xapart Xabove hns
    generalize hCL : cellsFrom (s.heap.objs.size + 1) σ.scope.names [] = CL at *
    let cs : List Addr := os.map fun y => (CL.lookup y.1).getD 0
    have csl : cs.length = os.length := List.length_map ..
    have cat : ∀ y ∈ os, CL.lookup y.1 = some ((CL.lookup y.1).getD 0) := fun y hy => by
      have := List.all_eq_true.mp hos y hy
      simp only [Bool.and_eq_true] at this
      obtain ⟨c, hc⟩ := Option.isSome_iff_exists.mp this.1
      rw [hc]; rfl
    have csin : ∀ c ∈ cs, ∃ y ∈ os, CL.lookup y.1 = some c := fun c hc => by
      obtain ⟨y, hy, rfl⟩ := List.mem_map.mp hc
      exact ⟨y, hy, cat y hy⟩
    have csn : cs.Nodup := by
      refine List.Pairwise.map _ (R := fun (a b : Str × OP) => a.1 ≠ b.1 ∧ a ∈ os ∧ b ∈ os) (fun a b hab q => ?_) ?_
      · refine hab.1 (pw_inj Xapart (mem_of_lookup (cat a hab.2.1)) ?_)
        rw [q]
        exact mem_of_lookup (cat b hab.2.2)
      · have : os.Pairwise fun a b => a.1 ≠ b.1 := by
          rw [List.Nodup, List.pairwise_map] at hon; exact hon
        exact this.imp_of_mem fun ha hb h => ⟨h, ha, hb⟩
    have hfrs : (A.deeper (σ.env s.heap.objs.size f CL)).frames = some (σ.env s.heap.objs.size f CL :: l) := by
      show A.frames.map _ = _
      rw [cx.frames]; rfl
    have ok₁ : Ok S d I J (σ.env s.heap.objs.size f CL :: l) h₁ := by
      have g := ok.grow hk₁
      refine ⟨g.imm, g.base, g.tabs, fun env he => ?_, g.dI, g.dT, g.dk⟩
      rcases List.mem_cons.mp he with rfl | he
      · obtain ⟨o, es, ep, ho, hda, _⟩ := hns
        exact ⟨by show σ.scope.kind ≠ _; rw [D.kind]; decide, s.heap.objs.size, o, es, ep, rfl, o1, o2, o3, ho, hda⟩
      · exact g.fr env he
    have new : ∀ n b, (n, b) ∈ CL → s.heap.get? b = none := fun n b hm => by
      have hlt : s.heap.objs.size < b := Xabove _ _ hm
      cases q : s.heap.get? b with
      | none => rfl
      | some o => exact absurd (Heap.lt_size q) (Nat.lt_asymm hlt)
    have ne : ∀ n b, (n, b) ∈ CL → b ≠ s.heap.objs.size := fun n b hm q => by
      have hlt : s.heap.objs.size < b := Xabove _ _ hm
      exact Nat.ne_of_gt hlt q
    have offC : ∀ n b, (n, b) ∈ CL → I b = none ∧ ¬ d b ∧ ¬ IsTab b ∧ ∀ env ∈ (σ.env s.heap.objs.size f CL :: l), env.frame ≠ some b := fun n b hb => by
      obtain ⟨q1, q2, q3, q4⟩ := ok.off (new n b hb)
      refine ⟨q1, q2, q3, fun env he => ?_⟩
      rcases List.mem_cons.mp he with rfl | he
      · exact fun q => ne n b hb (Option.some.inj q).symm
      · exact q4 env he
    let Xc : Addr → Prop := fun b => (∃ n, (n, b) ∈ CL) ∧ b ∉ cs
    have offX : ∀ b, Xc b → I b = none ∧ ¬ d b ∧ ¬ IsTab b ∧ ∀ env ∈ (σ.env s.heap.objs.size f CL :: l), env.frame ≠ some b := fun b ⟨⟨n, hb⟩, _⟩ => offC n b hb
    have ok₂ := ok₁.puts offX
    have le₂ : Le I (I.puts Xc h₁) := Le.puts fun b hb => (offX b hb).1
    have nd : ((xs.zip (vs ++ dvs)).map (·.1)).Nodup := zip_keys _ _ hn
    have csd : ∀ c ∈ cs, ¬ d c := fun c hc => by
      obtain ⟨y, _, hy⟩ := csin c hc
      exact (offC _ _ (mem_of_lookup hy)).2.1
    have hzip : (cs.zip (os.map (·.2))).map (·.1) = cs := List.map_fst_zip (by rw [csl, List.length_map]; exact Nat.le_refl _)
    have ok₃ : Ok S (plusL d cs) (I.puts Xc h₁) (updL J (cs.zip (os.map (·.2)))) (σ.env s.heap.objs.size f CL :: l) h₁ := by
      have := ok₂.ownL (cs.zip (os.map (·.2))) d J (by rw [hzip]; exact csn) fun p hp => ?_
      · rw [hzip] at this; exact this
      · have hpe : ∃ y ∈ os, p = ((CL.lookup y.1).getD 0, y.2) := by
          have : cs.zip (os.map (·.2)) = os.map fun y => ((CL.lookup y.1).getD 0, y.2) := by
            show (os.map _).zip (os.map _) = _
            rw [List.zip_map']
          rw [this] at hp
          obtain ⟨y, hy, e⟩ := List.mem_map.mp hp
          exact ⟨y, hy, e.symm⟩
        obtain ⟨⟨y, O⟩, hy, rfl⟩ := hpe
        have hc := cat _ hy
        dsimp only at hc ⊢
        obtain ⟨q1, q2, q3, q4⟩ := offC _ _ (mem_of_lookup hc)
        have hnot : ¬ Xc ((CL.lookup y).getD 0) := fun z => z.2 (List.mem_map.mpr ⟨_, hy, rfl⟩)
        refine ⟨by rw [IM.puts_out hnot]; exact q1, q2, q3, q4, ?_⟩
        obtain ⟨oc, hoc, hdc⟩ := Xcell y _ hc
        refine ⟨oc, hoc, ?_⟩
        have hyk : σ.scope.names.lookup y = some .cell := by
          have := List.all_eq_true.mp hos _ hy
          simp only [Bool.and_eq_true, beq_iff_eq] at this
          exact this.2
        rcases hO y O hy with ⟨Pp, hl, rfl⟩ | ⟨hl, rfl⟩
        · obtain ⟨v, hm, hv⟩ := zip_mem xs (ha.append (hd I)) hl
          exact ⟨v, by rw [hdc]; exact congrArg Data.cell (bindC_in hyk _ _ nd hm), Pp.mono le₂ hv⟩
        · show oc.data = _
          rw [hdc, bindC_out _ _ fun z hz q => hl (by rw [← q]; exact (List.of_mem_zip hz).1)]
    have F : FrameOk S (plusL d cs) { σ with own := (os.map (·.1)).zip cs } k (updL J (cs.zip (os.map (·.2)))) (xs.zip (Ps ++ DPs)) (A.deeper (σ.env s.heap.objs.size f CL)) l (σ.pl s.heap.objs.size f CL) s.heap I (I.puts Xc h₁) (bindL (σ.env s.heap.objs.size f CL).kindOf (xs.zip (vs ++ dvs)) fun _ => none) h₁ := by
      refine ⟨⟨hfrs, cx.handled, ?_, ?_⟩, rfl, rfl, rfl, rfl, rfl, rfl, D.kind, ok₃, .of_keeps hk₁, get_size _, ?_, fun ⟨e, he, hf⟩ => o4 e he hf, hns, .inl ⟨fun q => ?_, o3⟩, ⟨_, hns⟩, le₂, ?_, fun x c e => ?_⟩
      · show A.depth + 1 + 4 * k ≤ 900
        have := cx.depth; lia
      · show A.units + 3 + 64 * k ≤ 9000
        have := cx.units; lia
      · obtain ⟨z, oz, ez, hz⟩ := S.last
        exact Nat.le_trans hz (Heap.lt_size (keep _ _ ez))
      · rcases plusL_in.mp q with q | q
        · exact o2 q
        · obtain ⟨y, _, hy⟩ := csin _ q
          exact ne _ _ (mem_of_lookup hy) rfl
      · intro y Pp e
        obtain ⟨v, hm, hv⟩ := zip_mem xs (ha.append (hd I)) e
        have hy := List.all_eq_true.mp hx y (List.of_mem_zip hm).1
        simp only [Bool.or_eq_true, Bool.and_eq_true, beq_iff_eq] at hy
        unfold Reads
        rcases hy with hy | ⟨hy, hc⟩
        · simp only [hy]
          exact ⟨v, bindL_in hy _ _ nd hm, Pp.mono le₂ hv⟩
        · simp only [hy]
          obtain ⟨c, hc⟩ := Option.isSome_iff_exists.mp hc
          by_cases hcs : c ∈ cs
          · obtain ⟨⟨y', O⟩, hy', hc'⟩ := csin c hcs
            obtain rfl : y = y' := pw_inj Xapart (mem_of_lookup hc) (mem_of_lookup hc')
            refine ⟨c, hc, .inr ⟨plusL_in.mpr (.inr hcs), fun I₂ o _ ho => ?_⟩⟩
            have hO' : O = cellO Pp := by
              rcases hO y O hy' with ⟨Pp', hl, rfl⟩ | ⟨hl, _⟩
              · rw [e] at hl; cases hl; rfl
              · exact absurd (List.of_mem_zip hm).1 hl
            have hz : (c, O) ∈ cs.zip (os.map (·.2)) := by
              have : cs.zip (os.map (·.2)) = os.map fun y => ((CL.lookup y.1).getD 0, y.2) := by
                show (os.map _).zip (os.map _) = _
                rw [List.zip_map']
              rw [this]
              refine List.mem_map.mpr ⟨(y, O), hy', ?_⟩
              show ((CL.lookup y).getD 0, O) = _
              rw [hc]; rfl
            rw [updL_at (by rw [hzip]; exact csn) hz, hO'] at ho
            exact ho
          · obtain ⟨oc, hoc, hdc⟩ := Xcell y c hc
            refine ⟨c, hc, .inl ⟨oc, v, ?_, ?_, Pp.mono le₂ hv⟩⟩
            · rw [IM.puts_in ⟨⟨y, mem_of_lookup hc⟩, hcs⟩]; exact hoc
            · rw [hdc]
              exact congrArg Data.cell (bindC_in hy _ _ nd hm)
      · have hm := mem_of_lookup e
        have hzz : (os.map (·.1)).zip cs = os.map fun y => (y.1, (CL.lookup y.1).getD 0) := by
          show (os.map _).zip (os.map _) = _
          rw [List.zip_map']
        have hm' : (x, c) ∈ os.map fun y => (y.1, (CL.lookup y.1).getD 0) := hzz ▸ hm
        obtain ⟨y, hy, e'⟩ := List.mem_map.mp hm'
        cases e'
        have := cat y hy
        exact ⟨this, fun z hz => pw_inj Xapart (mem_of_lookup hz) (mem_of_lookup this)⟩
    refine (b cs csl csn csd).run (s := { s with heap := h₁, toks := _ }) ⟨rfl, rfl⟩ F fun v h' I' tk hl ok' st hv => ?_
    have okl : Ok S (plusL d cs) I' (J' cs) l h' := ⟨ok'.imm, ok'.base, ok'.tabs, fun env he => ok'.fr env (.tail _ he), ok'.dI, ok'.dT, ok'.dk⟩
    obtain ⟨I'', hl', ok'', hP⟩ := hconv cs l I' h' v csl csn csd okl hv
    exact hp v h' I'' tk (hl.trans hl') ok'' ((Step.refl _ _ _).thru (d' := plusL d cs) (fun b hb => (plusL_in.mp hb).imp_right fun q => by
      obtain ⟨y, _, hy⟩ := csin b q
      exact new _ _ (mem_of_lookup hy)) st) hP
end
end Mine
end
section
open PySem PySem.W PyProof.Rows PySem.Calls PyProof PySem.Spec PyProof.Rows.LCg
namespace Mine
section
variable {S : St} {d d' : Mut} {σ σi : Sig} {k : Nat} {J J' J'' J₁ : JM} {ρ ρ' : Rho} {P P₁ P₂ : VP} {r : BOut} {e e₁ e₂ o : Expr} {pos np tp ap pp sp cp hp rp p' p₁ p₂ : Pos} {x x₁ x₂ y name : Str} {l : List Env} {I I₀ I' : IM} {h₀ h h' : Heap} {s : Shared} {Q E : Value → Shared → Prop} {rest body : List Stmt} {A : Around} {pl : Pl} {m : Str → Option Value} {c : Addr}
theorem FrameOk.jump0 (F : FrameOk S d σ k J ρ A l pl h₀ I₀ I m h) (fn : pl.IsFn) (hl : Le I I') (ok : Ok S d I' J' (pl.fe :: l) h') (st : Step d (pl.fe :: l) h h') (hρ : Holds d J' σ ρ' pl.env.cells m I') : FrameOk S d σ k J' ρ' A l pl h₀ I₀ I' m h' :=
  have ow : ¬ d pl.env.locals ∧ ¬ IsTab pl.env.locals := by rw [fn.loc]; exact F.frAt.2
  ⟨F.cx, F.esc, F.eg, F.eb, F.eq, F.ec, F.ff, F.kind, ok, F.since.out F.ff F.new st, F.new, F.above, F.apart, st.ns' ow.1 ow.2 F.ns, .inl ow, F.nsf.imp fun _ hn => st.ns' F.frAt.2.1 F.frAt.2.2 hn, F.le.trans hl, hρ, F.oc⟩
/-- a cell of the def's own -/
structure OwnC (d : Mut) (σ : Sig) (J : JM) (x : Str) (c : Addr) : Prop where
  own : σ.own.lookup x = some c
  kind : σ.scope.names.lookup x = some .cell
  md : d c
  cell : ∀ I o, (J c).p I o → ∃ w, o.data = .cell w
theorem FrameOk.storeC (F : FrameOk S d σ k J ρ A l pl h₀ I₀ I m h) (fn : pl.IsFn) (C : OwnC d σ J x c) {v : Value} (hv : P.p I v) (hi : h'.IsCell c (some v)) (hs : Heap.SameBut c h h') : FrameOk S d σ k (Mine.upd J c (cellO P)) ((x, P) :: ρ) A l pl h₀ I₀ I m h' := by
  obtain ⟨o', ho', hd'⟩ := hi
  obtain ⟨hc, hinj⟩ := F.oc _ _ C.own
  refine F.jump0 fn (Le.refl _) (F.ok.change C.md hs ho' ⟨v, hd', hv⟩) (fun b ob eb => ?_) fun y Q e => ?_
  · by_cases q : b = c
    · subst q; exact .inr (.inr (.inl C.md))
    · exact .inl ((hs.2 b q).trans eb)
  · rw [List.lookup_cons] at e
    by_cases z : y = x
    · subst z
      simp only [beq_self_eq_true] at e
      cases e
      unfold Reads
      rw [C.kind]
      exact ⟨c, hc, .inr ⟨C.md, fun I₂ o _ ho => by rw [upd_at] at ho; exact ho⟩⟩
    · have q1 : (y == x) = false := by simpa using z
      rw [q1] at e
      refine (F.rho y Q e).turn (Le.refl _) fun c' hc' h' => ?_
      have hne : c' ≠ c := fun q => z (hinj y (q ▸ hc'))
      rcases h' with ⟨o, v, a, b, q⟩ | ⟨a, b⟩
      · exact .inl ⟨o, v, a, b, q⟩
      · refine .inr ⟨a, fun I₂ o l' => ?_⟩
        rw [upd_off hne]; exact b I₂ o l'
theorem FrameOk.putC (F : FrameOk S d σ k J ρ A l pl h₀ I₀ I m s.heap) (fn : pl.IsFn) (C : OwnC d σ J x c) {v : Value} (hv : P.p I v) {Q : Unit → Shared → Prop}
    (hQ : ∀ h', FrameOk S d σ k (Mine.upd J c (cellO P)) ((x, P) :: ρ) A l pl h₀ I₀ I m h' → Q () { s with heap := h' }) : wpAny (model pw S.w) A (storeName pl.env x v) Q E s := by
  obtain ⟨o, ho, hj⟩ := F.ok.dk c C.md
  obtain ⟨w, hw⟩ := C.cell _ _ hj
  exact wpAny_storeName_cell F.knd (F.kof C.kind) (F.oc _ _ C.own).1 ⟨o, ho, hw⟩ fun h' hi hs => hQ h' (F.storeC fn C hv hi hs)
/-- x = e, x a cell -/
theorem Blk.assignC (h : EvOk S d σ k J e ρ (.val P)) (C : OwnC d σ J x c) (hs : ∀ env, swapsWith e (some (.Name x p')) pos.line env = pure false) (b : Blk S d σ k (Mine.upd J c (cellO P)) rest ((x, P) :: ρ) r J') : Blk S d σ k J (.Assign [.Name x p'] e pos :: rest) ρ r J' := .mk fun {A l pl h₀ I₀ I m s Q E} hf F hp => by
  refine wpAny_execs_cons (wpAny_Assign_Name (h.run F fun v h' I' tk hl ok st hv => ?_) (hs _))
  have F' := F.step hl ok st
  exact F'.putC (s := { s with heap := h', toks := tk }) hf C hv fun h₂ F₂ => b.run (s := { s with heap := h₂, toks := tk }) hf F₂ hp
/-- a, b = e, b a cell -/
theorem Blk.unpackC {n : Nat} (h : EvOk S d σ k J e ρ (.val (isTup [P₁, P₂]))) (h1 : σ.scope.names.lookup x₁ = some .local) (C : OwnC d σ J x₂ c)
    (hs : ∀ env, swapsWithSole [.Tuple [.Name x₁ p₁, .Name x₂ p₂] n tp] e pos.line env = pure false) (hw : ∀ env, swappedStores [.Tuple [.Name x₁ p₁, .Name x₂ p₂] n tp] e env = pure none)
    (b : Blk S d σ k (Mine.upd J c (cellO P₂)) rest ((x₂, P₂) :: (x₁, P₁) :: ρ) r J') : Blk S d σ k J (.Assign [.Tuple [.Name x₁ p₁, .Name x₂ p₂] n tp] e pos :: rest) ρ r J' := .mk fun {A l pl h₀ I₀ I m s Q E} hf F hp => by
  refine wpAny_execs_cons (PyProof.Rows.Assign_Tuple (h.run F fun v h' I' tk hl ok st hv => ?_) (hs _) (hw _))
  have F' := F.step hl ok st
  obtain ⟨a, vs, rfl, ht, hvs⟩ := tup_at ok hv
  obtain ⟨v, v', rfl, hv1, hv2⟩ := hvs.two
  refine assign_Tuple_tuple (s := { s with heap := h', toks := tk }) F.cx.handled ht rfl rfl fun h₂ hk₂ => ?_
  obtain ⟨ok₂, st₂⟩ := ok.extB (get_size h') hk₂
  refine assignInOrder_cons ((F'.step (Le.refl _) ok₂ st₂).put1 (s := { s with heap := h₂, toks := tk }) hf h1 hv1 fun h₃ m₃ tk₃ F₃ => ?_)
  refine assignInOrder_cons (wpAny_assign_Name (F₃.putC (s := { s with heap := h₃, toks := tk₃ }) hf C hv2 fun h₄ F₄ => ?_))
  exact assignInOrder_nil (b.run (s := { s with heap := h₄, toks := tk₃ }) hf F₄ hp)
/-- a try whose body comes to its end -/
theorem Blk.tryOk {hd₀ : ExceptHandler} {hs : List ExceptHandler} (b₁ : Blk S d σ k J body ρ (.fall ρ') J₁) (b : Blk S d σ k J₁ rest ρ' r J') : Blk S d σ k J (.Try body (hd₀ :: hs) [] [] pos :: rest) ρ r J' := .mk fun {A l pl h₀ I₀ I m s Q E} hf F hp =>
  wpAny_execs_cons (wpAny_Try_except (b₁.run hf F fun h' I' m' tk F' => wpAny_execs_nil (b.run (s := { s with heap := h', toks := tk }) hf F' hp)))
/-- except LispSignal: return None -/
theorem Blk.tryExc {ts : List Expr} {n c : Nat} {hs : List ExceptHandler} (h : EvOk S d σ k J e ρ .exc) (hk : σ.scope.names.lookup (u "LispSignal") = some .globalImplicit) (hsw : ∀ env, swapsWithSole [.Tuple ts n tp] e ap.line env = pure false) (hw : ∀ env, swappedStores [.Tuple ts n tp] e env = pure none) :
    Blk S d σ k J (.Try [.Assign [.Tuple ts n tp] e ap] (.ExceptHandler (some (.Name (u "LispSignal") np)) none [.Return (some (.Constant .none c cp)) rp] hp :: hs) [] [] pos :: rest) ρ (.ret isNone) J := .mk fun {A l pl h₀ I₀ I m s Q E} hf F hQ => by
  refine wpAny_execs_cons (wpAny_Try_except (wpAny_execs_cons (PyProof.Rows.Assign_Tuple (h.run F fun e h' I' tk hl fl => ?_) (hsw _) (hw _))))
  obtain ⟨B, a0, ⟨f1, f2, f3, f4⟩, okB, hfr, hk'⟩ := fl.back F.since
  have f4 : Heap.TracedW h' B e (.ref 38) a0 := f4.elim id fun q => Bool.noConfusion q.1
  have hff : pl.env.frame = some pl.L := by rw [← hf.same]; exact F.ff
  have hA : A.frames = some (pl.env :: l) := by rw [← hf.same]; exact F.cx.frames
  have fl' : Heap.FlyingW B (pl.env :: l) e (.ref 38) a0 h' := ⟨f1, f2, hf.same ▸ f3, f4⟩
  refine wpAny_looks_onW (s := { s with heap := h', toks := tk }) hA hff fl' fun h₄ held₄ up₄ => ?_
  refine wpAny_landsW (s := { s with heap := h₄, toks := tk }) held₄ fun h₅ fl₅ up₅ => ?_
  have keep₅ : ∀ b o, S.G.get? b = some o → h₅.get? b = some o := fun b o e => fl₅.1 _ _ (okB.imm _ _ (okB.base _ _ e))
  obtain ⟨ob, hob, hobc⟩ := fl₅.there
  have hC : h₅.get? 38 = some excObj := keep₅ _ _ (S.kin _ _ (exc_cls _))
  refine wpAny_handleBy_cons (codeAny_handlers_test (Name_function_global F.knd (F.kof hk) (loadGlobal_global (by rw [F.eg]; exact S.top.g.keeps keep₅) (mg_of S.kin S.top.g (v := .ref 38) (by kernel_rfl!)) ?_) (by kernel_rfl!))) (by intro q; cases q)
  refine wpAny_excMatches_sub_self hC hob hobc (by simp) (codeAny_handlers_suite ?_)
  refine lands_againW fl₅ fun h₆ fl₆ up₆ => ?_
  refine wpAny_noRaise (wpAny_execs_cons (wpAny_Return_some (Constant_none ?_)))
  have up := (up₄.trans up₅).trans up₆
  refine hQ .none h₆ I' tk (F.le.trans hl) ?_ ?_ rfl
  · have g := okB.grow (h' := h₆) fl₆.1
    exact ⟨g.imm, g.base, g.tabs, fun env he => UpTo.frAt up (hfr env he), g.dI, g.dT, g.dk⟩
  · intro b o e
    rcases hk' b o e with q | q | q | ⟨⟨env, he, hfe⟩, q⟩
    · exact .inl (fl₆.1 _ _ q)
    · exact .inr (.inl q)
    · exact .inr (.inr (.inl q))
    · rcases List.mem_cons.mp he with rfl | he
      · have : b = pl.L := Option.some.inj (hfe.symm.trans F.ff)
        rw [this, F.new] at e; cases e
      · exact .inr (.inr (.inr ⟨⟨env, he, hfe⟩, fun m hm => up.ns (q m hm)⟩))
end
end Mine
end
section
open PySem PySem.W PyProof.Rows PySem.Calls PyProof PySem.Spec PyProof.Rows.LCg
namespace Mine
theorem among_snoc {pos : Pos} {a b : Int} {c cv : Value} (l : List Value) (h : TriplesOk l) (hn : codeAmong pos (l ++ [rawInt a, rawInt b, c]) = some cv) : codeAmong pos l = some cv ∨ cv = c := by
  fun_induction TriplesOk l with
  | case1 =>
    simp only [List.nil_append, codeAmong, rawInt] at hn
    split at hn
    · cases hn; exact .inr rfl
    · simp [codeAmong] at hn
  | case2 a' t b' u x rest ih =>
    simp only [List.cons_append, codeAmong] at hn ⊢
    split at hn
    · rename_i hc; rw [if_pos hc]; exact .inl hn
    · rename_i hc; rw [if_neg hc]; exact ih h hn
  | case3 l h1 h2 => exact h.elim
/-- a lambda's object -/
noncomputable def rawLam (qual : Str) (params : Arguments) (body : Expr) (scope : Scope) (cl : List (Str × Addr)) (I : IM) (v : Value) : Prop :=
  ∃ f pm c' ctv oc vs tk, v = .ref f ∧ I f = some (kla_obj "<lambda>" qual params body scope cl pm c' ctv) ∧ I c' = some oc ∧ oc.data = .fields vs ∧ vs[1]? = some (.str qual tk)
theorem rawLam.mono {qual : Str} {params : Arguments} {body : Expr} {scope : Scope} {cl : List (Str × Addr)} {I I' : IM} {v : Value} (k : Le I I') (h : rawLam qual params body scope cl I v) : rawLam qual params body scope cl I' v :=
  let ⟨f, pm, c', ctv, oc, vs, tk, a, b, c, d, e⟩ := h; ⟨f, pm, c', ctv, oc, vs, tk, a, k _ _ b, k _ _ c, d, e⟩
/-- a lambda, the facts of its free names -/
noncomputable def lamV (d : Mut) (J : JM) (own : List (Str × Addr)) (ρ₁ : Rho) (qual : Str) (params : Arguments) (body : Expr) (scope : Scope) : VP :=
  ⟨fun I v => ∃ cl, rawLam qual params body scope cl I v ∧ (∀ x P, ρ₁.lookup x = some P → ∃ c, cl.lookup x = some c ∧ CellHas d J I c P) ∧ ∀ x c, own.lookup x = some c → scope.names.lookup x = some .free → cl.lookup x = some c,
   fun k ⟨cl, a, b, c⟩ => ⟨cl, a.mono k, fun x P e => let ⟨c, p, q⟩ := b x P e; ⟨c, p, q.mono k⟩, c⟩⟩
theorem tabs_inj : ∀ t ∈ tabsL, ∀ t' ∈ tabsL, t.2.2 = t'.2.2 → t = t' := by decide +kernel
section
variable {S : St} {d d' : Mut} {σ σi : Sig} {k : Nat} {J J' J'' J₁ : JM} {ρ ρ' ρ₁ : Rho} {P P₁ P₂ : VP} {r : Out} {e e₁ e₂ o body : Expr} {pos np tp ap pp sp cp hp rp p' p₁ p₂ : Pos} {x x₁ x₂ y name : Str} {l : List Env} {I I₀ I' : IM} {h₀ h h' : Heap} {s : Shared} {Q E : Value → Shared → Prop} {A : Around} {pl : Pl} {m : Str → Option Value} {c : Addr}
theorem tab_not_main {P : Addr} {ps : Array Value} {mg : Str → Option Value} (hg : h.Ns mainGlobals mg) (hP : h.get? P = some (tabObj ps)) : mainGlobals ≠ P := fun q => by
  obtain ⟨o, es, ep, e, hd, _⟩ := hg
  rw [q, hP] at e; cases e; cases hd
theorem EvOk.lamRaw {params : Arguments} {scope : Scope} {cA tA : Addr} (hT : (σ.qual, cA, tA) ∈ tabsL) (hcd : σ.cd = .ref cA) (hdef : ∀ env, defaultsOf params env = ([], [])) (hf : FreeOk σ scope ρ ρ₁) (hall : (scope.names.all fun y => y.2 != .free || ρ₁.any (·.1 == y.1)) = true) :
    EvOk S d σ k J (.Lambda params body scope pos) ρ (.val (lamV d J σ.own ρ₁ (lamQ σ.qual) params body scope)) := .mk fun {A l pl h₀ I₀ I m s Q E} F hp => by
  refine kla_eval (hdef _) ?_
  have hq : pl.env.qual ++ "<lambda>" = lamQ σ.qual := by rw [F.eq]; rfl
  rw [hq]
  -- the closure
  have fc : ∀ y ∈ scope.names, y.2 = .free → ∃ P c, ρ₁.lookup y.1 = some P ∧ pl.env.cells.lookup y.1 = some c ∧ CellHas d J I c P := by
    intro y hy hk
    have h1 := List.all_eq_true.mp hall y hy
    rw [hk] at h1
    have h2 : ρ₁.any (·.1 == y.1) = true := by simpa using h1
    obtain ⟨P, hP⟩ := any_lookup h2
    obtain ⟨g1, _, g3, _⟩ := hf.get hP
    obtain ⟨c, hc, hci⟩ := (F.rho _ _ g1).cellAt g3
    exact ⟨P, c, hP, hc, hci⟩
  let g : Str → Addr := fun n => (pl.env.cells.lookup n).getD 0
  have hg : ∀ y ∈ scope.names, y.2 = .free → pl.env.cells.lookup y.1 = some (g y.1) := fun y hy hk => by
    obtain ⟨P, c, _, hc, _⟩ := fc y hy hk
    show _ = some ((pl.env.cells.lookup y.1).getD 0)
    rw [hc]; rfl
  have hclos := closure_is hg
  generalize hcl : ((scope.names.filter (·.2 == .free)).map fun y => (y.1, g y.1)).reverse = cl at hclos
  have clAt : ∀ x P, ρ₁.lookup x = some P → ∃ c, cl.lookup x = some c ∧ CellHas d J I c P := fun y P e => by
    obtain ⟨g1, g2, g3, _⟩ := hf.get e
    obtain ⟨c, hc, hci⟩ := (F.rho _ _ g1).cellAt g3
    refine ⟨c, ?_, hci⟩
    have := lookup_map_free (g := g) (mem_of_lookup g2)
    rw [hcl] at this
    rw [this]
    show some ((pl.env.cells.lookup y).getD 0) = _
    rw [hc]; rfl
  have clOwn : ∀ x c, σ.own.lookup x = some c → scope.names.lookup x = some .free → cl.lookup x = some c := fun y c e e' => by
    have := lookup_map_free (g := g) (mem_of_lookup e')
    rw [hcl] at this
    rw [this]
    show some ((pl.env.cells.lookup y).getD 0) = _
    rw [(F.oc _ _ e).1]; rfl
  -- the table
  have ok := F.ok
  have hTab := ok.tabs _ hT
  obtain ⟨ps, hP, htr, hcodes⟩ := hTab.is
  have hoff := hTab.off
  dsimp only at hP htr hcodes hoff
  have kG : ∀ b o, S.G.get? b = some o → s.heap.get? b = some o := fun b o e => ok.imm _ _ (ok.base _ _ e)
  have hgs := S.top.g.keeps kG
  have hgP := tab_not_main hgs hP
  have C : CodeHd s.heap cA tA := (S.hd _ hT).keeps kG
  obtain ⟨bm, ob, b1, b2, b3, b4, b5, b6⟩ := S.bm
  have b3' := kG _ _ b3
  have hbP : bm ≠ tA := fun q => by
    rw [q, hP] at b3'; cases b3'; cases b4
  have hbG : bm ≠ mainGlobals := fun q => by
    obtain ⟨o, es, ep, e, hd, _⟩ := hgs
    rw [q, e] at b3'; cases b3'; rw [hd] at b6; cases b6
  have hbA : s.heap.BuiltinsAt S.mg tA := ⟨bm, ob, b1, b2, hbG, hbP, b3', b4, b5, b6⟩
  have hec : pl.env.code = .ref cA := by rw [F.ec]; exact hcd
  have nT : IsTab tA := ⟨_, hT, rfl⟩
  cases hn : codeAmong pos ps.toList with
  | none =>
    refine kla_makeFunction (mg := S.mg) hclos F.eg hgs hec C hP htr hn hgP hbA fun c' ctv h' tk hx hge hlt hrec htb => ?_
    obtain ⟨c₂, oc, vs, t, e2, hoc, hdc, hv⟩ := hrec
    cases e2
    have nc' : s.heap.get? c' = none := Heap.get?_none_of_le hge
    have nP : ∀ b o, I b = some o → b ≠ tA := fun b o e q => by rw [q, hoff] at e; cases e
    have kp : ∀ b o, b ≠ tA → s.heap.get? b = some o → h'.get? b = some o := fun b o hb e => hx b o hb e
    have cne : c' ≠ tA := fun q => by rw [q, hP] at nc'; cases nc'
    obtain ⟨q1, q2, q3, q4⟩ := ok.off nc'
    -- the state with the new table
    have okT : Ok S d (I.put c' oc) J (pl.fe :: l) h' := by
      refine ⟨fun b o e => ?_, fun b o e => Le.put q1 _ _ (ok.base _ _ e), fun t' ht' => ⟨?_, ?_⟩, fun env he => ?_, fun b hb => ?_, ok.dT, fun b hb => ?_⟩
      · by_cases z : b = c'
        · subst z; rw [IM.put_self] at e; cases e; exact hoc
        · rw [IM.put_ne z] at e
          exact kp _ _ (nP _ _ e) (ok.imm _ _ e)
      · rw [IM.put_ne (fun z => q3 ⟨t', ht', z⟩)]; exact (ok.tabs t' ht').off
      · by_cases z : t'.2.2 = tA
        · have := tabs_inj t' ht' _ hT z
          subst this
          refine ⟨_, htb, ?_, fun pos' cv hc => ?_⟩
          · rw [Array.toList_append]; exact TriplesOk_snoc _ _ _ _ htr
          · rw [Array.toList_append] at hc
            rcases among_snoc _ htr hc with hc | rfl
            · obtain ⟨c'', oc'', vs'', tk'', h1, h2, h3⟩ := hcodes pos' cv hc
              exact ⟨c'', oc'', vs'', tk'', h1, Le.put q1 _ _ h2, h3⟩
            · exact ⟨c', oc, vs, t, rfl, IM.put_self _ _ _, hdc, hv⟩
        · obtain ⟨ps', e', tr', r'⟩ := (ok.tabs t' ht').is
          refine ⟨ps', kp _ _ z e', tr', fun pos' cv hc => ?_⟩
          obtain ⟨c'', oc'', vs'', tk'', h1, h2, h3⟩ := r' pos' cv hc
          exact ⟨c'', oc'', vs'', tk'', h1, Le.put q1 _ _ h2, h3⟩
      · obtain ⟨a, L, o, es, ep, hf', b, c, f, g, r⟩ := ok.fr env he
        refine ⟨a, L, o, es, ep, hf', ?_, c, f, kp _ _ (fun z => f (z ▸ nT)) g, r⟩
        rw [IM.put_ne (fun z => q4 env he (by rw [hf', z]))]; exact b
      · rw [IM.put_ne (fun z => q2 (by rw [← z]; exact hb))]; exact ok.dI b hb
      · obtain ⟨o, e, j⟩ := ok.dk b hb
        exact ⟨o, kp _ _ (fun z => ok.dT b hb (z ▸ nT)) e, (J b).mono (Le.put q1) j⟩
    have stT : Step d (pl.fe :: l) s.heap h' := fun b o e => by
      by_cases z : b = tA
      · subst z; exact .inr (.inl nT)
      · exact .inl (kp b o z e)
    obtain ⟨okF, leF⟩ := okT.new (a := h'.objs.size) (h' := h'.push (kla_obj "<lambda>" (lamQ σ.qual) params body scope cl ((S.mg "__name__").getD .none) c' ctv)) (fun _ _ e => Heap.get?_push_of_some _ e) (get_size _) (Heap.get?_push_size _ rfl)
    refine hp _ _ _ tk ((Le.put q1).trans leF) okF (stT.trans (.of_keeps fun _ _ e => Heap.get?_push_of_some _ e)) ⟨cl, ⟨_, _, c', ctv, oc, vs, t, rfl, IM.put_self _ _ _, leF _ _ (IM.put_self _ _ _), hdc, hv⟩, fun x P e => ?_, clOwn⟩
    obtain ⟨c, a, b⟩ := clAt x P e
    exact ⟨c, a, b.mono ((Le.put q1).trans leF)⟩
  | some cv =>
    obtain ⟨c', oc, vs, t, rfl, hI, hdc, hv⟩ := hcodes pos cv hn
    refine kla_makeFunctionHit (mg := S.mg) hclos F.eg hgs hec C hP htr hn hbA fun ctv h' tk hk hsz => ?_
    obtain ⟨okF, leF⟩ := (ok.grow hk).new (a := h'.objs.size) (h' := h'.push (kla_obj "<lambda>" (lamQ σ.qual) params body scope cl ((S.mg "__name__").getD .none) c' ctv)) (fun _ _ e => Heap.get?_push_of_some _ e) (get_size _) (Heap.get?_push_size _ rfl)
    refine hp _ _ _ tk leF okF (.of_keeps fun b o e => Heap.get?_push_of_some _ (hk b o e)) ⟨cl, ⟨_, _, c', ctv, oc, vs, t, rfl, IM.put_self _ _ _, leF _ _ hI, hdc, hv⟩, fun x P e => ?_, clOwn⟩
    obtain ⟨c, a, b⟩ := clAt x P e
    exact ⟨c, a, b.mono leF⟩
theorem lookup_app {α : Type} {y : Str} {v : α} : ∀ {a b : List (Str × α)}, (a ++ b).lookup y = some v → a.lookup y = some v ∨ b.lookup y = some v
  | [], _, h => .inr h
  | (x, w) :: a, b, h => by
    rw [List.cons_append, List.lookup_cons] at h
    rw [List.lookup_cons]
    split at h
    · exact .inl h
    · exact lookup_app h
/-- a lambda is called -/
theorem lam_call {own : List (Str × Addr)} {params : Arguments} {scope : Scope} {qual : Str} {xs : List Str} {Ps : List VP} {I₁ : IM} {v : Value} (h : (lamV d J own ρ₁ qual params body scope).p I₁ v)
    (hb : ∀ cl pm cdv ct (vs : List Value), vs.length = Ps.length → bindArgs (kla_fn "<lambda>" qual params body scope cl pm cdv ct) ⟨vs, []⟩ = pure (xs.zip vs))
    (hx : (xs.all fun y => scope.names.lookup y == some .local) = true) (hn : xs.Nodup) (hs : (scope.kind == .function && !scope.isCoroutine && !scope.isGenerator && scope.names.all (fun y => y.2 != .cell)) = true)
    (hρ : (ρ₁.all fun y => scope.names.lookup y.1 == some .free) = true) (b : ∀ cd, EvOk S d ⟨qual, scope, cd, []⟩ k J body (xs.zip Ps ++ ρ₁) r) :
    (∃ f o fd, v = .ref f ∧ (I₁ f = some o ∨ S.G.get? f = some o) ∧ o.data = .func fd) ∧ CallV S d (k + 1) J v I₁ Ps r J := by
  obtain ⟨cl, ⟨f, pm, c', ctv, oc, tv, tk, rfl, hf, hc', hdc, hv⟩, hcl, -⟩ := h
  simp only [Bool.and_eq_true, Bool.not_eq_true', beq_iff_eq] at hs
  obtain ⟨⟨⟨hk, hco⟩, hgen⟩, hcell⟩ := hs
  refine ⟨⟨f, _, _, rfl, .inl hf, rfl⟩, fun {A l I s vs Q E} hl cx ok ha hp => ?_⟩
  have keep : ∀ b o, S.G.get? b = some o → s.heap.get? b = some o := fun b o e => ok.imm _ _ (ok.base _ _ e)
  refine wpAny_call (kla_callFunE (by have := cx.depth; unfold recursionLimit; lia) (ok.imm _ _ (hl _ _ hf)) rfl hco hgen rfl ⟨c', oc, tv, tk, rfl, ok.imm _ _ (hl _ _ hc'), hdc, hv⟩ ?_)
  rw [hb cl pm (.ref c') ctv vs ha.len]
  refine wpAny_pure (wpAny_newFunctionEnv (fun y hy => ?_) (fun y hy => ?_) (fun h₁ hns hsb => ⟨(S.top.nolimit.keeps keep).fresh _ hsb, ?_⟩) hk)
  · have := List.all_eq_true.mp hcell y hy
    simpa using this
  · have := List.all_eq_true.mp hx y.1 (List.of_mem_zip hy).1
    simpa using this
  · show codeAny _ _ (.expr body (envX qual scope s.heap.objs.size f (.ref c') cl)) _ _
    have hk₁ : ∀ b o, s.heap.get? b = some o → h₁.get? b = some o := fun b o e => hsb.extBut b o (Nat.ne_of_lt (Heap.lt_size e)) (Heap.get?_push_of_some _ e)
    obtain ⟨o1, o2, o3, o4⟩ := ok.off (get_size s.heap)
    have hfrs : (A.deeper (envX qual scope s.heap.objs.size f (.ref c') cl)).frames = some (envX qual scope s.heap.objs.size f (.ref c') cl :: l) := by
      show A.frames.map _ = _
      rw [cx.frames]; rfl
    have ok₁ : Ok S d I J (envX qual scope s.heap.objs.size f (.ref c') cl :: l) h₁ := by
      have g := ok.grow hk₁
      refine ⟨g.imm, g.base, g.tabs, fun env he => ?_, g.dI, g.dT, g.dk⟩
      rcases List.mem_cons.mp he with rfl | he
      · obtain ⟨o, es, ep, ho, hda, _⟩ := hns
        exact ⟨by show scope.kind ≠ _; rw [hk]; decide, s.heap.objs.size, o, es, ep, rfl, o1, o2, o3, ho, hda⟩
      · exact g.fr env he
    have F : FrameOk S d ⟨qual, scope, .ref c', []⟩ k J (xs.zip Ps ++ ρ₁) (A.deeper (envX qual scope s.heap.objs.size f (.ref c') cl)) l (Sig.pl ⟨qual, scope, .ref c', []⟩ s.heap.objs.size f cl) s.heap I I (fun x => (xs.zip vs).reverse.lookup x) h₁ := by
      refine ⟨⟨hfrs, cx.handled, ?_, ?_⟩, rfl, rfl, rfl, rfl, rfl, rfl, hk, ok₁, .of_keeps hk₁, get_size _, ?_, fun ⟨e, he, hf⟩ => o4 e he hf, hns, .inl ⟨o2, o3⟩, ⟨_, hns⟩, Le.refl _, ?_, fun _ _ e => by cases e⟩
      · show A.depth + 1 + 4 * k ≤ 900
        have := cx.depth; lia
      · show A.units + 3 + 64 * k ≤ 9000
        have := cx.units; lia
      · obtain ⟨z, oz, ez, hz⟩ := S.last
        exact Nat.le_trans hz (Heap.lt_size (keep _ _ ez))
      · intro y P e
        rcases lookup_app e with e | e
        · obtain ⟨v, hm, hv⟩ := zip_mem xs ha e
          have hy := List.all_eq_true.mp hx y (List.of_mem_zip hm).1
          have hy' : scope.names.lookup y = some .local := by simpa using hy
          unfold Reads
          dsimp only
          rw [hy']
          refine ⟨v, ?_, hv⟩
          show (xs.zip vs).reverse.lookup y = some v
          exact lookup_of_mem_keys (by rw [List.map_reverse]; exact List.pairwise_reverse.mpr ((zip_keys _ _ hn).imp Ne.symm)) (List.mem_reverse.mpr hm)
        · have hy := List.all_eq_true.mp hρ _ (mem_of_lookup e)
          have hy' : scope.names.lookup y = some .free := by simpa using hy
          obtain ⟨c, hc, hci⟩ := hcl y P e
          unfold Reads
          dsimp only
          rw [hy']
          exact ⟨c, hc, hci.mono hl⟩
    refine kla_codeExpr ?_
    cases r with
    | val P =>
      refine (b (.ref c')).run (s := { s with heap := h₁, toks := _ }) F fun v h' I' tk hl' ok' st hv => ?_
      exact hp v h' I' tk hl' ⟨ok'.imm, ok'.base, ok'.tabs, fun env he => ok'.fr env (.tail _ he), ok'.dI, ok'.dT, ok'.dk⟩ (F.since.out rfl F.new st) hv
    | new P =>
      refine (b (.ref c')).run (s := { s with heap := h₁, toks := _ }) F fun a h' I' tk hl' ok' st hv hn => ?_
      exact hp a h' I' tk hl' ⟨ok'.imm, ok'.base, ok'.tabs, fun env he => ok'.fr env (.tail _ he), ok'.dI, ok'.dT, ok'.dk⟩ (F.since.out rfl F.new st) hv (F.since.wide.fresh F.ok hn)
    | exc =>
      refine (b (.ref c')).run (s := { s with heap := h₁, toks := _ }) F fun e h' I' tk hl' fl => ?_
      exact Fly.leave (s := { s with heap := h', toks := tk }) hfrs rfl (get_size _) (fl.any.back (pl := Sig.pl ⟨qual, scope, .ref c', []⟩ s.heap.objs.size f cl) F.since) fun h₂ fl₂ => hp e h₂ I' tk hl' fl₂
structure CallT (S : St) (d : Mut) (k : Nat) (J : JM) (v : Value) (I₁ : IM) (Ps : List VP) (r : Out) : Prop where
  fn : ∃ f o fd, v = .ref f ∧ (I₁ f = some o ∨ S.G.get? f = some o) ∧ o.data = .func fd
  run : CallV S d k J v I₁ Ps r J
theorem CallT.mono {v : Value} {I₁ I₂ : IM} {Ps : List VP} (hl : Le I₁ I₂) (h : CallT S d k J v I₁ Ps r) : CallT S d k J v I₂ Ps r :=
  ⟨let ⟨f, o, fd, a, b, c⟩ := h.fn; ⟨f, o, fd, a, b.imp_left (hl _ _), c⟩, fun l => h.run (hl.trans l)⟩
/-- a function with this contract -/
noncomputable def fnV (S : St) (d : Mut) (k : Nat) (J : JM) (Ps : List VP) (r : Out) : VP := ⟨fun I v => CallT S d k J v I Ps r, fun k h => h.mono k⟩
/-- a name that holds a function is called -/
theorem EvOk.callV {es : List Expr} {Ps : List VP} {k' : Nat} (hn : EvOk S d σ k J (.Name x np) ρ (.val (fnV S d k' J Ps r))) (hk : k' ≤ k) (hs : PlainArgs es) (ha : ArgsOk S d σ k J es ρ Ps) : EvOk S d σ k J (.Call (.Name x np) es [] pos) ρ r :=
  EvOk.callLoc (o := fun _ _ => True) hn hs ha fun I v hv => ⟨hv.fn, CallV.le hk hv.run⟩
end
end Mine
end
section
open PySem PySem.W PyProof.Rows PySem.Calls PyProof PySem.Spec PyProof.Rows.LCg
namespace Mine
/-- the data of a value -/
noncomputable def Rd (P : VP) (D : PyData) : Prop := ∀ (I : IM) (v : Value) (h : Heap), (∀ b o, I b = some o → h.get? b = some o) → P.p I v → ∃ as, PySem.Reads h v D as
theorem Rd.int {i : Int} : Rd (isInt i) (.int i) := fun I v h k ⟨t, e⟩ => e ▸ ⟨_, PySem.Reads.int i t⟩
theorem Rd.none : Rd isNone .none := fun I v h k e => by cases e; exact ⟨_, PySem.Reads.none⟩
theorem ints_reads {h : Heap} : ∀ {vs : List Value} {xs : List Int}, IntsAre vs xs → ∃ as, ReadsAll h vs (xs.map .int) as
  | _, _, .nil => ⟨_, ReadsAll.nil⟩
  | _, _, .cons n t r => let ⟨as, q⟩ := ints_reads r; ⟨_, ReadsAll.cons (PySem.Reads.int n t) q⟩
theorem Rd.list {xs : List Int} : Rd (isList xs) (.list (xs.map .int)) := fun I v h k ⟨a, its, n, e, b, r⟩ => by
  subst e
  obtain ⟨as, q⟩ := ints_reads (h := h) r
  exact ⟨_, reads_list_at (k _ _ b) rfl rfl q⟩
theorem Rd.tup2 {P₁ P₂ : VP} {D₁ D₂ : PyData} (h₁ : Rd P₁ D₁) (h₂ : Rd P₂ D₂) : Rd (isTup [P₁, P₂]) (.tuple [D₁, D₂]) := fun I v h k ⟨a, vs, n, e, b, r⟩ => by
  subst e
  obtain ⟨v₁, v₂, rfl, q₁, q₂⟩ := r.two
  obtain ⟨as, z₁⟩ := h₁ I _ h k q₁
  obtain ⟨bs, z₂⟩ := h₂ I _ h k q₂
  exact ⟨_, reads_tuple_at (k _ _ b) rfl rfl (ReadsAll.cons z₁ (ReadsAll.cons z₂ ReadsAll.nil))⟩
theorem sh_list (xs : List Int) : SeqAt.shaped (.list (xs.map PyData.int)) = true := ke_shaped_ints xs
theorem sh_pair (xs : List Int) (i : Int) : SeqAt.shaped (.tuple [.list (xs.map PyData.int), .int i]) = true := by
  simp [SeqAt.shaped, PyData.canLay0, PyData.canLayAll0, PyData.depth, PyData.depthAll, ke_canLayAll0, ke_depthAll]
theorem eqv_list (xs ys : List Int) : PyData.eqv (.list (xs.map PyData.int)) (.list (ys.map PyData.int)) = decide (xs = ys) := by
  rw [PyData.eqv]; exact ked_eqvAll xs ys
theorem eqv_pair (xs ys : List Int) (i j : Int) : PyData.eqv (.tuple [.list (xs.map PyData.int), .int i]) (.tuple [.list (ys.map PyData.int), .int j]) = decide ((xs, i) = (ys, j)) := by
  simp only [PyData.eqv, PyData.eqvAll, ked_eqvAll, Bool.and_true, Prod.mk.injEq]
  by_cases h : xs = ys <;> by_cases h' : i = j <;> simp [h, h']
section
variable {S : St} {d d' : Mut} {σ : Sig} {k : Nat} {J J' : JM} {ρ ρ' : Rho} {P P₁ P₂ P₃ Pa Pr : VP} {r : BOut} {e e₁ e₂ e₃ o : Expr} {pos np tp ap pp sp p₁ p₂ p₃ : Pos} {x x₁ x₂ x₃ : Str} {rest : List Stmt} {Da Db : PyData} {b : Bool} {es : List Expr}
theorem EvOk.eqD (ra : Rd Pa Da) (rb : Rd Pr Db) (sa : SeqAt.shaped Da = true) (sb : SeqAt.shaped Db = true) (hb : PyData.eqv Da Db = b) (h₁ : EvOk S d σ k J e₁ ρ (.val Pa)) (h₂ : EvOk S d σ k J e₂ ρ (.val Pr)) (hm : behindInMarks .Eq e₂ = false) : EvOk S d σ k J (.Compare e₁ [.Eq] [e₂] pos) ρ (.val (isBool b)) :=
  EvOk.twoF (P := isBool b) (op := fun l r => .Compare l [.Eq] [r] pos) (fun h => wpAny_Compare1 h hm) h₁ h₂ fun {A l pl h₀ I₀ I m s Q E x y} F hx hy hp => by
    obtain ⟨as, z₁⟩ := ra I _ s.heap F.ok.imm hx
    obtain ⟨bs, z₂⟩ := rb I _ s.heap F.ok.imm hy
    refine eq_dataH z₁ z₂ sa sb (by have := F.cx.units; unfold cLine; lia) ?_
    exact hp.here (tk := s.toks) F.ok (by rw [hb]; rfl)
theorem TestOk.neD (ra : Rd Pa Da) (rb : Rd Pr Db) (sa : SeqAt.shaped Da = true) (sb : SeqAt.shaped Db = true) (hb : (!PyData.eqv Da Db) = b) (h₁ : EvOk S d σ k J e₁ ρ (.val Pa)) (h₂ : EvOk S d σ k J e₂ ρ (.val Pr)) (hm : behindInMarks .NotEq e₂ = false) : TestOk S d σ k J (.Compare e₁ [.NotEq] [e₂] pos) ρ b := .mk fun {A l pl h₀ I₀ I m s Q E} F hp => by
  refine wpAny_isTrue_Compare1 (h₁.run F fun v h' I' tk hl ok st hv => ?_) hm
  refine h₂.run (s := { s with heap := h', toks := tk }) (F.step hl ok st) fun v₂ h₂' I₂ tk₂ hl₂ ok₂ st₂ hv₂ => ?_
  obtain ⟨as, z₁⟩ := ra I₂ _ h₂' ok₂.imm (Pa.mono hl₂ hv)
  obtain ⟨bs, z₂⟩ := rb I₂ _ h₂' ok₂.imm hv₂
  refine ne_dataH (s := { s with heap := h₂', toks := tk₂ }) z₁ z₂ sa sb (by have := F.cx.units; unfold cLine; lia) ?_
  rw [hb]
  exact wpAny_truthy_bool (hp h₂' I₂ tk₂ (hl.trans hl₂) ok₂ (st.trans st₂))
/-- xs[-i] -/
theorem EvOk.itemNeg {xs : List Int} {i y : Int} (h₁ : EvOk S d σ k J e₁ ρ (.val (isList xs))) (h₂ : EvOk S d σ k J e₂ ρ (.val (isInt i))) (hs : IdxE e₂) (h0 : i < 0 ∧ -(xs.length : Int) ≤ i ∧ -(2 ^ 60) ≤ i) (hx : xs[(i + xs.length).toNat]? = some y) : EvOk S d σ k J (.Subscript e₁ e₂ pos) ρ (.val (isInt y)) :=
  EvOk.twoF (P := (isInt y)) (op := fun l r => .Subscript l r pos) (fun h => Subscript_ h) h₁ h₂ fun {A l pl h₀ I₀ I m s Q E x v} F hv ⟨t, hy⟩ hp => by
    obtain ⟨b, its, n, rfl, _, hb, hbi⟩ := isList_at F.ok hv
    subst hy
    obtain ⟨t', hx'⟩ := hbi.get _ _ hx
    have hsz : its.size = xs.length := by rw [← Array.length_toList, hbi.length]
    exact tail_any hb.typeIs slot_list_getitem.lookup (wpAny_getItem_list_neg hb h0.1 (by rw [hsz]; exact h0.2.1) (by lia) (by rw [hsz]; simpa using hx') (hp.here (tk := _) F.ok ⟨_, rfl⟩)) (hs _ _)
/-- xs.index(i) -/
theorem EvOk.index {xs : List Int} {i : Int} {apos : Pos} (h : EvOk S d σ k J o ρ (.val (isList xs))) (hs : PlainArgs es) (ha : ArgsOk S d σ k J es ρ [isInt i]) (he : Meth σ o (u "index") apos es pos) (hlay : PyData.layable0 (.list (xs.map .int)) = true) (hi : i ∈ xs) :
    EvOk S d σ k J (.Call (.Attribute o (u "index") apos) es [] pos) ρ (.val (isInt (xs.idxOf i : Nat))) := .mk fun {A l pl h₀ I₀ I m s Q E} F hp => by
  obtain ⟨plf, he⟩ := he
  refine MethodCall_ (h.run F fun v h' I' tk hl ok st hv => ?_) (he _)
  have F' := F.step hl ok st
  obtain ⟨b, its, n, rfl, hI, hb, hbi⟩ := isList_at ok hv
  refine getMethod_builtin hb.typeIs PySem.F.plainAttrs_list PySem.F.slot_list_index PySem.F.type_list_index (fun a e => by cases e; exact ⟨_, ok.imm _ _ hI, rfl⟩) ?_
  refine callBlt_ok (s := { s with heap := h', toks := tk }) F' hs ha fun vs h₂ I₂ tk₂ hl₂ ok₂ st₂ hv₂ => ?_
  obtain ⟨v, rfl, t, rfl⟩ := hv₂.one
  obtain ⟨b', its', n', e', _, hb', hbi'⟩ := isList_at ok₂ ((isList xs).mono hl₂ hv)
  cases e'
  refine index_list_ints (s := { s with heap := h₂, toks := tk₂ }) (by simpa using hb') hbi' hlay hi ?_
  exact (Post.after (r := .val _) (Post.after (tk := tk) (r := .val _) hp hl ok st) hl₂ ok₂ st₂) _ h₂ I₂ _ (Le.refl _) ok₂ (Step.refl _ _ _) ⟨_, rfl⟩
/-- sorted([a, b]) of a kind -/
theorem EvOk.sorted2 {q : List Int → Prop} (hk : σ.scope.names.lookup (u "sorted") = some .globalImplicit) (ha : ArgsOk S d σ k J [e] ρ [exL q]) (hs : PlainArgs [e]) (hz : ∀ xs, q xs → xs.length < 64) :
    EvOk S d σ k J (.Call (.Name (u "sorted") np) [e] [] pos) ρ (.val (exL fun ys => ∃ xs, q xs ∧ ys.Perm xs ∧ ys.Pairwise (· ≤ ·))) :=
  EvOk.callBlt (id := "sorted") (P := exL _) (EvOk.blt hk (fun _ => by kernel_rfl!) (by kernel_rfl!) (by decide +kernel) (by kernel_rfl!)) hs ha fun {A l pl h₀ I₀ I m s Q E vs} F hv hp => by
    obtain ⟨v, rfl, xs, hq, hx⟩ := hv.one
    obtain ⟨b, its, n, rfl, hI, hb, hbi⟩ := isList_at F.ok hx
    refine sorted_N F.fr (news_all _ _ _) (vs := its.toList) (by simpa using hb) hbi (by rw [hbi.length]; exact hz _ hq) fun h' vs' ns' e F' N' hi hpm hpw => ?_
    have nb : s.heap.get? (s.heap.objs.size + 1) = none := by
      cases q : s.heap.get? (s.heap.objs.size + 1) with
      | none => rfl
      | some o => exact absurd (Heap.lt_size q) (Nat.not_lt.mpr (Nat.le_succ _))
    obtain ⟨q1, q2, q3⟩ := F.bridge1 F' N' nb
    exact hp _ h' _ _ q2 q1 q3 ⟨ns', ⟨xs, hq, hpm, hpw⟩, _, _, _, rfl, IM.put_self _ _ _, by simpa using hi⟩
/-- a, b = a list of two -/
theorem Blk.unpackL2 {n : Nat} {q : List Int → Prop} (h : EvOk S d σ k J e ρ (.val (Mine.exL q))) (h1 : σ.scope.names.lookup x₁ = some .local) (h2 : σ.scope.names.lookup x₂ = some .local)
    (hs : ∀ env, swapsWithSole [.Tuple [.Name x₁ p₁, .Name x₂ p₂] n tp] e pos.line env = pure false) (hw : ∀ env, swappedStores [.Tuple [.Name x₁ p₁, .Name x₂ p₂] n tp] e env = pure none) (hq : ∀ xs, q xs → xs.length = 2)
    (b : ∀ i j, q [i, j] → Blk S d σ k J rest ((x₂, isInt j) :: (x₁, isInt i) :: ρ) r J') : Blk S d σ k J (.Assign [.Tuple [.Name x₁ p₁, .Name x₂ p₂] n tp] e pos :: rest) ρ r J' := .mk fun {A l pl h₀ I₀ I m s Q E} hf F hp => by
  refine wpAny_execs_cons (PyProof.Rows.Assign_Tuple (h.run F fun v h' I' tk hl ok st hv => ?_) (hs _) (hw _))
  have F' := F.step hl ok st
  obtain ⟨xs, hx, hv⟩ := hv
  obtain ⟨a, its, n', rfl, hI, hb, hbi⟩ := isList_at ok hv
  have h2' := hq _ hx
  have hsz : its.size = 2 := by rw [← Array.length_toList, hbi.length, h2']
  match xs, h2' with
  | [i, j], _ =>
    obtain ⟨t, t', e'⟩ : ∃ t t', its.toList = [.int i t, .int j t'] := by
      generalize its.toList = vs at hbi
      cases hbi with | cons _ t r => cases r with | cons _ t' r => cases r; exact ⟨t, t', rfl⟩
    rw [assign_Tuple]
    refine wpAny_bind (wpAny_standAt ?_)
    unfold unpack
    refine wpAny_bind (wpAny_holding ?_)
    show wpAny _ _ (unpackItems _ 2 none) _ _ _
    rw [← hsz]
    refine kun_itemsOf (s := { s with heap := h', toks := tk }) F.cx.handled hb fun h₂ hk₂ => ?_
    obtain ⟨ok₂, st₂⟩ := ok.extB (get_size h') hk₂
    rw [e']
    refine assignInOrder_cons ((F'.step (Le.refl _) ok₂ st₂).put1 (P := isInt i) (s := { s with heap := h₂, toks := tk }) hf h1 ⟨_, rfl⟩ fun h₃ m₃ tk₃ F₃ => ?_)
    refine assignInOrder_cons (F₃.put1 (P := isInt j) (s := { s with heap := h₃, toks := tk₃ }) hf h2 ⟨_, rfl⟩ fun h₄ m₄ tk₄ F₄ => ?_)
    exact assignInOrder_nil ((b i j hx).run (s := { s with heap := h₄, toks := tk₄ }) hf F₄ hp)
theorem FrameOk.bind1 {A : Around} {l : List Env} {pl : Pl} {h₀ : Heap} {I₀ I : IM} {m : Str → Option Value} {s : Shared} {E : Value → Shared → Prop} (F : FrameOk S d σ k J ρ A l pl h₀ I₀ I m s.heap) (fn : pl.IsFn) (hk : σ.scope.names.lookup x = some .local) {v : Value} (hv : P.p I v) {Q : Unit → Shared → Prop}
    (hQ : ∀ h' m' tk, FrameOk S d σ k J ((x, P) :: ρ) A l pl h₀ I₀ I m' h' → Q () { s with heap := h', toks := tk }) : wpAny (model pw S.w) A (bindName pl.env x v) Q E s :=
  wpAny_bindName (wpAny_storeName_local (F.kof hk) F.ns (fun h₂ hn hs => hQ _ _ _ (F.store fn hk hn hs hv)) (by rw [F.knd]; rfl))
/-- a, b = x, y -/
theorem Blk.swap2 {n : Nat} (h : EvOk S d σ k J e ρ (.val (isTup [P₁, P₂]))) (h1 : σ.scope.names.lookup x₁ = some .local) (h2 : σ.scope.names.lookup x₂ = some .local)
    (hs : ∀ env, swapsWithSole [.Tuple [.Name x₁ p₁, .Name x₂ p₂] n tp] e pos.line env = pure false) (hw : ∀ env : Env, env.scope = σ.scope → swappedStores [.Tuple [.Name x₁ p₁, .Name x₂ p₂] n tp] e env = pure (some [x₁, x₂]))
    (b : Blk S d σ k J rest ((x₁, P₁) :: (x₂, P₂) :: ρ) r J') : Blk S d σ k J (.Assign [.Tuple [.Name x₁ p₁, .Name x₂ p₂] n tp] e pos :: rest) ρ r J' := .mk fun {A l pl h₀ I₀ I m s Q E} hf F hp => by
  have hw' := hw pl.env F.esc
  clear hw
  refine wpAny_execs_cons (PyProof.Rows.Assign_Tuple_swapped (names := [x₁, x₂]) ?_ (hs _) hw')
  refine h.run F fun v h' I' tk hl ok st hv => ?_
  have F' := F.step hl ok st
  obtain ⟨a, vs, rfl, ht, hvs⟩ := tup_at ok hv
  obtain ⟨v, v', rfl, hv1, hv2⟩ := hvs.two
  rw [show ([x₁, x₂] : List Str).length = (List.toArray [v, v']).size from rfl]
  refine unpackItems_tuple (s := { s with heap := h', toks := tk }) F.cx.handled ht fun h₂ hk₂ => ?_
  obtain ⟨ok₂, st₂⟩ := ok.extB (get_size h') hk₂
  show wpAny _ _ (assignInOrder [fun w => bindName pl.env x₂ w, fun w => bindName pl.env x₁ w] [v', v]) _ _ _
  refine assignInOrder_cons ((F'.step (Le.refl _) ok₂ st₂).bind1 (s := { s with heap := h₂, toks := tk }) hf h2 hv2 fun h₃ m₃ tk₃ F₃ => ?_)
  refine assignInOrder_cons (F₃.bind1 (s := { s with heap := h₃, toks := tk₃ }) hf h1 hv1 fun h₄ m₄ tk₄ F₄ => ?_)
  exact assignInOrder_nil (b.run (s := { s with heap := h₄, toks := tk₄ }) hf F₄ hp)
/-- a, b, c = x, y, z -/
theorem Blk.swap3 {n : Nat} (h : EvOk S d σ k J e ρ (.val (isTup [P₁, P₂, P₃]))) (h1 : σ.scope.names.lookup x₁ = some .local) (h2 : σ.scope.names.lookup x₂ = some .local) (h3 : σ.scope.names.lookup x₃ = some .local)
    (hs : ∀ env, swapsWithSole [.Tuple [.Name x₁ p₁, .Name x₂ p₂, .Name x₃ p₃] n tp] e pos.line env = pure false) (hw : ∀ env : Env, env.scope = σ.scope → swappedStores [.Tuple [.Name x₁ p₁, .Name x₂ p₂, .Name x₃ p₃] n tp] e env = pure (some [x₁, x₂, x₃]))
    (b : Blk S d σ k J rest ((x₁, P₁) :: (x₂, P₂) :: (x₃, P₃) :: ρ) r J') : Blk S d σ k J (.Assign [.Tuple [.Name x₁ p₁, .Name x₂ p₂, .Name x₃ p₃] n tp] e pos :: rest) ρ r J' := .mk fun {A l pl h₀ I₀ I m s Q E} hf F hp => by
  have hw' := hw pl.env F.esc
  clear hw
  refine wpAny_execs_cons (PyProof.Rows.Assign_Tuple_swapped (names := [x₁, x₂, x₃]) ?_ (hs _) hw')
  refine h.run F fun v h' I' tk hl ok st hv => ?_
  have F' := F.step hl ok st
  obtain ⟨a, vs, rfl, ht, hvs⟩ := tup_at ok hv
  obtain ⟨v, v', v'', rfl, hv1, hv2, hv3⟩ := Mine.Args.three hvs
  rw [show ([x₁, x₂, x₃] : List Str).length = (List.toArray [v, v', v'']).size from rfl]
  refine unpackItems_tuple (s := { s with heap := h', toks := tk }) F.cx.handled ht fun h₂ hk₂ => ?_
  obtain ⟨ok₂, st₂⟩ := ok.extB (get_size h') hk₂
  show wpAny _ _ (assignInOrder [fun w => bindName pl.env x₃ w, fun w => bindName pl.env x₂ w, fun w => bindName pl.env x₁ w] [v'', v', v]) _ _ _
  refine assignInOrder_cons ((F'.step (Le.refl _) ok₂ st₂).bind1 (s := { s with heap := h₂, toks := tk }) hf h3 hv3 fun h₃ m₃ tk₃ F₃ => ?_)
  refine assignInOrder_cons (F₃.bind1 (s := { s with heap := h₃, toks := tk₃ }) hf h2 hv2 fun h₄ m₄ tk₄ F₄ => ?_)
  refine assignInOrder_cons (F₄.bind1 (s := { s with heap := h₄, toks := tk₄ }) hf h1 hv1 fun h₅ m₅ tk₅ F₅ => ?_)
  exact assignInOrder_nil (b.run (s := { s with heap := h₅, toks := tk₅ }) hf F₅ hp)
/-- a display of kinds -/
theorem EvOk.listX {Ps : List VP} {q : List Int → Prop} (ha : ArgsOk S d σ k J es ρ Ps) (hz : Ps.length ≤ 64) (hq : ∀ I vs, Mine.Args I Ps vs → ∃ xs, q xs ∧ IntsAre vs xs) : EvOk S d σ k J (.List es pos) ρ (.val (exL q)) := .mk fun {A l pl h₀ I₀ I m s Q E} F hp => by
  refine List_ (ha.run F fun vs h' I' tk hl ok st hv => ?_)
  have F' := F.step hl ok st
  refine newList_N F'.fr (news_all _ _ _) (fun h₂ F₂ N₂ => ?_) (by rw [hv.len, sizeLine_eq]; lia)
  obtain ⟨q1, q2, q3⟩ := F'.bridge1 F₂ N₂ (get_size _)
  obtain ⟨xs, hx, hi⟩ := hq _ _ hv
  exact hp _ h₂ _ _ (hl.trans q2) q1 (st.trans q3) ⟨xs, hx, _, _, _, rfl, IM.put_self _ _ _, by simpa using hi⟩
end
end Mine
end
section
open PySem PySem.W PyProof.Rows PySem.Calls PyProof PySem.Spec PyProof.Rows.LCg
namespace Mine
noncomputable def IM.drop (I : IM) (a : Addr) : IM := fun b => if b = a then none else I b
theorem IM.drop_self (I : IM) (a : Addr) : I.drop a a = none := if_pos rfl
theorem IM.drop_ne {I : IM} {a b : Addr} (h : b ≠ a) : I.drop a b = I b := if_neg h
section
variable {S : St} {d d' : Mut} {σ : Sig} {k : Nat} {J J' : JM} {ρ ρ' : Rho} {P : VP} {e : Expr} {pos p' : Pos} {x : Str} {l : List Env} {I I₀ I' : IM} {h₀ h h' : Heap} {rest : List Stmt} {a : Addr}
theorem Ok.drop {its : Array Value} {n : Nat} (ok : Ok S d I J l h) (hd0 : ∀ b, ¬ d b) (ha : I a = some (listOf its n)) (hg : S.G.get? a = none) : Ok S d (I.drop a) J l h := by
  refine ⟨fun b o e => ?_, fun b o e => ?_, fun t ht => ⟨?_, ?_⟩, fun env he => ?_, fun b hb => absurd hb (hd0 b), fun b hb => absurd hb (hd0 b), fun b hb => absurd hb (hd0 b)⟩
  · by_cases q : b = a
    · subst q; rw [IM.drop_self] at e; cases e
    · rw [IM.drop_ne q] at e; exact ok.imm _ _ e
  · rw [IM.drop_ne (fun q => by rw [q, hg] at e; cases e)]; exact ok.base _ _ e
  · by_cases q : t.2.2 = a
    · rw [q, IM.drop_self]
    · rw [IM.drop_ne q]; exact (ok.tabs t ht).off
  · obtain ⟨ps, e, tr, r⟩ := (ok.tabs t ht).is
    refine ⟨ps, e, tr, fun pos cv hc => ?_⟩
    obtain ⟨c', oc, vs, tk, h1, h2, h3, h4⟩ := r pos cv hc
    refine ⟨c', oc, vs, tk, h1, ?_, h3, h4⟩
    rw [IM.drop_ne (fun q => by rw [q, ha] at h2; cases h2; cases h3)]
    exact h2
  · obtain ⟨z, L, o, es, ep, hf, hL, r⟩ := ok.fr env he
    refine ⟨z, L, o, es, ep, hf, ?_, r⟩
    by_cases q : L = a
    · rw [q, IM.drop_self]
    · rw [IM.drop_ne q]; exact hL
/-- x = f(..), a fresh list that is turned later -/
theorem Blk.assignNew {q : List Int → Prop} {O O' : OP} (h : EvOk S d σ k J e ρ (.new (Mine.exL q))) (hd0 : ∀ b, ¬ d b) (hO : ∀ I xs o, q xs → (listO xs).p I o → O.p I o) (hx : σ.scope.names.lookup x = some .local) (hs : ∀ env, swapsWith e (some (.Name x p')) pos.line env = pure false)
    (b : ∀ a, ¬ d a → Blk S (plus d a) σ k (Mine.upd J a O) rest ((x, isV (.ref a)) :: ρ) (.ret P) (Mine.upd J' a O')) : Blk S d σ k J (.Assign [.Name x p'] e pos :: rest) ρ (.ret P) J' := .mk fun {A l pl h₀ I₀ I m s Q E} hf F hp => by
  refine wpAny_execs_cons (wpAny_Assign_Name (h.run F fun a h' I' tk hl ok st hv hn => ?_) (hs _))
  obtain ⟨xs, hq, b', its, n, e', hI, hi⟩ := hv
  cases e'
  obtain ⟨o1, o2, o3, o4⟩ := F.ok.off hn
  have hg : S.G.get? a = none := by
    cases z : S.G.get? a with
    | none => rfl
    | some o => rw [F.ok.base _ _ z] at o1; cases o1
  have le : Le I (I'.drop a) := fun b o e => by
    rw [IM.drop_ne (fun z => by rw [z, o1] at e; cases e)]; exact hl _ _ e
  have ok₂ := Ok.updated (O := O) (ok.drop hd0 hI hg) (IM.drop_self _ _) o2 o3 (fun env he z => by
    obtain ⟨_, L, _, _, _, hL, hIL, _⟩ := ok.fr env he
    rw [hL] at z
    rw [Option.some.inj z, hI] at hIL; cases hIL) (ok.imm _ _ hI) (hO _ xs _ hq ⟨its, n, rfl, hi⟩)
  have F₃ := F.jumpTo (J' := Mine.upd J a O) hf le (fun b hb => .inl hb) ok₂ (st.more fun b hb => .inl hb) fun _ c P _ hc => (upd_more o2).cell le hc
  have n₀ : h₀.get? a = none := F.since.wide.fresh F.ok hn
  refine wpAny_storeName_local (s := { s with heap := h', toks := tk }) (F₃.kof hx) F₃.ns (fun h₄ hn₄ hs₄ => ?_) (by rw [F₃.knd]; rfl)
  have F₄ := F₃.store (P := isV (.ref a)) hf hx hn₄ hs₄ rfl
  refine (b a o2).run (s := { s with heap := h₄, toks := _ }) hf F₄ fun v h₅ I₅ tk₅ hl₅ ok₅ st₅ hv₅ => ?_
  exact hp v h₅ I₅ tk₅ hl₅ (ok₅.less (upd_more o2)) ((Step.refl _ _ _).thru (d' := plus d a) (fun b hb => hb.imp_right fun (q : b = a) => q ▸ n₀) st₅) hv₅
end
end Mine
end
section
open PySem PySem.W PyProof.Rows PySem.Calls PyProof PySem.Spec
namespace Mine
local macro_rules | `(tactic| walk_at "E") => `(tactic| focus walk_at "ev")
local macro_rules | `(tactic| walk_at "A") => `(tactic| focus walk_at "args")
local macro_rules | `(tactic| walk_at "D") => `(tactic| focus walk_at "sd")
local macro_rules | `(tactic| walk_at "K") => `(tactic| focus kernel_rfl!)
local macro_rules | `(tactic| walk_at "R") => `(tactic| focus (intro _; rfl))
local macro_rules | `(tactic| walk_at "RR") => `(tactic| focus (intro _ _; rfl))
local macro_rules | `(tactic| walk_at "T") => `(tactic| focus walk_at "te")
local macro_rules | `(tactic| walk_at "F") => `(tactic| focus rfl)
local macro_rules | `(tactic| walk_at "L") => `(tactic| focus walk_at "lk")
local macro_rules | `(tactic| walk_at "O") => `(tactic| focus lia)
local macro_rules | `(tactic| walk_at "C") => `(tactic| focus walk_at "cm")
local macro_rules | `(tactic| walk_at "N") => `(tactic| focus walk_at "ln")
theorem len0 {α : Type} {vs : List α} (h : vs.length = 0) : vs = [] := List.length_eq_zero_iff.mp h
theorem len1 {α : Type} {vs : List α} (h : vs.length = 1) : ∃ a, vs = [a] := by
  cases vs with
  | nil => cases h
  | cons x r => exact ⟨x, by rw [len0 (Nat.succ.inj h)]⟩
theorem len2 {α : Type} {vs : List α} (h : vs.length = 2) : ∃ a b, vs = [a, b] := by
  cases vs with
  | nil => cases h
  | cons x r => obtain ⟨b, rfl⟩ := len1 (Nat.succ.inj h); exact ⟨x, b, rfl⟩
theorem len3 {α : Type} {vs : List α} (h : vs.length = 3) : ∃ a b c, vs = [a, b, c] := by
  cases vs with
  | nil => cases h
  | cons x r => obtain ⟨b, c, rfl⟩ := len2 (Nat.succ.inj h); exact ⟨x, b, c, rfl⟩
theorem len4 {α : Type} {vs : List α} (h : vs.length = 4) : ∃ a b c d, vs = [a, b, c, d] := by
  cases vs with
  | nil => cases h
  | cons x r => obtain ⟨b, c, d, rfl⟩ := len3 (Nat.succ.inj h); exact ⟨x, b, c, d, rfl⟩
theorem len5 {α : Type} {vs : List α} (h : vs.length = 5) : ∃ a b c d e, vs = [a, b, c, d, e] := by
  cases vs with
  | nil => cases h
  | cons x r => obtain ⟨b, c, d, e, rfl⟩ := len4 (Nat.succ.inj h); exact ⟨x, b, c, d, e, rfl⟩
theorem len6 {α : Type} {vs : List α} (h : vs.length = 6) : ∃ a b c d e f, vs = [a, b, c, d, e, f] := by
  cases vs with
  | nil => cases h
  | cons x r => obtain ⟨b, c, d, e, f, rfl⟩ := len5 (Nat.succ.inj h); exact ⟨x, b, c, d, e, f, rfl⟩
section
variable {S : St} {d : Mut} {σ : Sig} {k : Nat} {J J' J'' : JM} {ρ ρ' ρ'' : Rho} {P P' : VP} {r : Out} {r' : BOut} {e e₁ e₂ e₃ : Expr} {pos p' np : Pos} {x : Str} {es : List Expr} {Ps Ps' : List VP} {rest body els : List Stmt} {test : Expr} {b b' : Bool}
theorem EvOk.to (h : EvOk S d σ k J e ρ (.val P)) (c : P = P') : EvOk S d σ k J e ρ (.val P') := c ▸ h
theorem TestOk.to (h : TestOk S d σ k J e ρ b) (c : b = b') : TestOk S d σ k J e ρ b' := c ▸ h
theorem isInt_eq {i j : Int} (h : i = j) : isInt i = isInt j := h ▸ rfl
theorem EvOk.cmp' {op : CmpOp} {Pa Pr : VP} (h₁ : EvOk S d σ k J e₁ ρ (.val Pa)) (h₂ : EvOk S d σ k J e₂ ρ (.val Pr)) (hm : behindInMarks op e₂ = false) (c : CmpIs S d J op Pa Pr b) : EvOk S d σ k J (.Compare e₁ [op] [e₂] pos) ρ (.val (isBool b)) := EvOk.cmp c h₁ h₂ hm
theorem TestOk.cmp' {op : CmpOp} {Pa Pr : VP} (h₁ : EvOk S d σ k J e₁ ρ (.val Pa)) (h₂ : EvOk S d σ k J e₂ ρ (.val Pr)) (hm : behindInMarks op e₂ = false) (c : CmpIs S d J op Pa Pr b) : TestOk S d σ k J (.Compare e₁ [op] [e₂] pos) ρ b := TestOk.cmp c h₁ h₂ hm
theorem TestOk.chain' {op op' : CmpOp} {Pa Pb Pc : VP} (h₁ : EvOk S d σ k J e₁ ρ (.val Pa)) (h₂ : EvOk S d σ k J e₂ ρ (.val Pb)) (h₃ : EvOk S d σ k J e₃ ρ (.val Pc)) (hm : lastMarks [op, op'] [e₂, e₃] = false) (c : CmpIs S d J op Pa Pb b) (c' : CmpIs S d J op' Pb Pc b') : TestOk S d σ k J (.Compare e₁ [op, op'] [e₂, e₃] pos) ρ (b && b') := TestOk.chain c c' h₁ h₂ h₃ hm
theorem EvOk.callF {f : Addr} {fd : FuncData} (D : IsDef f fd) (c : CallOk S d k J f Ps r J) (hk : σ.scope.names.lookup x = some .globalImplicit) (hg : ∀ P, nsIn (Kf P) mainGlobals x = some (some (.ref f))) (hd : (x == ("__debug__" : Str)) = false) (hs : PlainArgs es) (ha : ArgsOk S d σ k J es ρ Ps) : EvOk S d σ k J (.Call (.Name x np) es [] pos) ρ r := EvOk.callDef (EvOk.glob hk hg hd) D hs ha c
theorem Blk.retE (h : EvOk S d σ k J e ρ (.val P)) (c : P = P') : Blk S d σ k J (.Return (some e) pos :: rest) ρ (.ret P') J := c ▸ Blk.ret h
theorem Blk.ifFe (t : TestOk S d σ k J test ρ b) (hb : b = false) (b₁ : Blk S d σ k J els ρ (.fall ρ') J') (b : Blk S d σ k J' rest ρ' r' J'') : Blk S d σ k J (.If test body els pos :: rest) ρ r' J'' := Blk.ifF (hb ▸ t) b₁ b
theorem Blk.ifRe (t : TestOk S d σ k J test ρ b) (hb : b = true) (b₁ : Blk S d σ k J body ρ (.ret P) J') : Blk S d σ k J (.If test body els pos :: rest) ρ (.ret P) J' := Blk.ifR (hb ▸ t) b₁
theorem Blk.ifTe (t : TestOk S d σ k J test ρ b) (hb : b = true) (b₁ : Blk S d σ k J body ρ (.fall ρ') J') (b : Blk S d σ k J' rest ρ' r' J'') : Blk S d σ k J (.If test body els pos :: rest) ρ r' J'' := Blk.ifT (hb ▸ t) b₁ b
theorem Blk.ifXe (t : TestOk S d σ k J test ρ b) (hb : b = true) (b₁ : Blk S d σ k J body ρ .exc J') : Blk S d σ k J (.If test body els pos :: rest) ρ .exc J' := Blk.ifX (hb ▸ t) b₁
/-- fewer, or the same names in another order -/
theorem Holds.sub {cl : List (Str × Addr)} {m : Str → Option Value} {I : IM} (c : ∀ x P, ρ'.lookup x = some P → ρ.lookup x = some P) (h : Holds d J σ ρ cl m I) : Holds d J σ ρ' cl m I := fun x P e => h x P (c x P e)
theorem Holds.one {cl : List (Str × Addr)} {m : Str → Option Value} {I : IM} (h : Holds d J σ ρ cl m I) (c : ρ.lookup x = some P) (h' : Holds d J σ ρ' cl m I) : Holds d J σ ((x, P) :: ρ') cl m I := fun y Q e => by
  rw [List.lookup_cons] at e
  by_cases q : y = x
  · subst q
    simp only [beq_self_eq_true] at e
    cases e
    exact h _ _ c
  · have q1 : (y == x) = false := by simpa using q
    rw [q1] at e
    exact h' _ _ e
theorem Holds.none_ {cl : List (Str × Addr)} {m : Str → Option Value} {I : IM} : Holds d J σ [] cl m I := fun _ _ e => by cases e
theorem EvOk.callM {C f : Addr} {fd : FuncData} {fs : List (Str × VP)} {o : Expr} {name : Str} {apos : Pos} (D : IsDef f fd) (hm : ∀ P, methOk (Kf P) C name f = true) (hf : fs.lookup name = none) (c : CallOk S d k J f (isInst C fs :: Ps) r J) (h : EvOk S d σ k J o ρ (.val (isInst C fs))) (hs : PlainArgs es) (ha : ArgsOk S d σ k J es ρ Ps) (he : Meth σ o name apos es pos) :
    EvOk S d σ k J (.Call (.Attribute o name apos) es [] pos) ρ r := let ⟨_, he⟩ := he
  EvOk.meth (f := f) h hm D hf hs ha c he
theorem EvOk.ifTe (ht : TestOk S d σ k J test ρ b) (hb : b = true) (h : EvOk S d σ k J e₁ ρ (.val P)) : EvOk S d σ k J (.IfExp test e₁ e₂ pos) ρ (.val P) := EvOk.ifT (hb ▸ ht) h
theorem EvOk.ifFe (ht : TestOk S d σ k J test ρ b) (hb : b = false) (h : EvOk S d σ k J e₂ ρ (.val P)) : EvOk S d σ k J (.IfExp test e₁ e₂ pos) ρ (.val P) := EvOk.ifF (hb ▸ ht) h
theorem EvOk.intG {np : Pos} (hk : σ.scope.names.lookup (u "int") = some .globalImplicit) (ha : ArgsOk S d σ k J [e] ρ [isBool b]) (hs : PlainArgs [e]) : EvOk S d σ k J (.Call (.Name (u "int") np) [e] [] pos) ρ (.val (isInt (if b then 1 else 0))) :=
  EvOk.intB (EvOk.blt hk (fun _ => by kernel_rfl!) (by kernel_rfl!) (by decide +kernel) (by kernel_rfl!)) hs ha
theorem EvOk.tupleG {es : List Expr} {Ps : List VP} {n : Nat} (ha : ArgsOk S d σ k J es ρ Ps) (hz : Nat.ble Ps.length 64 = true) : EvOk S d σ k J (.Tuple es n pos) ρ (.val (isTup Ps)) := EvOk.tuple ha (Nat.le_of_ble_eq_true hz)
theorem EvOk.tupAt1 {i : Int} {n : Nat} {cp : Pos} {j : Nat} (h₁ : EvOk S d σ k J e₁ ρ (.val (isTup Ps))) (hj : seqIndex? i Ps.length = some j) (hP : Ps[j]? = some P) (hi : (decide (-(2 ^ 62) ≤ i) && decide (i < 2 ^ 62)) = true) : EvOk S d σ k J (.Subscript e₁ (.Constant (.int i) n cp) pos) ρ (.val P) := EvOk.tupAt hj hP (by simpa using hi) h₁
theorem EvOk.addL1 {xs ys : List Int} (h₁ : EvOk S d σ k J e₁ ρ (.val (isList xs))) (h₂ : EvOk S d σ k J e₂ ρ (.val (isList ys))) (hz : xs.length + ys.length ≤ 2 ^ 20) : EvOk S d σ k J (.BinOp e₁ .Add e₂ pos) ρ (.val (isList (xs ++ ys))) := EvOk.addL hz h₁ h₂
theorem EvOk.listV {es : List Expr} (ha : ArgsOk S d σ k J es ρ Ps) (hz : Nat.ble Ps.length 64 = true) : EvOk S d σ k J (.List es pos) ρ (.val (isListOf Ps)) := .mk fun {A l pl h₀ I₀ I m s Q E} F hp => by
  have hz := Nat.le_of_ble_eq_true hz
  refine List_ (ha.run F fun vs h' I' tk hl ok st hv => ?_)
  have F' := F.step hl ok st
  refine newList_N F'.fr (news_all _ _ _) (fun h₂ F₂ N₂ => ?_) (by rw [hv.len, sizeLine_eq]; lia)
  obtain ⟨q1, q2, q3⟩ := F'.bridge1 F₂ N₂ (get_size _)
  exact hp _ h₂ _ _ (hl.trans q2) q1 (st.trans q3) ⟨_, _, _, rfl, IM.put_self _ _ _, by simpa using hv.mono q2⟩
theorem EvOk.maxG {np : Pos} {i j : Int} (hk : σ.scope.names.lookup (u "max") = some .globalImplicit) (ha : ArgsOk S d σ k J [e₁, e₂] ρ [isInt i, isInt j]) (hs : PlainArgs [e₁, e₂]) : EvOk S d σ k J (.Call (.Name (u "max") np) [e₁, e₂] [] pos) ρ (.val (isInt (Max.max i j))) :=
  EvOk.max (EvOk.blt hk (fun _ => by kernel_rfl!) (by kernel_rfl!) (by decide +kernel) (by kernel_rfl!)) hs ha
theorem EvOk.minG {np : Pos} {i j : Int} (hk : σ.scope.names.lookup (u "min") = some .globalImplicit) (ha : ArgsOk S d σ k J [e₁, e₂] ρ [isInt i, isInt j]) (hs : PlainArgs [e₁, e₂]) : EvOk S d σ k J (.Call (.Name (u "min") np) [e₁, e₂] [] pos) ρ (.val (isInt (Min.min i j))) :=
  EvOk.min (EvOk.blt hk (fun _ => by kernel_rfl!) (by kernel_rfl!) (by decide +kernel) (by kernel_rfl!)) hs ha
noncomputable abbrev isPair (x : Int × Int) : VP := isTup [isInt x.1, isInt x.2]
theorem cmp_is_int {i : Int} : CmpIs S d J .Is (isInt i) isNone false := fun {A l I s Q E x y} ok _ ⟨t, ha⟩ hb hp => by
  have hb : y = .none := hb
  subst ha; subst hb
  exact wpAny_of_eq (a := Value.bool false) rfl (hp.here (tk := _) ok rfl)
theorem cmp_is_tup {Ps : List VP} : CmpIs S d J .Is (isTup Ps) isNone false := fun {A l I s Q E x y} ok _ ⟨a, _, _, ha, _⟩ hb hp => by
  have hb : y = .none := hb
  subst ha; subst hb
  exact wpAny_of_eq (a := Value.bool false) rfl (hp.here (tk := _) ok rfl)
theorem cmp_is_inst {C : Addr} {fs : List (Str × VP)} : CmpIs S d J .Is (isInst C fs) isNone false := fun {A l I s Q E x y} ok _ ⟨a, _, _, _, ha, _⟩ hb hp => by
  have hb : y = .none := hb
  subst ha; subst hb
  exact wpAny_of_eq (a := Value.bool false) rfl (hp.here (tk := _) ok rfl)
theorem cmp_is_none : CmpIs S d J .Is isNone isNone true := fun {A l I s Q E x y} ok _ ha hb hp => by
  have ha : x = .none := ha
  have hb : y = .none := hb
  subst ha; subst hb
  exact wpAny_of_eq (a := Value.bool true) rfl (hp.here (tk := _) ok rfl)
theorem cmp_nis_tup {Ps : List VP} : CmpIs S d J .IsNot (isTup Ps) isNone true := fun {A l I s Q E x y} ok _ ⟨a, _, _, ha, _⟩ hb hp => by
  have hb : y = .none := hb
  subst ha; subst hb
  exact wpAny_of_eq (a := Value.bool true) rfl (hp.here (tk := _) ok rfl)
theorem cmp_nis_inst {C : Addr} {fs : List (Str × VP)} : CmpIs S d J .IsNot (isInst C fs) isNone true := fun {A l I s Q E x y} ok _ ⟨a, _, _, _, ha, _⟩ hb hp => by
  have hb : y = .none := hb
  subst ha; subst hb
  exact wpAny_of_eq (a := Value.bool true) rfl (hp.here (tk := _) ok rfl)
theorem cmp_nis_none : CmpIs S d J .IsNot isNone isNone false := fun {A l I s Q E x y} ok _ ha hb hp => by
  have ha : x = .none := ha
  have hb : y = .none := hb
  subst ha; subst hb
  exact wpAny_of_eq (a := Value.bool false) rfl (hp.here (tk := _) ok rfl)
/-- a while, and what stands behind it -/
structure LoopB (S : St) (d : Mut) (σ : Sig) (k : Nat) (J : JM) (test : Expr) (body rest : List Stmt) (ρ : Rho) (r : BOut) (J' : JM) : Prop where
  run :
  ∀ {A : Around} {l : List Env} {pl : Pl} {h₀ : Heap} {I₀ I : IM} {m : Str → Option Value} {s : Shared} {Q : Flow → Shared → Prop} {E : Value → Shared → Prop},
    pl.IsFn → FrameOk S d σ k J ρ A l pl h₀ I₀ I m s.heap → BPost S d σ k A l pl h₀ I₀ J' s r Q E →
      codeAny (model pw S.w) A (.whileLoop test body [] pl.env) (fun r s' => match r with | .ok f => (match f with | .next => wpAny (model pw S.w) A (execs rest pl.env) Q E s' | f => Q f s') | .error _ => False) s
theorem LoopB.exit (t : TestOk S d σ k J test ρ b) (hb : b = false) (n : Blk S d σ k J rest ρ r' J') : LoopB S d σ k J test body rest ρ r' J' := .mk fun {A l pl h₀ I₀ I m s Q E} hf F hp => by
  subst hb
  refine while_turn (t.run F fun h' I' tk hl ok st => wpAny_execs_nil ?_)
  exact n.run (s := { s with heap := h', toks := tk }) hf (F.step hl ok st) hp
theorem LoopB.turn (t : TestOk S d σ k J test ρ b) (hb : b = true) (b : Blk S d σ k J body ρ (.fall ρ') J') (n : LoopB S d σ k J' test body rest ρ' r' J'') : LoopB S d σ k J test body rest ρ r' J'' := .mk fun {A l pl h₀ I₀ I m s Q E} hf F hp => by
  subst hb
  refine while_turn (t.run F fun h' I' tk hl ok st => ?_)
  show wpAny _ _ (execs body _) _ _ _
  exact b.run (s := { s with heap := h', toks := tk }) hf (F.step hl ok st) fun h₂ I₂ m₂ tk₂ F₂ => n.run (s := { s with heap := h₂, toks := tk₂ }) hf F₂ hp
theorem LoopB.leave (t : TestOk S d σ k J test ρ b) (hb : b = true) (b : Blk S d σ k J body ρ (.ret P) J') : LoopB S d σ k J test body rest ρ (.ret P) J' := .mk fun {A l pl h₀ I₀ I m s Q E} hf F hp => by
  subst hb
  refine while_turn (t.run F fun h' I' tk hl ok st => ?_)
  show wpAny _ _ (execs body _) _ _ _
  exact b.run (s := { s with heap := h', toks := tk }) hf (F.step hl ok st) fun v h₂ I₂ tk₂ hl₂ ok₂ st₂ hv => hp v h₂ I₂ tk₂ hl₂ ok₂ st₂ hv
theorem Blk.whileB (n : LoopB S d σ k J test body rest ρ r' J') : Blk S d σ k J (.While test body [] pos :: rest) ρ r' J' := .mk fun {A l pl h₀ I₀ I m s Q E} hf F hp =>
  wpAny_execs_cons (wpAny_While (codeAny_mono (n.run hf F hp) fun r s' hr => by
    cases r with
    | ok f => exact hr
    | error e => exact hr.elim))
/-- another list of facts -/
theorem LoopB.sub (hρ : ∀ {cl m I}, Holds d J σ ρ cl m I → Holds d J σ ρ' cl m I) (b : LoopB S d σ k J test body rest ρ' r' J') : LoopB S d σ k J test body rest ρ r' J' := .mk fun hf F hp => b.run hf (F.facts hρ) hp
end
theorem ak_codes : ∀ P, attrOk (Kf P) 348 (u "codes") = true := fun _ => by kernel_rfl!
theorem ak_place : ∀ P, attrOk (Kf P) 348 (u "place") = true := fun _ => by kernel_rfl!
theorem ak_kind : ∀ P, attrOk (Kf P) 210 (u "kind") = true := fun _ => by kernel_rfl!
local macro_rules | `(tactic| walk_at "lk") => `(tactic| ((with_reducible apply lk_tail); walk_at "K"; walk_at "lk"))
local macro_rules | `(tactic| walk_at "lk") => `(tactic| (with_reducible assumption))
local macro_rules | `(tactic| walk_at "lk") => `(tactic| (with_reducible exact lk_head))
local macro_rules | `(tactic| walk_at "args") => `(tactic| first | (with_reducible exact ArgsOk.nil) | ((with_reducible apply ArgsOk.cons); walk_at "E"; walk_at "A"; walk_at "R"))
local macro_rules | `(tactic| walk_at "gl") => `(tactic| exact EvOk.glob (by kernel_rfl!) (fun _ => by kernel_rfl!) (by kernel_rfl!))
local macro_rules | `(tactic| walk_at "bl") => `(tactic| exact EvOk.blt (by kernel_rfl!) (fun _ => by kernel_rfl!) (by kernel_rfl!) (by decide +kernel) (by kernel_rfl!))
local macro_rules | `(tactic| walk_at "cm") => `(tactic| first | (with_reducible exact cmp_lt) | (with_reducible exact cmp_le) | (with_reducible exact cmp_gt) | (with_reducible exact cmp_ge) | (with_reducible exact cmp_eq) | (with_reducible exact cmp_ne))
local macro_rules | `(tactic| walk_at "ev") => `(tactic| fail "ev: no rule")
local macro_rules | `(tactic| walk_at "te") => `(tactic| fail "te: no rule")
-- calls: side goals of a call rule are  D c hk hg hd hs ha  with D, c given
local macro_rules | `(tactic| walk_at "callF") => `(tactic| (walk_at "K"; (focus (intro _; kernel_rfl!)); walk_at "K"; walk_at "R"; walk_at "A"))
-- side goals of a method's rule: h hs ha he
local macro_rules | `(tactic| walk_at "callM") => `(tactic| (walk_at "E"; walk_at "R"; walk_at "A"; (focus exact ⟨_, fun _ => rfl⟩)))
local macro_rules | `(tactic| walk_at "ev") => `(tactic| ((with_reducible apply EvOk.attr); walk_at "E"; walk_at "L"; (focus walk_at "ak")))
local macro_rules | `(tactic| walk_at "ak") => `(tactic| (intro _; kernel_rfl!))
local macro_rules | `(tactic| walk_at "ak") => `(tactic| first | (with_reducible exact ak_codes) | (with_reducible exact ak_place) | (with_reducible exact ak_kind))
local macro_rules | `(tactic| walk_at "ev") => `(tactic| ((with_reducible apply EvOk.cmp'); walk_at "E"; walk_at "E"; walk_at "F"; walk_at "C"))
local macro_rules | `(tactic| walk_at "ev") => `(tactic| first
  | ((with_reducible apply EvOk.add); walk_at "E"; walk_at "E")
  | ((with_reducible apply EvOk.sub); walk_at "E"; walk_at "E")
  | ((with_reducible apply EvOk.neg); walk_at "E"))
local macro_rules | `(tactic| walk_at "ev") => `(tactic| first
  | (with_reducible exact EvOk.intC)
  | (with_reducible exact EvOk.noneC)
  | (with_reducible exact EvOk.boolC)
  | (with_reducible exact EvOk.strC)
  | ((with_reducible apply EvOk.name); walk_at "K"; walk_at "L"; walk_at "K"))
local macro_rules | `(tactic| walk_at "te") => `(tactic| ((with_reducible apply TestOk.plain); walk_at "E"; walk_at "RR"))
local macro_rules | `(tactic| walk_at "te") => `(tactic| first
  | ((with_reducible apply TestOk.cmp'); walk_at "E"; walk_at "E"; walk_at "F"; walk_at "C")
  | ((with_reducible apply TestOk.chain'); walk_at "E"; walk_at "E"; walk_at "E"; walk_at "F"; walk_at "C"; walk_at "C")
  | (with_reducible exact TestOk.and_nil)
  | (with_reducible exact TestOk.or_nil)
  | ((with_reducible apply TestOk.not); walk_at "T")
  | ((with_reducible apply TestOk.and); walk_at "T"; (focus (intro _; walk_at "te")))
  | ((with_reducible apply TestOk.or); walk_at "T"; (focus (intro _; walk_at "te"))))
local macro_rules | `(tactic| walk_at "asg") => `(tactic| ((apply Blk.assign); walk_at "E"; walk_at "K"; walk_at "R"))
local macro_rules | `(tactic| walk_at "ret") => `(tactic| ((apply Blk.retE); walk_at "E"))
local macro_rules | `(tactic| walk_at "if1") => `(tactic| ((apply Blk.ifRe); walk_at "T"))
local macro_rules | `(tactic| walk_at "if0") => `(tactic| ((apply Blk.ifFe); walk_at "T"))
local macro_rules | `(tactic| walk_at "ho") => `(tactic| first | exact Holds.none_ | (refine Holds.one (by assumption) ?_ ?_; walk_at "L"; (walk_at "ho")))
local macro_rules | `(tactic| walk_at "sd") => `(tactic| first | assumption | lia)
local macro_rules | `(tactic| walk_at "ev") => `(tactic| first
  | ((with_reducible apply EvOk.intG); walk_at "K"; walk_at "A"; walk_at "R")
  | ((with_reducible apply EvOk.tupleG); walk_at "A"; walk_at "F"))
local macro_rules | `(tactic| walk_at "ev") => `(tactic| first
  | ((with_reducible apply EvOk.range2); walk_at "K"; walk_at "A"; walk_at "R"; walk_at "D"; walk_at "D")
  | ((with_reducible apply EvOk.range1); walk_at "K"; walk_at "A"; walk_at "R"; walk_at "D"))
local macro_rules | `(tactic| walk_at "fr") => `(tactic| first | exact FreeOk.nil | (refine FreeOk.cons ?_ ?_ ?_; walk_at "L"; walk_at "K"; (walk_at "fr")))
local macro_rules | `(tactic| walk_at "ev") => `(tactic| first
  | ((with_reducible apply EvOk.tupAt1); walk_at "E"; walk_at "F"; walk_at "F"; walk_at "F")
  | ((with_reducible apply EvOk.listV); walk_at "A"; walk_at "F")
  | ((with_reducible apply EvOk.maxG); walk_at "K"; walk_at "A"; walk_at "R")
  | ((with_reducible apply EvOk.minG); walk_at "K"; walk_at "A"; walk_at "R"))
local macro_rules | `(tactic| walk_at "ev") => `(tactic| ((with_reducible apply EvOk.addL1); walk_at "E"; walk_at "E"; walk_at "N"))
local macro_rules | `(tactic| walk_at "ln") => `(tactic| (simp; lia))
local macro_rules | `(tactic| walk_at "un2") => `(tactic| ((apply Blk.unpack2); walk_at "E"; walk_at "K"; walk_at "K"; walk_at "R"; walk_at "R"))
local macro_rules | `(tactic| walk_at "un3") => `(tactic| ((apply Blk.unpack3); walk_at "E"; walk_at "K"; walk_at "K"; walk_at "K"; walk_at "R"; walk_at "R"))
local macro_rules | `(tactic| walk_at "unX") => `(tactic| ((apply Blk.unpackX); walk_at "E"; walk_at "R"; walk_at "R"))
local macro_rules | `(tactic| walk_at "cm") => `(tactic| first | (with_reducible exact cmp_is_int) | (with_reducible exact cmp_is_tup) | (with_reducible exact cmp_is_inst) | (with_reducible exact cmp_is_none) | (with_reducible exact cmp_nis_tup) | (with_reducible exact cmp_nis_inst) | (with_reducible exact cmp_nis_none))
-- what the defs reckon, as plain functions
noncomputable def codeAt (codes : List Int) (p i : Int) : Int := if p ≤ i ∧ i < p + codes.length then codes.getD (i - p).toNat 0 else -1
section
variable {S : St} {d : Mut} {σ : Sig} {k : Nat} {J : JM} {ρ : Rho} {codes : List Int} {p i : Int} {o : Expr} {apos pos np : Pos} {es : List Expr} {e : Expr}
noncomputable abbrev stB : Stmt := inCls 38 1
theorem D_begin : DefIs 331 (fdO stB (u "TextRow.begin") .none (.str (u "emacs.textrow") 625) (.ref 330)) (sigO stB (u "TextRow.begin") (.ref 330)) (bodyOf stB) := defIs_of (fun _ => by kernel_rfl!) (by kernel_rfl!) (fun _ => by kernel_rfl!)
theorem c_begin : CallOk S d (k + 1) J 331 [isRow codes p] (.val (isInt p)) J := by
  refine CallOk.def (xs := [u "self"]) (DPs := []) (dvs := []) D_begin (by kernel_rfl!) (fun s vs hl _ => ?_) (by kernel_rfl!) (by decide) (fun _ => .nil) .val ?_
  · obtain ⟨v, rfl⟩ := len1 hl
    exact BindsTo.of_eq rfl
  · show Blk S d _ k J _ [(u "self", isRow codes p)] _ _
    walk_at "ret"
    rfl
theorem m_begin (h : EvOk S d σ (k + 1) J o ρ (.val (isRow codes p))) (hs : PlainArgs []) (ha : ArgsOk S d σ (k + 1) J [] ρ []) (he : Meth σ o (u "begin") apos [] pos) : EvOk S d σ (k + 1) J (.Call (.Attribute o (u "begin") apos) [] [] pos) ρ (.val (isInt p)) :=
  EvOk.callM D_begin.d (fun _ => by kernel_rfl!) (by kernel_rfl!) c_begin h hs ha he
end
local macro_rules | `(tactic| walk_at "ev") => `(tactic| ((with_reducible apply m_begin); walk_at "callM"))
section
variable {S : St} {d : Mut} {σ : Sig} {k : Nat} {J : JM} {ρ : Rho} {codes : List Int} {p i : Int} {o : Expr} {apos pos np : Pos} {es : List Expr} {e : Expr}
noncomputable abbrev stE : Stmt := inCls 38 2
theorem D_end : DefIs 338 (fdO stE (u "TextRow.end") .none (.str (u "emacs.textrow") 625) (.ref 337)) (sigO stE (u "TextRow.end") (.ref 337)) (bodyOf stE) := defIs_of (fun _ => by kernel_rfl!) (by kernel_rfl!) (fun _ => by kernel_rfl!)
theorem EvOk.lenG {xs : List Int} (hk : σ.scope.names.lookup (u "len") = some .globalImplicit) (ha : ArgsOk S d σ k J [e] ρ [isList xs]) (hs : PlainArgs [e]) (hz : xs.length ≤ 2 ^ 20) : EvOk S d σ k J (.Call (.Name (u "len") np) [e] [] pos) ρ (.val (isInt xs.length)) :=
  EvOk.len (EvOk.blt hk (fun _ => by kernel_rfl!) (by kernel_rfl!) (by decide +kernel) (by kernel_rfl!)) hs ha hz
end
local macro_rules | `(tactic| walk_at "ev") => `(tactic| ((with_reducible apply EvOk.lenG); walk_at "K"; walk_at "A"; walk_at "R"; walk_at "O"))
section
variable {S : St} {d : Mut} {σ : Sig} {k : Nat} {J : JM} {ρ : Rho} {codes : List Int} {p i : Int} {o : Expr} {apos pos np : Pos} {es : List Expr} {e : Expr}
theorem c_end (hz : codes.length ≤ 2 ^ 16) : CallOk S d (k + 1) J 338 [isRow codes p] (.val (isInt (p + codes.length))) J := by
  refine CallOk.def (xs := [u "self"]) (DPs := []) (dvs := []) D_end (by kernel_rfl!) (fun s vs hl _ => ?_) (by kernel_rfl!) (by decide) (fun _ => .nil) .val ?_
  · obtain ⟨v, rfl⟩ := len1 hl
    exact BindsTo.of_eq rfl
  · show Blk S d _ k J _ [(u "self", isRow codes p)] _ _
    walk_at "ret"
    rfl
theorem m_end (hz : codes.length ≤ 2 ^ 16) (h : EvOk S d σ (k + 1) J o ρ (.val (isRow codes p))) (hs : PlainArgs []) (ha : ArgsOk S d σ (k + 1) J [] ρ []) (he : Meth σ o (u "end") apos [] pos) : EvOk S d σ (k + 1) J (.Call (.Attribute o (u "end") apos) [] [] pos) ρ (.val (isInt (p + codes.length))) :=
  EvOk.callM D_end.d (fun _ => by kernel_rfl!) (by kernel_rfl!) (c_end hz) h hs ha he
end
local macro_rules | `(tactic| walk_at "ev") => `(tactic| ((with_reducible apply m_end (by assumption)); walk_at "callM"))
section
variable {S : St} {d : Mut} {σ : Sig} {k : Nat} {J : JM} {ρ : Rho} {codes : List Int} {p i : Int} {o : Expr} {apos pos np : Pos} {es : List Expr} {e : Expr}
noncomputable abbrev stC : Stmt := inCls 38 3
theorem D_codeAt : DefIs 345 (fdO stC (u "TextRow.code_at") .none (.str (u "emacs.textrow") 625) (.ref 344)) (sigO stC (u "TextRow.code_at") (.ref 344)) (bodyOf stC) := defIs_of (fun _ => by kernel_rfl!) (by kernel_rfl!) (fun _ => by kernel_rfl!)
theorem c_codeAt (hz : codes.length ≤ 2 ^ 16) : CallOk S d (k + 1) J 345 [isRow codes p, isInt i] (.val (isInt (codeAt codes p i))) J := by
  refine CallOk.def (xs := [u "self", u "place"]) (DPs := []) (dvs := []) D_codeAt (by kernel_rfl!) (fun s vs hl _ => ?_) (by kernel_rfl!) (by decide) (fun _ => .nil) .val ?_
  · obtain ⟨v, v', rfl⟩ := len2 hl
    exact BindsTo.of_eq rfl
  · show Blk S d _ k J _ [(u "self", isRow codes p), (u "place", isInt i)] _ _
    by_cases hc : p ≤ i ∧ i < p + codes.length
    · walk_at "if1"
      · simp [hc.1, hc.2]
      · apply Blk.retE
        · refine EvOk.item (xs := codes) (i := i - p) (y := codes.getD (i - p).toNat 0) ?_ (by lia) ?_ (by lia) ?_ ?_
          · exact fun _ _ => rfl
          · have hl : (i - p).toNat < codes.length := by lia
            rw [List.getElem?_eq_getElem hl, List.getD_eq_getElem?_getD, List.getElem?_eq_getElem hl]; rfl
          · walk_at "ev"
          · walk_at "ev"
        · unfold codeAt; rw [if_pos hc]
    · walk_at "if0"
      · simpa using hc
      · exact Blk.nil
      · walk_at "ret"
        unfold codeAt; rw [if_neg hc]
end
/-- where the line of a place begins, counted from the row's begin -/
noncomputable def lsO (codes : List Int) : Nat → Nat
  | 0 => 0
  | n + 1 => if codes.getD n 0 = 10 then n + 1 else lsO codes n
noncomputable def lineStart (codes : List Int) (p i : Int) : Int := if i ≤ p then i else p + lsO codes (i - p).toNat
noncomputable def leO (codes : List Int) (n : Nat) : Nat := n + ((codes.drop n).takeWhile (fun c => c != 10)).length
noncomputable def lineEnd (codes : List Int) (p i : Int) : Int := if p + codes.length ≤ i then i else p + leO codes (i - p).toNat
noncomputable def nextStart (codes : List Int) (p i : Int) : Int := if lineEnd codes p i < p + codes.length then lineEnd codes p i + 1 else -1
noncomputable def back (codes : List Int) (p : Int) : Int → Nat → Int × Int
  | a, 0 => (a, 0)
  | a, m + 1 => if p < a then back codes p (lineStart codes p (a - 1)) m else (a, -((m : Int) + 1))
noncomputable def fwd (codes : List Int) (p : Int) : Int → Nat → Int × Int
  | a, 0 => (a, 0)
  | a, m + 1 => if nextStart codes p a < 0 then (p + codes.length, (m : Int) + 1 - (if a < p + codes.length then 1 else 0)) else fwd codes p (nextStart codes p a) m
noncomputable def linesTarget (codes : List Int) (p i many : Int) : Int × Int := if many ≤ 0 then back codes p (lineStart codes p i) (-many).toNat else fwd codes p i many.toNat
theorem lineStart_turn {codes : List Int} {p i : Int} (h : p < i) (hc : codeAt codes p (i - 1) ≠ 10) : lineStart codes p i = lineStart codes p (i - 1) := by
  obtain ⟨n, hn⟩ : ∃ n : Nat, i = p + n + 1 := ⟨(i - p - 1).toNat, by lia⟩
  subst hn
  have e1 : (p + n + 1 - p : Int).toNat = n + 1 := by lia
  have e2 : (p + n + 1 - 1 - p : Int).toNat = n := by lia
  have hc' : codes.getD n 0 ≠ 10 := by
    intro q
    apply hc
    unfold codeAt
    have hl : n < codes.length := by
      apply Classical.byContradiction
      intro q'
      rw [List.getD_eq_getElem?_getD, List.getElem?_eq_none (by lia)] at q
      simp at q
    rw [if_pos (by lia), e2]; exact q
  unfold lineStart
  rw [if_neg (by lia), e1, lsO, if_neg hc', e2]
  by_cases hp : (p + n + 1 - 1 : Int) ≤ p
  · rw [if_pos hp]
    have : n = 0 := by lia
    subst this; simp [lsO]
  · rw [if_neg hp]
theorem lineStart_stop {codes : List Int} {p i : Int} (h : p < i) (hc : codeAt codes p (i - 1) = 10) : lineStart codes p i = i := by
  obtain ⟨n, hn⟩ : ∃ n : Nat, i = p + n + 1 := ⟨(i - p - 1).toNat, by lia⟩
  subst hn
  have e1 : (p + n + 1 - p : Int).toNat = n + 1 := by lia
  have e2 : (p + n + 1 - 1 - p : Int).toNat = n := by lia
  have hc' : codes.getD n 0 = 10 := by
    unfold codeAt at hc
    by_cases q : p ≤ p + n + 1 - 1 ∧ p + n + 1 - 1 < p + codes.length
    · rw [if_pos q, e2] at hc; exact hc
    · rw [if_neg q] at hc; lia
  unfold lineStart
  rw [if_neg (by lia), e1, lsO, if_pos hc']
  push_cast; lia
theorem lineEnd_turn {codes : List Int} {p i : Int} (h : i < p + codes.length) (hc : codeAt codes p i ≠ 10) : lineEnd codes p i = lineEnd codes p (i + 1) := by
  by_cases hp : p ≤ i
  · obtain ⟨n, hn⟩ : ∃ n : Nat, i = p + n := ⟨(i - p).toNat, by lia⟩
    subst hn
    have e1 : (p + n - p : Int).toNat = n := by lia
    have e2 : (p + n + 1 - p : Int).toNat = n + 1 := by lia
    have hl : n < codes.length := by lia
    have hc' : codes[n] ≠ 10 := by
      intro q; apply hc
      unfold codeAt
      rw [if_pos (by lia), e1, List.getD_eq_getElem?_getD, List.getElem?_eq_getElem hl]; exact q
    unfold lineEnd
    rw [if_neg (by lia), e1, leO, List.drop_eq_getElem_cons hl, List.takeWhile_cons]
    have : (codes[n] != 10) = true := by simpa using hc'
    rw [this, e2]
    simp only [if_true, List.length_cons, leO]
    by_cases hq : p + codes.length ≤ p + n + 1
    · rw [if_pos hq]
      have : codes.length = n + 1 := by lia
      rw [List.drop_eq_nil_of_le (by lia)]; simp; lia
    · rw [if_neg hq]; push_cast; lia
  · unfold lineEnd
    rw [if_neg (by lia)]
    have e1 : (i - p : Int).toNat = 0 := by lia
    have e2 : (i + 1 - p : Int).toNat = 0 := by lia
    rw [e1, e2]
    by_cases hq : p + codes.length ≤ i + 1
    · rw [if_pos hq]
      have : codes.length = 0 := by lia
      have : codes = [] := List.length_eq_zero_iff.mp this
      subst this
      simp [leO] at *; lia
    · rw [if_neg hq]
theorem lineEnd_stop {codes : List Int} {p i : Int} (h : i < p + codes.length) (hc : codeAt codes p i = 10) : lineEnd codes p i = i := by
  have hp : p ≤ i := by
    apply Classical.byContradiction
    intro q
    unfold codeAt at hc
    rw [if_neg (by lia)] at hc; lia
  obtain ⟨n, hn⟩ : ∃ n : Nat, i = p + n := ⟨(i - p).toNat, by lia⟩
  subst hn
  have e1 : (p + n - p : Int).toNat = n := by lia
  have hl : n < codes.length := by lia
  unfold codeAt at hc
  rw [if_pos (by lia), e1, List.getD_eq_getElem?_getD, List.getElem?_eq_getElem hl] at hc
  have hc' : codes[n] = 10 := hc
  unfold lineEnd
  rw [if_neg (by lia), e1, leO, List.drop_eq_getElem_cons hl, List.takeWhile_cons]
  simp [hc']
section
variable {S : St} {d : Mut} {k : Nat} {J : JM} {codes : List Int} {p i many : Int}
theorem m_codeAt {ρ : Rho} {σ : Sig} {o e : Expr} {apos pos : Pos} (h : EvOk S d σ (k + 1) J o ρ (.val (isRow codes p))) (hs : PlainArgs [e]) (ha : ArgsOk S d σ (k + 1) J [e] ρ [isInt i]) (he : Meth σ o (u "code_at") apos [e] pos) (hz : codes.length ≤ 2 ^ 16) : EvOk S d σ (k + 1) J (.Call (.Attribute o (u "code_at") apos) [e] [] pos) ρ (.val (isInt (codeAt codes p i))) :=
  EvOk.callM D_codeAt.d (fun _ => by kernel_rfl!) (by kernel_rfl!) (c_codeAt hz) h hs ha he
end
local macro_rules | `(tactic| walk_at "ev") => `(tactic| ((with_reducible apply m_codeAt); walk_at "callM"; (focus assumption)))
section
variable {S : St} {d : Mut} {k : Nat} {J : JM} {codes : List Int} {p i many : Int}
theorem g_NEWLINE {ρ : Rho} {σ : Sig} {pos : Pos} (hk : σ.scope.names.lookup (u "NEWLINE") = some .globalImplicit) : EvOk S d σ k J (.Name (u "NEWLINE") pos) ρ (.val (isInt 10)) :=
  EvOk.conv (fun _ _ h => ⟨229, h⟩) (EvOk.glob (v := .int 10 229) hk (fun _ => by kernel_rfl!) (by kernel_rfl!))
end
local macro_rules | `(tactic| walk_at "ev") => `(tactic| ((with_reducible apply g_NEWLINE); walk_at "K"))
section
variable {S : St} {d : Mut} {k : Nat} {J : JM} {codes : List Int} {p i many : Int}
noncomputable abbrev st_line_start : Stmt := topS 5
theorem D_line_start : DefIs 48 (fdO st_line_start (u "line_start") .none (.str (u "emacs.lines") 227) (.ref 47)) (sigO st_line_start (u "line_start") (.ref 47)) (bodyOf st_line_start) := defIs_of (fun _ => by kernel_rfl!) (by kernel_rfl!) (fun _ => by kernel_rfl!)
theorem c_line_start (hz : codes.length ≤ 2 ^ 16) : CallOk S d (k + 2) J 48 [isRow codes p, isInt i] (.val (isInt (lineStart codes p i))) J := by
  refine CallOk.def (xs := [u "view", u "place"]) (DPs := []) (dvs := []) D_line_start (by kernel_rfl!) (fun s vs hl _ => ?_) (by kernel_rfl!) (by decide) (fun _ => .nil) .val ?_
  · obtain ⟨v0, v1, rfl⟩ := len2 hl
    exact BindsTo.of_eq rfl
  show Blk S d _ _ J _ [(u "view", isRow codes p), (u "place", isInt i)] _ _
  walk_at "asg"
  apply Blk.whileB
  suffices H : ∀ (n : Nat) (i : Int), (i - p).toNat = n → ∀ {ρ : Rho}, ρ.lookup (u "view") = some (isRow codes p) → ρ.lookup (u "at") = some (isInt i) → LoopB S d _ (k + 1) J _ _ _ ρ (.ret (isInt (lineStart codes p i))) J from H _ i rfl (by walk_at "lk") (by walk_at "lk")
  intro n
  induction n with
  | zero =>
    intro i hi ρ hv ha
    apply LoopB.exit
    · walk_at "te"
    · simp; lia
    · walk_at "ret"
      unfold lineStart; rw [if_pos (by lia)]
  | succ n ih =>
    intro i hi ρ hv ha
    by_cases hc : codeAt codes p (i - 1) = 10
    · apply LoopB.exit
      · walk_at "te"
      · simp [hc]
      · walk_at "ret"
        rw [lineStart_stop (by lia) hc]
    · apply LoopB.turn
      · walk_at "te"
      · simp [hc]; lia
      · walk_at "asg"
        exact Blk.nil
      · rw [lineStart_turn (by lia) hc]
        exact ih _ (by lia) (by walk_at "lk") (by walk_at "lk")
theorem e_line_start {es : List Expr} {np pos : Pos} {ρ : Rho} {σ : Sig} (hk : σ.scope.names.lookup (u "line_start") = some .globalImplicit) (hs : PlainArgs es) (ha : ArgsOk S d σ (k + 2) J es ρ [isRow codes p, isInt i]) (hz : codes.length ≤ 2 ^ 16) : EvOk S d σ (k + 2) J (.Call (.Name (u "line_start") np) es [] pos) ρ (.val (isInt (lineStart codes p i))) :=
  EvOk.callF D_line_start.d (c_line_start hz) hk (fun _ => by kernel_rfl!) (by kernel_rfl!) hs ha
end
local macro_rules | `(tactic| walk_at "ev") => `(tactic| ((with_reducible apply e_line_start); walk_at "K"; walk_at "R"; walk_at "A"; walk_at "D"))
section
variable {S : St} {d : Mut} {k : Nat} {J : JM} {codes : List Int} {p i many : Int}
noncomputable abbrev st_line_end : Stmt := topS 6
theorem D_line_end : DefIs 55 (fdO st_line_end (u "line_end") .none (.str (u "emacs.lines") 227) (.ref 54)) (sigO st_line_end (u "line_end") (.ref 54)) (bodyOf st_line_end) := defIs_of (fun _ => by kernel_rfl!) (by kernel_rfl!) (fun _ => by kernel_rfl!)
theorem c_line_end (hz : codes.length ≤ 2 ^ 16) : CallOk S d (k + 2) J 55 [isRow codes p, isInt i] (.val (isInt (lineEnd codes p i))) J := by
  refine CallOk.def (xs := [u "view", u "place"]) (DPs := []) (dvs := []) D_line_end (by kernel_rfl!) (fun s vs hl _ => ?_) (by kernel_rfl!) (by decide) (fun _ => .nil) .val ?_
  · obtain ⟨v0, v1, rfl⟩ := len2 hl
    exact BindsTo.of_eq rfl
  show Blk S d _ _ J _ [(u "view", isRow codes p), (u "place", isInt i)] _ _
  walk_at "asg"
  apply Blk.whileB
  suffices H : ∀ (n : Nat) (i : Int), (p + codes.length - i).toNat = n → ∀ {ρ : Rho}, ρ.lookup (u "view") = some (isRow codes p) → ρ.lookup (u "at") = some (isInt i) → LoopB S d _ (k + 1) J _ _ _ ρ (.ret (isInt (lineEnd codes p i))) J from H _ i rfl (by walk_at "lk") (by walk_at "lk")
  intro n
  induction n with
  | zero =>
    intro i hi ρ hv ha
    apply LoopB.exit
    · walk_at "te"
    · simp; lia
    · walk_at "ret"
      unfold lineEnd; rw [if_pos (by lia)]
  | succ n ih =>
    intro i hi ρ hv ha
    by_cases hc : codeAt codes p i = 10
    · apply LoopB.exit
      · walk_at "te"
      · simp [hc]
      · walk_at "ret"
        rw [lineEnd_stop (by lia) hc]
    · apply LoopB.turn
      · walk_at "te"
      · simp [hc]; lia
      · walk_at "asg"
        exact Blk.nil
      · rw [lineEnd_turn (by lia) hc]
        exact ih _ (by lia) (by walk_at "lk") (by walk_at "lk")
theorem e_line_end {es : List Expr} {np pos : Pos} {ρ : Rho} {σ : Sig} (hk : σ.scope.names.lookup (u "line_end") = some .globalImplicit) (hs : PlainArgs es) (ha : ArgsOk S d σ (k + 2) J es ρ [isRow codes p, isInt i]) (hz : codes.length ≤ 2 ^ 16) : EvOk S d σ (k + 2) J (.Call (.Name (u "line_end") np) es [] pos) ρ (.val (isInt (lineEnd codes p i))) :=
  EvOk.callF D_line_end.d (c_line_end hz) hk (fun _ => by kernel_rfl!) (by kernel_rfl!) hs ha
end
local macro_rules | `(tactic| walk_at "ev") => `(tactic| ((with_reducible apply e_line_end); walk_at "K"; walk_at "R"; walk_at "A"; walk_at "D"))
section
variable {S : St} {d : Mut} {k : Nat} {J : JM} {codes : List Int} {p i many : Int}
noncomputable abbrev st_next_start : Stmt := topS 7
theorem D_next_start : DefIs 62 (fdO st_next_start (u "next_start") .none (.str (u "emacs.lines") 227) (.ref 61)) (sigO st_next_start (u "next_start") (.ref 61)) (bodyOf st_next_start) := defIs_of (fun _ => by kernel_rfl!) (by kernel_rfl!) (fun _ => by kernel_rfl!)
theorem c_next_start (hz : codes.length ≤ 2 ^ 16) : CallOk S d (k + 3) J 62 [isRow codes p, isInt i] (.val (isInt (nextStart codes p i))) J := by
  refine CallOk.def (xs := [u "view", u "place"]) (DPs := []) (dvs := []) D_next_start (by kernel_rfl!) (fun s vs hl _ => ?_) (by kernel_rfl!) (by decide) (fun _ => .nil) .val ?_
  · obtain ⟨v0, v1, rfl⟩ := len2 hl
    exact BindsTo.of_eq rfl
  show Blk S d _ _ J _ [(u "view", isRow codes p), (u "place", isInt i)] _ _
  walk_at "asg"
  by_cases h : lineEnd codes p i < p + codes.length
  · apply Blk.retE
    · apply EvOk.ifTe
      · walk_at "te"
      · simp [h]
      · walk_at "ev"
    · unfold nextStart; rw [if_pos h]
  · apply Blk.retE
    · apply EvOk.ifFe
      · walk_at "te"
      · simpa using h
      · walk_at "ev"
    · unfold nextStart; rw [if_neg h]
theorem e_next_start {es : List Expr} {np pos : Pos} {ρ : Rho} {σ : Sig} (hk : σ.scope.names.lookup (u "next_start") = some .globalImplicit) (hs : PlainArgs es) (ha : ArgsOk S d σ (k + 3) J es ρ [isRow codes p, isInt i]) (hz : codes.length ≤ 2 ^ 16) : EvOk S d σ (k + 3) J (.Call (.Name (u "next_start") np) es [] pos) ρ (.val (isInt (nextStart codes p i))) :=
  EvOk.callF D_next_start.d (c_next_start hz) hk (fun _ => by kernel_rfl!) (by kernel_rfl!) hs ha
end
local macro_rules | `(tactic| walk_at "ev") => `(tactic| ((with_reducible apply e_next_start); walk_at "K"; walk_at "R"; walk_at "A"; walk_at "D"))
section
variable {S : St} {d : Mut} {k : Nat} {J : JM} {codes : List Int} {p i many : Int}
noncomputable abbrev st_is_line_end : Stmt := topS 9
theorem D_is_line_end : DefIs 76 (fdO st_is_line_end (u "is_line_end") .none (.str (u "emacs.lines") 227) (.ref 75)) (sigO st_is_line_end (u "is_line_end") (.ref 75)) (bodyOf st_is_line_end) := defIs_of (fun _ => by kernel_rfl!) (by kernel_rfl!) (fun _ => by kernel_rfl!)
theorem c_is_line_end (hz : codes.length ≤ 2 ^ 16) : CallOk S d (k + 2) J 76 [isRow codes p, isInt i] (.val (isBool (decide (i = p + codes.length) || decide (codeAt codes p i = 10)))) J := by
  refine CallOk.def (xs := [u "view", u "place"]) (DPs := []) (dvs := []) D_is_line_end (by kernel_rfl!) (fun s vs hl _ => ?_) (by kernel_rfl!) (by decide) (fun _ => .nil) .val ?_
  · obtain ⟨v0, v1, rfl⟩ := len2 hl
    exact BindsTo.of_eq rfl
  show Blk S d _ _ J _ [(u "view", isRow codes p), (u "place", isInt i)] _ _
  by_cases h : i = p + codes.length
  · apply Blk.retE
    · apply EvOk.orT
      apply EvOk.to
      · walk_at "ev"
      · rw [show decide (i = p + (codes.length : Int)) = true from by simpa using h]
    · simp [h]
  · apply Blk.retE
    · apply EvOk.orF
      · apply EvOk.to
        · walk_at "ev"
        · rw [show decide (i = p + (codes.length : Int)) = false from by simpa using h]
      · apply EvOk.bool1
        walk_at "ev"
    · simp [h]
theorem e_is_line_end {es : List Expr} {np pos : Pos} {ρ : Rho} {σ : Sig} (hk : σ.scope.names.lookup (u "is_line_end") = some .globalImplicit) (hs : PlainArgs es) (ha : ArgsOk S d σ (k + 2) J es ρ [isRow codes p, isInt i]) (hz : codes.length ≤ 2 ^ 16) : EvOk S d σ (k + 2) J (.Call (.Name (u "is_line_end") np) es [] pos) ρ (.val (isBool (decide (i = p + codes.length) || decide (codeAt codes p i = 10)))) :=
  EvOk.callF D_is_line_end.d (c_is_line_end hz) hk (fun _ => by kernel_rfl!) (by kernel_rfl!) hs ha
end
local macro_rules | `(tactic| walk_at "ev") => `(tactic| ((with_reducible apply e_is_line_end); walk_at "K"; walk_at "R"; walk_at "A"; walk_at "D"))
section
variable {S : St} {d : Mut} {k : Nat} {J : JM} {codes : List Int} {p i many : Int}
noncomputable abbrev st_lines_target : Stmt := topS 8
theorem D_lines_target : DefIs 69 (fdO st_lines_target (u "lines_target") .none (.str (u "emacs.lines") 227) (.ref 68)) (sigO st_lines_target (u "lines_target") (.ref 68)) (bodyOf st_lines_target) := defIs_of (fun _ => by kernel_rfl!) (by kernel_rfl!) (fun _ => by kernel_rfl!)
theorem c_lines_target (hz : codes.length ≤ 2 ^ 16) : CallOk S d (k + 4) J 69 [isRow codes p, isInt i, isInt many] (.val (isTup [isInt (linesTarget codes p i many).1, isInt (linesTarget codes p i many).2])) J := by
  refine CallOk.def (xs := [u "view", u "place", u "many"]) (DPs := []) (dvs := []) D_lines_target (by kernel_rfl!) (fun s vs hl _ => ?_) (by kernel_rfl!) (by decide) (fun _ => .nil) .val ?_
  · obtain ⟨v0, v1, v2, rfl⟩ := len3 hl
    exact BindsTo.of_eq rfl
  show Blk S d _ _ J _ [(u "view", isRow codes p), (u "place", isInt i), (u "many", isInt many)] _ _
  by_cases h : many ≤ 0
  · apply Blk.ifRe
    · walk_at "te"
    · simpa using h
    · walk_at "asg"
      apply Blk.whileB
      suffices H : ∀ (n : Nat) (a many : Int), many = -(n : Int) → ∀ {ρ : Rho}, ρ.lookup (u "view") = some (isRow codes p) → ρ.lookup (u "at") = some (isInt a) → ρ.lookup (u "many") = some (isInt many) → LoopB S d _ (k + 3) J _ _ _ ρ (.ret (isTup [isInt (back codes p a n).1, isInt (back codes p a n).2])) J by
        unfold linesTarget; rw [if_pos h]
        refine H _ _ _ ?_ (by walk_at "lk") (by walk_at "lk") (by walk_at "lk"); lia
      intro n
      induction n with
      | zero =>
        intro a many hm ρ hv ha hn
        apply LoopB.exit
        · walk_at "te"
        · simp; lia
        · walk_at "ret"
          simp [back, hm]
      | succ n ih =>
        intro a many hm ρ hv ha hn
        by_cases hc : p < a
        · apply LoopB.turn
          · walk_at "te"
          · simp [hc]; lia
          · walk_at "asg"
            walk_at "asg"
            exact Blk.nil
          · rw [back, if_pos hc]
            refine ih _ _ ?_ (by walk_at "lk") (by walk_at "lk") (by walk_at "lk"); lia
        · apply LoopB.exit
          · walk_at "te"
          · simp [hc]
          · walk_at "ret"
            rw [back, if_neg hc]; simp [hm]
  · apply Blk.ifFe
    · walk_at "te"
    · simpa using h
    · exact Blk.nil
    · walk_at "asg"
      apply Blk.whileB
      suffices H : ∀ (n : Nat) (a many : Int), many = n → ∀ {ρ : Rho}, ρ.lookup (u "view") = some (isRow codes p) → ρ.lookup (u "at") = some (isInt a) → ρ.lookup (u "many") = some (isInt many) → LoopB S d _ (k + 3) J _ _ _ ρ (.ret (isTup [isInt (fwd codes p a n).1, isInt (fwd codes p a n).2])) J by
        unfold linesTarget; rw [if_neg h]
        refine H _ _ _ ?_ (by walk_at "lk") (by walk_at "lk") (by walk_at "lk"); lia
      intro n
      induction n with
      | zero =>
        intro a many hm ρ hv ha hn
        apply LoopB.exit
        · walk_at "te"
        · simp; lia
        · walk_at "ret"
          simp [fwd]
      | succ n ih =>
        intro a many hm ρ hv ha hn
        by_cases hc : nextStart codes p a < 0
        · apply LoopB.leave
          · walk_at "te"
          · simp; lia
          · walk_at "asg"
            apply Blk.ifRe
            · walk_at "te"
            · simpa using hc
            · walk_at "ret"
              rw [fwd, if_pos hc]; simp [hm]
        · apply LoopB.turn
          · walk_at "te"
          · simp; lia
          · walk_at "asg"
            apply Blk.ifFe
            · walk_at "te"
            · simpa using hc
            · exact Blk.nil
            · walk_at "asg"
              walk_at "asg"
              exact Blk.nil
          · rw [fwd, if_neg hc]
            refine ih _ _ ?_ (by walk_at "lk") (by walk_at "lk") (by walk_at "lk"); lia
theorem e_lines_target {es : List Expr} {np pos : Pos} {ρ : Rho} {σ : Sig} (hk : σ.scope.names.lookup (u "lines_target") = some .globalImplicit) (hs : PlainArgs es) (ha : ArgsOk S d σ (k + 4) J es ρ [isRow codes p, isInt i, isInt many]) (hz : codes.length ≤ 2 ^ 16) : EvOk S d σ (k + 4) J (.Call (.Name (u "lines_target") np) es [] pos) ρ (.val (isTup [isInt (linesTarget codes p i many).1, isInt (linesTarget codes p i many).2])) :=
  EvOk.callF D_lines_target.d (c_lines_target hz) hk (fun _ => by kernel_rfl!) (by kernel_rfl!) hs ha
end
local macro_rules | `(tactic| walk_at "ev") => `(tactic| ((with_reducible apply e_lines_target); walk_at "K"; walk_at "R"; walk_at "A"; walk_at "D"))
section
variable {S : St} {d : Mut} {k : Nat} {J : JM} {codes : List Int} {p i many : Int}
end
noncomputable def between (codes : List Int) (p a b : Int) : List Int := (List.range (b - a).toNat).map fun (i : Nat) => codeAt codes p (a + i)
section
variable {S : St} {d : Mut} {k : Nat} {J : JM} {codes : List Int} {p i many a b : Int}
noncomputable abbrev st_codes_between : Stmt := topS 11
theorem D_codes_between : DefIs 81 (fdO st_codes_between (u "codes_between") .none (.str (u "emacs.transpose") 277) (.ref 80)) (sigO st_codes_between (u "codes_between") (.ref 80)) (bodyOf st_codes_between) := defIs_of (fun _ => by kernel_rfl!) (by kernel_rfl!) (fun _ => by kernel_rfl!)
theorem c_codes_between (hz : codes.length ≤ 2 ^ 16) (ha : -(2 ^ 20) ≤ a ∧ a ≤ 2 ^ 20) (hb : -(2 ^ 20) ≤ b ∧ b ≤ 2 ^ 20) : CallOk S d (k + 2) J 81 [isRow codes p, isInt a, isInt b] (.val (isList (between codes p a b))) J := by
  refine CallOk.defC (xs := [u "view", u "start", u "end"]) (DPs := []) (dvs := []) D_codes_between (fun vs hl => ?_) (fun _ => by kernel_rfl!) (by decide) (fun _ => .nil) .val ?_
  · obtain ⟨v0, v1, v2, rfl⟩ := len3 hl
    rfl
  show Blk S d _ _ J _ [(u "view", isRow codes p), (u "start", isInt a), (u "end", isInt b)] _ _
  apply Blk.retE
  · refine EvOk.compInts (items := (List.range (b - a).toNat).map fun (i : Nat) => isInt (a + i)) (ys := (List.range (b - a).toNat).map fun (i : Nat) => some (codeAt codes p (a + i))) (ρ₁ := [(u "view", isRow codes p)]) ?_ ?_ ?_ ?_ ?_ ?_ ?_ ?_ ?_ ?_ ?_ ?_
    · walk_at "ev"
    · simp
    · rw [sizeLine_eq]; simp; lia
    · walk_at "fr"
    · rfl
    · rfl
    · rfl
    · rfl
    · rfl
    · intro _ _; rfl
    · intro i Pi y h1 h2 d' J' M
      rw [List.getElem?_map] at h2
      obtain ⟨z, _, rfl⟩ := Option.map_eq_some_iff.mp h2
      rfl
    · intro i Pi y h1 h2 d' J' M
      rw [List.getElem?_map] at h1 h2
      obtain ⟨z, q1, q2⟩ := Option.map_eq_some_iff.mp h2
      obtain ⟨z', q1', rfl⟩ := Option.map_eq_some_iff.mp h1
      rw [q1] at q1'; cases q1'
      cases q2
      apply EvOk.to
      · walk_at "ev"
      · rfl
  · unfold between
    rw [List.filterMap_map]
    congr 1
    generalize (b - a).toNat = n
    induction List.range n with
    | nil => rfl
    | cons x r ih => rw [List.filterMap_cons, List.map_cons, ih]; rfl
end
noncomputable def inOrder (one other : Int × Int) : Option ((Int × Int) × (Int × Int)) :=
  if one.1 ≤ other.1 then (if other.1 < one.2 then none else some (one, other)) else (if one.1 < other.2 then none else some (other, one))
section
variable {S : St} {d : Mut} {k : Nat} {J : JM} {codes : List Int} {p i many a b : Int} {one other : Int × Int}
theorem e_codes_between {es : List Expr} {np pos : Pos} {ρ : Rho} {σ : Sig} (hk : σ.scope.names.lookup (u "codes_between") = some .globalImplicit) (hs : PlainArgs es) (ha : ArgsOk S d σ (k + 2) J es ρ [isRow codes p, isInt a, isInt b]) (hz : codes.length ≤ 2 ^ 16) (hA : -(2 ^ 20) ≤ a ∧ a ≤ 2 ^ 20) (hB : -(2 ^ 20) ≤ b ∧ b ≤ 2 ^ 20) : EvOk S d σ (k + 2) J (.Call (.Name (u "codes_between") np) es [] pos) ρ (.val (isList (between codes p a b))) :=
  EvOk.callF D_codes_between.d (c_codes_between hz hA hB) hk (fun _ => by kernel_rfl!) (by kernel_rfl!) hs ha
end
local macro_rules | `(tactic| walk_at "ev") => `(tactic| ((with_reducible apply e_codes_between); walk_at "K"; walk_at "R"; walk_at "A"; walk_at "D"; walk_at "D"; walk_at "D"))
section
variable {S : St} {d : Mut} {k : Nat} {J : JM} {codes : List Int} {p i many a b : Int} {one other : Int × Int}
noncomputable abbrev st_in_order : Stmt := topS 12
theorem D_in_order : DefIs 88 (fdO st_in_order (u "in_order") .none (.str (u "emacs.transpose") 277) (.ref 87)) (sigO st_in_order (u "in_order") (.ref 87)) (bodyOf st_in_order) := defIs_of (fun _ => by kernel_rfl!) (by kernel_rfl!) (fun _ => by kernel_rfl!)
theorem c_in_order {f s : Int × Int} (h : inOrder one other = some (f, s)) : CallOk S d (k + 3) J 88 [isPair one, isPair other] (.val (isTup [isPair f, isPair s])) J := by
  unfold inOrder at h
  refine CallOk.def (xs := [u "one", u "other"]) (DPs := []) (dvs := []) D_in_order (by kernel_rfl!) (fun s vs hl _ => ?_) (by kernel_rfl!) (by decide) (fun _ => .nil) .val ?_
  · obtain ⟨v0, v1, rfl⟩ := len2 hl
    exact BindsTo.of_eq rfl
  show Blk S d _ _ J _ [(u "one", isPair one), (u "other", isPair other)] _ _
  by_cases c : one.1 ≤ other.1
  · rw [if_pos c] at h
    split at h
    · cases h
    · rename_i c'
      cases h
      apply Blk.unpack2
      · apply EvOk.ifTe
        · walk_at "te"
        · simpa using c
        · walk_at "ev"
      · kernel_rfl!
      · kernel_rfl!
      · intro _; rfl
      · intro _; rfl
      walk_at "if0"
      · simpa using c'
      · exact Blk.nil
      · walk_at "ret"
        rfl
  · rw [if_neg c] at h
    split at h
    · cases h
    · rename_i c'
      cases h
      apply Blk.unpack2
      · apply EvOk.ifFe
        · walk_at "te"
        · simpa using c
        · walk_at "ev"
      · kernel_rfl!
      · kernel_rfl!
      · intro _; rfl
      · intro _; rfl
      walk_at "if0"
      · simpa using c'
      · exact Blk.nil
      · walk_at "ret"
        rfl
theorem x_in_order (h : inOrder one other = none) : CallOk S d (k + 3) J 88 [isPair one, isPair other] .exc J := by
  unfold inOrder at h
  refine CallOk.def (xs := [u "one", u "other"]) (DPs := []) (dvs := []) D_in_order (by kernel_rfl!) (fun s vs hl _ => ?_) (by kernel_rfl!) (by decide) (fun _ => .nil) .exc ?_
  · obtain ⟨v0, v1, rfl⟩ := len2 hl
    exact BindsTo.of_eq rfl
  show Blk S d _ _ J _ [(u "one", isPair one), (u "other", isPair other)] _ _
  by_cases c : one.1 ≤ other.1
  · rw [if_pos c] at h
    split at h
    · rename_i c'
      apply Blk.unpack2
      · apply EvOk.ifTe
        · walk_at "te"
        · simpa using c
        · walk_at "ev"
      · kernel_rfl!
      · kernel_rfl!
      · intro _; rfl
      · intro _; rfl
      apply Blk.ifXe
      · walk_at "te"
      · simpa using c'
      · apply Blk.raise
        · kernel_rfl!
        · intro _; rfl
        · walk_at "args"
    · cases h
  · rw [if_neg c] at h
    split at h
    · rename_i c'
      apply Blk.unpack2
      · apply EvOk.ifFe
        · walk_at "te"
        · simpa using c
        · walk_at "ev"
      · kernel_rfl!
      · kernel_rfl!
      · intro _; rfl
      · intro _; rfl
      apply Blk.ifXe
      · walk_at "te"
      · simpa using c'
      · apply Blk.raise
        · kernel_rfl!
        · intro _; rfl
        · walk_at "args"
    · cases h
end
noncomputable abbrev isEdit (e : Int × Int × List Int) : VP := isTup [isInt e.1, isInt e.2.1, isList e.2.2]
noncomputable def regionsEdit (codes : List Int) (p : Int) (one other : Int × Int) : Option (Int × Int × List Int) :=
  (inOrder one other).map fun x => (x.1.1, x.2.2, between codes p x.2.1 x.2.2 ++ between codes p x.1.2 x.2.1 ++ between codes p x.1.1 x.1.2)
structure CallS (S : St) (d : Mut) (k : Nat) (J : JM) (f : Value) (I₁ : IM) (Ps : List VP) (r : Out) (J' : JM) : Prop where
  run : CallV S d k J f I₁ Ps r J'
noncomputable def outInt : Option Int → Out
  | some j => .val (isInt j)
  | none => .exc
/-- a function that moves a place, or raises -/
noncomputable def MoverAt (S : St) (codes : List Int) (p : Int) (mv : Int → Int → Option Int) (I : IM) (v : Value) : Prop :=
  (∃ f o fd, v = .ref f ∧ (I f = some o ∨ S.G.get? f = some o) ∧ o.data = .func fd) ∧ ∀ (d : Mut) (J : JM) i n, p ≤ i → i ≤ p + codes.length → -64 ≤ n → n ≤ 64 → CallS S d 12 J v I [isRow codes p, isInt i, isInt n] (outInt (mv i n)) J
theorem MoverAt.mono {S : St} {codes : List Int} {p : Int} {mv : Int → Int → Option Int} {I I' : IM} {v : Value} (k : Le I I') (h : MoverAt S codes p mv I v) : MoverAt S codes p mv I' v := by
  obtain ⟨⟨f, o, fd, a, b, c⟩, h⟩ := h
  refine ⟨⟨f, o, fd, a, b.imp_left (k _ _), c⟩, fun d J i n h1 h2 h3 h4 => ?_⟩
  exact ⟨fun hl => (h d J i n h1 h2 h3 h4).run (k.trans hl)⟩
noncomputable def isMover (S : St) (codes : List Int) (p : Int) (mv : Int → Int → Option Int) : VP := ⟨MoverAt S codes p mv, fun k h => h.mono k⟩
noncomputable def byChars (codes : List Int) (p i n : Int) : Option Int := if p + codes.length < i + n then none else if i + n < p then none else some (i + n)
noncomputable def unitAround (mv : Int → Int → Option Int) (i n : Int) : Option ((Int × Int) × Int) := (mv i n).bind fun far => (mv far (0 - n)).map fun near => ((min far near, max far near), near)
noncomputable def unitsRegions (mv : Int → Int → Option Int) (i n : Int) : Option ((Int × Int) × (Int × Int) × Int) := (unitAround mv i (-1)).bind fun ob =>
  if 0 < n then (unitAround mv ob.2 n).map fun x => (ob.1, x.1, x.1.2) else (unitAround mv ob.1.1 n).map fun x => (ob.1, x.1, x.1.1 + ob.1.2 - ob.1.1)
/-- it stays in the row -/
noncomputable def Stays (codes : List Int) (p : Int) (mv : Int → Int → Option Int) : Prop := ∀ i n j, p ≤ i → i ≤ p + codes.length → mv i n = some j → p ≤ j ∧ j ≤ p + codes.length
section
variable {S : St} {d : Mut} {k : Nat} {J : JM} {codes : List Int} {p i many a b n j : Int} {one other f s : Int × Int} {mv : Int → Int → Option Int}
theorem e_in_order {es : List Expr} {np pos : Pos} {ρ : Rho} {σ : Sig} (hk : σ.scope.names.lookup (u "in_order") = some .globalImplicit) (hs : PlainArgs es) (ha : ArgsOk S d σ (k + 3) J es ρ [isPair one, isPair other]) (h : inOrder one other = some (f, s)) : EvOk S d σ (k + 3) J (.Call (.Name (u "in_order") np) es [] pos) ρ (.val (isTup [isPair f, isPair s])) :=
  EvOk.callF D_in_order.d (c_in_order h) hk (fun _ => by kernel_rfl!) (by kernel_rfl!) hs ha
end
local macro_rules | `(tactic| walk_at "ev") => `(tactic| ((with_reducible apply e_in_order); walk_at "K"; walk_at "R"; walk_at "A"; walk_at "D"))
section
variable {S : St} {d : Mut} {k : Nat} {J : JM} {codes : List Int} {p i many a b n j : Int} {one other f s : Int × Int} {mv : Int → Int → Option Int}
theorem ex_in_order {es : List Expr} {np pos : Pos} {ρ : Rho} {σ : Sig} (hk : σ.scope.names.lookup (u "in_order") = some .globalImplicit) (hs : PlainArgs es) (ha : ArgsOk S d σ (k + 3) J es ρ [isPair one, isPair other]) (h : inOrder one other = none) : EvOk S d σ (k + 3) J (.Call (.Name (u "in_order") np) es [] pos) ρ .exc :=
  EvOk.callF D_in_order.d (x_in_order h) hk (fun _ => by kernel_rfl!) (by kernel_rfl!) hs ha
theorem between_length : (between codes p a b).length = (b - a).toNat := by unfold between; simp
end
local macro_rules | `(tactic| walk_at "ln") => `(tactic| (simp only [between_length, List.length_append]; lia))
section
variable {S : St} {d : Mut} {k : Nat} {J : JM} {codes : List Int} {p i many a b n j : Int} {one other f s : Int × Int} {mv : Int → Int → Option Int}
noncomputable abbrev st_by_chars : Stmt := topS 17
theorem D_by_chars : DefIs 123 (fdO st_by_chars (u "by_chars") .none (.str (u "emacs.transpose") 277) (.ref 122)) (sigO st_by_chars (u "by_chars") (.ref 122)) (bodyOf st_by_chars) := defIs_of (fun _ => by kernel_rfl!) (by kernel_rfl!) (fun _ => by kernel_rfl!)
theorem c_by_chars (hz : codes.length ≤ 2 ^ 16) (h : byChars codes p i many = some j) : CallOk S d (k + 3) J 123 [isRow codes p, isInt i, isInt many] (.val (isInt j)) J := by
  unfold byChars at h
  refine CallOk.def (xs := [u "view", u "place", u "many"]) (DPs := []) (dvs := []) D_by_chars (by kernel_rfl!) (fun s vs hl _ => ?_) (by kernel_rfl!) (by decide) (fun _ => .nil) .val ?_
  · obtain ⟨v0, v1, v2, rfl⟩ := len3 hl
    exact BindsTo.of_eq rfl
  show Blk S d _ _ J _ [(u "view", isRow codes p), (u "place", isInt i), (u "many", isInt many)] _ _
  split at h
  · cases h
  · split at h
    · cases h
    · cases h
      walk_at "asg"
      walk_at "if0"
      · simp; lia
      · exact Blk.nil
      · walk_at "if0"
        · simp; lia
        · exact Blk.nil
        · walk_at "ret"
          rfl
theorem x_by_chars (hz : codes.length ≤ 2 ^ 16) (h : byChars codes p i many = none) : CallOk S d (k + 3) J 123 [isRow codes p, isInt i, isInt many] .exc J := by
  unfold byChars at h
  refine CallOk.def (xs := [u "view", u "place", u "many"]) (DPs := []) (dvs := []) D_by_chars (by kernel_rfl!) (fun s vs hl _ => ?_) (by kernel_rfl!) (by decide) (fun _ => .nil) .exc ?_
  · obtain ⟨v0, v1, v2, rfl⟩ := len3 hl
    exact BindsTo.of_eq rfl
  show Blk S d _ _ J _ [(u "view", isRow codes p), (u "place", isInt i), (u "many", isInt many)] _ _
  walk_at "asg"
  split at h
  · apply Blk.ifXe
    · walk_at "te"
    · simp; lia
    · apply Blk.raise
      · kernel_rfl!
      · intro _; rfl
      · walk_at "args"
  · split at h
    · walk_at "if0"
      · simp; lia
      · exact Blk.nil
      · apply Blk.ifXe
        · walk_at "te"
        · simp; lia
        · apply Blk.raise
          · kernel_rfl!
          · intro _; rfl
          · walk_at "args"
    · cases h
theorem by_chars_mover (hz : codes.length ≤ 2 ^ 16) {I : IM} : (isMover S codes p (byChars codes p)).p I (.ref 123) := by
  obtain ⟨c, dd, sl, e⟩ := D_by_chars.d.at_ S.w.params
  refine ⟨⟨123, _, _, rfl, .inr (S.kin _ _ e), rfl⟩, fun d J i n _ _ _ _ => ?_⟩
  cases q : byChars codes p i n with
  | some j => exact ⟨fun _ => c_by_chars (k := 9) hz q (fun _ _ e => by cases e)⟩
  | none => exact ⟨fun _ => x_by_chars (k := 9) hz q (fun _ _ e => by cases e)⟩
theorem g_by_chars {ρ : Rho} {σ : Sig} {pos : Pos} (hk : σ.scope.names.lookup (u "by_chars") = some .globalImplicit) (hz : codes.length ≤ 2 ^ 16) : EvOk S d σ k J (.Name (u "by_chars") pos) ρ (.val (isMover S codes p (byChars codes p))) :=
  EvOk.conv (fun _ _ h => by cases h; exact by_chars_mover hz) (EvOk.glob (v := .ref 123) hk (fun _ => by kernel_rfl!) (by kernel_rfl!))
theorem EvOk.mover {x : Str} {ρ : Rho} {σ : Sig} {np pos : Pos} {es : List Expr} (hn : EvOk S d σ (k + 12) J (.Name x np) ρ (.val (isMover S codes p mv))) (hs : PlainArgs es) (ha : ArgsOk S d σ (k + 12) J es ρ [isRow codes p, isInt i, isInt n]) (h1 : p ≤ i ∧ i ≤ p + codes.length ∧ -64 ≤ n ∧ n ≤ 64) (h : mv i n = some j) :
    EvOk S d σ (k + 12) J (.Call (.Name x np) es [] pos) ρ (.val (isInt j)) :=
  EvOk.callLoc (o := fun _ _ => True) hn hs ha fun I v hv => ⟨hv.1, CallV.le (Nat.le_add_left 12 k) (CallS.run (by have := hv.2 d J i n h1.1 h1.2.1 h1.2.2.1 h1.2.2.2; rw [h] at this; exact this))⟩
theorem EvOk.moverX {x : Str} {ρ : Rho} {σ : Sig} {np pos : Pos} {es : List Expr} (hn : EvOk S d σ (k + 12) J (.Name x np) ρ (.val (isMover S codes p mv))) (hs : PlainArgs es) (ha : ArgsOk S d σ (k + 12) J es ρ [isRow codes p, isInt i, isInt n]) (h1 : p ≤ i ∧ i ≤ p + codes.length ∧ -64 ≤ n ∧ n ≤ 64) (h : mv i n = none) :
    EvOk S d σ (k + 12) J (.Call (.Name x np) es [] pos) ρ .exc :=
  EvOk.callLoc (o := fun _ _ => True) hn hs ha fun I v hv => ⟨hv.1, CallV.le (Nat.le_add_left 12 k) (CallS.run (by have := hv.2 d J i n h1.1 h1.2.1 h1.2.2.1 h1.2.2.2; rw [h] at this; exact this))⟩
end
noncomputable def unitsEdit (codes : List Int) (p : Int) (mv : Int → Int → Option Int) (i n : Int) : Option ((Int × Int × List Int) × Int) := (unitsRegions mv i n).bind fun x => (regionsEdit codes p x.1 x.2.1).map fun e => (e, x.2.2)
/-- small numbers -/
noncomputable def Sm (x : Int × Int) : Prop := -4096 ≤ x.1 ∧ x.1 ≤ 4096 ∧ -4096 ≤ x.2 ∧ x.2 ≤ 4096
theorem inOrder_sm {one other f s : Int × Int} (h : inOrder one other = some (f, s)) (h1 : Sm one) (h2 : Sm other) : Sm f ∧ Sm s := by
  unfold inOrder at h
  split at h
  · split at h
    · cases h
    · cases h; exact ⟨h1, h2⟩
  · split at h
    · cases h
    · cases h; exact ⟨h2, h1⟩
section
variable {S : St} {d : Mut} {k : Nat} {J : JM} {codes : List Int} {p i many a b n j : Int} {one other f s : Int × Int} {mv : Int → Int → Option Int} {e : Int × Int × List Int} {ua : (Int × Int) × Int} {ur : (Int × Int) × (Int × Int) × Int} {ue : (Int × Int × List Int) × Int}
noncomputable abbrev st_regions_edit : Stmt := topS 13
theorem D_regions_edit : DefIs 95 (fdO st_regions_edit (u "regions_edit") .none (.str (u "emacs.transpose") 277) (.ref 94)) (sigO st_regions_edit (u "regions_edit") (.ref 94)) (bodyOf st_regions_edit) := defIs_of (fun _ => by kernel_rfl!) (by kernel_rfl!) (fun _ => by kernel_rfl!)
theorem c_regions_edit (hz : codes.length ≤ 2 ^ 16) (h1 : Sm one) (h2 : Sm other) (h : regionsEdit codes p one other = some e) : CallOk S d (k + 4) J 95 [isRow codes p, isPair one, isPair other] (.val (isEdit e)) J := by
  unfold regionsEdit at h
  obtain ⟨⟨f, s⟩, hio, rfl⟩ := Option.map_eq_some_iff.mp h
  obtain ⟨⟨f1, f2, f3, f4⟩, s1, s2, s3, s4⟩ := inOrder_sm hio h1 h2
  clear h1 h2 h
  refine CallOk.def (xs := [u "view", u "one", u "other"]) (DPs := []) (dvs := []) D_regions_edit (by kernel_rfl!) (fun s vs hl _ => ?_) (by kernel_rfl!) (by decide) (fun _ => .nil) .val ?_
  · obtain ⟨v0, v1, v2, rfl⟩ := len3 hl
    exact BindsTo.of_eq rfl
  show Blk S d _ _ J _ [(u "view", isRow codes p), (u "one", isPair one), (u "other", isPair other)] _ _
  walk_at "un2"
  walk_at "asg"
  walk_at "ret"
  rfl
theorem x_regions_edit (h : regionsEdit codes p one other = none) : CallOk S d (k + 4) J 95 [isRow codes p, isPair one, isPair other] .exc J := by
  unfold regionsEdit at h
  rw [Option.map_eq_none_iff] at h
  refine CallOk.def (xs := [u "view", u "one", u "other"]) (DPs := []) (dvs := []) D_regions_edit (by kernel_rfl!) (fun s vs hl _ => ?_) (by kernel_rfl!) (by decide) (fun _ => .nil) .exc ?_
  · obtain ⟨v0, v1, v2, rfl⟩ := len3 hl
    exact BindsTo.of_eq rfl
  show Blk S d _ _ J _ [(u "view", isRow codes p), (u "one", isPair one), (u "other", isPair other)] _ _
  apply Blk.unpackX
  · apply ex_in_order
    · kernel_rfl!
    · intro _; rfl
    · walk_at "args"
    · exact h
  · intro _; rfl
  · intro _; rfl
theorem e_regions_edit {es : List Expr} {np pos : Pos} {ρ : Rho} {σ : Sig} (hk : σ.scope.names.lookup (u "regions_edit") = some .globalImplicit) (hs : PlainArgs es) (ha : ArgsOk S d σ (k + 4) J es ρ [isRow codes p, isPair one, isPair other]) (hz : codes.length ≤ 2 ^ 16) (h1 : Sm one) (h2 : Sm other) (h : regionsEdit codes p one other = some e) : EvOk S d σ (k + 4) J (.Call (.Name (u "regions_edit") np) es [] pos) ρ (.val (isEdit e)) :=
  EvOk.callF D_regions_edit.d (c_regions_edit hz h1 h2 h) hk (fun _ => by kernel_rfl!) (by kernel_rfl!) hs ha
end
local macro_rules | `(tactic| walk_at "ev") => `(tactic| ((with_reducible apply e_regions_edit); walk_at "K"; walk_at "R"; walk_at "A"; walk_at "D"; walk_at "D"; walk_at "D"; walk_at "D"))
section
variable {S : St} {d : Mut} {k : Nat} {J : JM} {codes : List Int} {p i many a b n j : Int} {one other f s : Int × Int} {mv : Int → Int → Option Int} {e : Int × Int × List Int} {ua : (Int × Int) × Int} {ur : (Int × Int) × (Int × Int) × Int} {ue : (Int × Int × List Int) × Int}
noncomputable abbrev st_unit_around : Stmt := topS 14
theorem D_unit_around : DefIs 102 (fdO st_unit_around (u "unit_around") .none (.str (u "emacs.transpose") 277) (.ref 101)) (sigO st_unit_around (u "unit_around") (.ref 101)) (bodyOf st_unit_around) := defIs_of (fun _ => by kernel_rfl!) (by kernel_rfl!) (fun _ => by kernel_rfl!)
theorem c_unit_around (h1 : p ≤ i ∧ i ≤ p + codes.length ∧ -64 ≤ n ∧ n ≤ 64) (st : Stays codes p mv) (h : unitAround mv i n = some ua) : CallOk S d (k + 13) J 102 [isMover S codes p mv, isRow codes p, isInt i, isInt n] (.val (isTup [isPair ua.1, isInt ua.2])) J := by
  unfold unitAround at h
  obtain ⟨far, hfar, h⟩ := Option.bind_eq_some_iff.mp h
  obtain ⟨near, hnear, rfl⟩ := Option.map_eq_some_iff.mp h
  obtain ⟨hf1, hf2⟩ := st _ _ _ h1.1 h1.2.1 hfar
  refine CallOk.def (xs := [u "mover", u "view", u "place", u "many"]) (DPs := []) (dvs := []) D_unit_around (by kernel_rfl!) (fun s vs hl _ => ?_) (by kernel_rfl!) (by decide) (fun _ => .nil) .val ?_
  · obtain ⟨v0, v1, v2, v3, rfl⟩ := len4 hl
    exact BindsTo.of_eq rfl
  show Blk S d _ _ J _ [(u "mover", isMover S codes p mv), (u "view", isRow codes p), (u "place", isInt i), (u "many", isInt n)] _ _
  apply Blk.assign
  · apply EvOk.mover
    · walk_at "ev"
    · intro _; rfl
    · walk_at "args"
    · exact h1
    · exact hfar
  · kernel_rfl!
  · intro _; rfl
  apply Blk.assign
  · apply EvOk.mover
    · walk_at "ev"
    · intro _; rfl
    · walk_at "args"
    · lia
    · exact hnear
  · kernel_rfl!
  · intro _; rfl
  walk_at "ret"
  rfl
theorem x_unit_around (h1 : p ≤ i ∧ i ≤ p + codes.length ∧ -64 ≤ n ∧ n ≤ 64) (st : Stays codes p mv) (h : unitAround mv i n = none) : CallOk S d (k + 13) J 102 [isMover S codes p mv, isRow codes p, isInt i, isInt n] .exc J := by
  unfold unitAround at h
  cases hfar : mv i n with
  | none =>
    refine CallOk.def (xs := [u "mover", u "view", u "place", u "many"]) (DPs := []) (dvs := []) D_unit_around (by kernel_rfl!) (fun s vs hl _ => ?_) (by kernel_rfl!) (by decide) (fun _ => .nil) .exc ?_
    · obtain ⟨v0, v1, v2, v3, rfl⟩ := len4 hl
      exact BindsTo.of_eq rfl
    show Blk S d _ _ J _ [(u "mover", isMover S codes p mv), (u "view", isRow codes p), (u "place", isInt i), (u "many", isInt n)] _ _
    apply Blk.assignX
    · apply EvOk.moverX
      · walk_at "ev"
      · intro _; rfl
      · walk_at "args"
      · exact h1
      · exact hfar
    · intro _; rfl
  | some far =>
    rw [hfar] at h
    rw [Option.bind_some, Option.map_eq_none_iff] at h
    obtain ⟨hf1, hf2⟩ := st _ _ _ h1.1 h1.2.1 hfar
    refine CallOk.def (xs := [u "mover", u "view", u "place", u "many"]) (DPs := []) (dvs := []) D_unit_around (by kernel_rfl!) (fun s vs hl _ => ?_) (by kernel_rfl!) (by decide) (fun _ => .nil) .exc ?_
    · obtain ⟨v0, v1, v2, v3, rfl⟩ := len4 hl
      exact BindsTo.of_eq rfl
    show Blk S d _ _ J _ [(u "mover", isMover S codes p mv), (u "view", isRow codes p), (u "place", isInt i), (u "many", isInt n)] _ _
    apply Blk.assign
    · apply EvOk.mover
      · walk_at "ev"
      · intro _; rfl
      · walk_at "args"
      · exact h1
      · exact hfar
    · kernel_rfl!
    · intro _; rfl
    apply Blk.assignX
    · apply EvOk.moverX
      · walk_at "ev"
      · intro _; rfl
      · walk_at "args"
      · lia
      · exact h
    · intro _; rfl
theorem e_unit_around {es : List Expr} {np pos : Pos} {ρ : Rho} {σ : Sig} (hk : σ.scope.names.lookup (u "unit_around") = some .globalImplicit) (hs : PlainArgs es) (ha : ArgsOk S d σ (k + 13) J es ρ [isMover S codes p mv, isRow codes p, isInt i, isInt n]) (h1 : p ≤ i ∧ i ≤ p + codes.length ∧ -64 ≤ n ∧ n ≤ 64) (st : Stays codes p mv) (h : unitAround mv i n = some ua) : EvOk S d σ (k + 13) J (.Call (.Name (u "unit_around") np) es [] pos) ρ (.val (isTup [isPair ua.1, isInt ua.2])) :=
  EvOk.callF D_unit_around.d (c_unit_around h1 st h) hk (fun _ => by kernel_rfl!) (by kernel_rfl!) hs ha
end
local macro_rules | `(tactic| walk_at "ev") => `(tactic| ((with_reducible apply e_unit_around); walk_at "K"; walk_at "R"; walk_at "A"; walk_at "D"; walk_at "D"; walk_at "D"))
section
variable {S : St} {d : Mut} {k : Nat} {J : JM} {codes : List Int} {p i many a b n j : Int} {one other f s : Int × Int} {mv : Int → Int → Option Int} {e : Int × Int × List Int} {ua : (Int × Int) × Int} {ur : (Int × Int) × (Int × Int) × Int} {ue : (Int × Int × List Int) × Int}
theorem ex_unit_around {es : List Expr} {np pos : Pos} {ρ : Rho} {σ : Sig} (hk : σ.scope.names.lookup (u "unit_around") = some .globalImplicit) (hs : PlainArgs es) (ha : ArgsOk S d σ (k + 13) J es ρ [isMover S codes p mv, isRow codes p, isInt i, isInt n]) (h1 : p ≤ i ∧ i ≤ p + codes.length ∧ -64 ≤ n ∧ n ≤ 64) (st : Stays codes p mv) (h : unitAround mv i n = none) : EvOk S d σ (k + 13) J (.Call (.Name (u "unit_around") np) es [] pos) ρ .exc :=
  EvOk.callF D_unit_around.d (x_unit_around h1 st h) hk (fun _ => by kernel_rfl!) (by kernel_rfl!) hs ha
theorem unitAround_in (h : unitAround mv i n = some ua) (st : Stays codes p mv) (h1 : p ≤ i) (h2 : i ≤ p + codes.length) : p ≤ ua.1.1 ∧ ua.1.1 ≤ p + codes.length ∧ p ≤ ua.1.2 ∧ ua.1.2 ≤ p + codes.length ∧ p ≤ ua.2 ∧ ua.2 ≤ p + codes.length := by
  unfold unitAround at h
  obtain ⟨far, hfar, h⟩ := Option.bind_eq_some_iff.mp h
  obtain ⟨near, hnear, rfl⟩ := Option.map_eq_some_iff.mp h
  obtain ⟨a1, a2⟩ := st _ _ _ h1 h2 hfar
  obtain ⟨b1, b2⟩ := st _ _ _ a1 a2 hnear
  simp only
  lia
noncomputable abbrev st_units_regions : Stmt := topS 15
theorem D_units_regions : DefIs 109 (fdO st_units_regions (u "units_regions") .none (.str (u "emacs.transpose") 277) (.ref 108)) (sigO st_units_regions (u "units_regions") (.ref 108)) (bodyOf st_units_regions) := defIs_of (fun _ => by kernel_rfl!) (by kernel_rfl!) (fun _ => by kernel_rfl!)
theorem c_units_regions (h1 : p ≤ i ∧ i ≤ p + codes.length) (h2 : -64 ≤ n ∧ n ≤ 64) (st : Stays codes p mv) (h : unitsRegions mv i n = some ur) : CallOk S d (k + 14) J 109 [isMover S codes p mv, isRow codes p, isInt i, isInt n] (.val (isTup [isPair ur.1, isPair ur.2.1, isInt ur.2.2])) J := by
  unfold unitsRegions at h
  obtain ⟨ob, hob, h⟩ := Option.bind_eq_some_iff.mp h
  obtain ⟨q1, q2, q3, q4, q5, q6⟩ := unitAround_in hob st h1.1 h1.2
  refine CallOk.def (xs := [u "mover", u "view", u "place", u "many"]) (DPs := []) (dvs := []) D_units_regions (by kernel_rfl!) (fun s vs hl _ => ?_) (by kernel_rfl!) (by decide) (fun _ => .nil) .val ?_
  · obtain ⟨v0, v1, v2, v3, rfl⟩ := len4 hl
    exact BindsTo.of_eq rfl
  show Blk S d _ _ J _ [(u "mover", isMover S codes p mv), (u "view", isRow codes p), (u "place", isInt i), (u "many", isInt n)] _ _
  apply Blk.unpack2
  · apply e_unit_around (ua := ob)
    · kernel_rfl!
    · intro _; rfl
    · walk_at "args"
    · lia
    · exact st
    · exact hob
  · kernel_rfl!
  · kernel_rfl!
  · intro _; rfl
  · intro _; rfl
  by_cases hn : 0 < n
  · rw [if_pos hn] at h
    obtain ⟨x, hx, rfl⟩ := Option.map_eq_some_iff.mp h
    walk_at "if1"
    · simpa using hn
    · apply Blk.unpack2
      · apply e_unit_around (ua := x)
        · kernel_rfl!
        · intro _; rfl
        · walk_at "args"
        · lia
        · exact st
        · exact hx
      · kernel_rfl!
      · kernel_rfl!
      · intro _; rfl
      · intro _; rfl
      walk_at "ret"
      rfl
  · rw [if_neg hn] at h
    obtain ⟨x, hx, rfl⟩ := Option.map_eq_some_iff.mp h
    walk_at "if0"
    · simpa using hn
    · exact Blk.nil
    · apply Blk.unpack2
      · apply e_unit_around (ua := x)
        · kernel_rfl!
        · intro _; rfl
        · walk_at "args"
        · lia
        · exact st
        · exact hx
      · kernel_rfl!
      · kernel_rfl!
      · intro _; rfl
      · intro _; rfl
      walk_at "ret"
      rfl
theorem x_units_regions (h1 : p ≤ i ∧ i ≤ p + codes.length) (h2 : -64 ≤ n ∧ n ≤ 64) (st : Stays codes p mv) (h : unitsRegions mv i n = none) : CallOk S d (k + 14) J 109 [isMover S codes p mv, isRow codes p, isInt i, isInt n] .exc J := by
  unfold unitsRegions at h
  cases hob : unitAround mv i (-1) with
  | none =>
    refine CallOk.def (xs := [u "mover", u "view", u "place", u "many"]) (DPs := []) (dvs := []) D_units_regions (by kernel_rfl!) (fun s vs hl _ => ?_) (by kernel_rfl!) (by decide) (fun _ => .nil) .exc ?_
    · obtain ⟨v0, v1, v2, v3, rfl⟩ := len4 hl
      exact BindsTo.of_eq rfl
    show Blk S d _ _ J _ [(u "mover", isMover S codes p mv), (u "view", isRow codes p), (u "place", isInt i), (u "many", isInt n)] _ _
    apply Blk.unpackX
    · apply ex_unit_around
      · kernel_rfl!
      · intro _; rfl
      · walk_at "args"
      · lia
      · exact st
      · exact hob
    · intro _; rfl
    · intro _; rfl
  | some ob =>
    rw [hob, Option.bind_some] at h
    obtain ⟨q1, q2, q3, q4, q5, q6⟩ := unitAround_in hob st h1.1 h1.2
    refine CallOk.def (xs := [u "mover", u "view", u "place", u "many"]) (DPs := []) (dvs := []) D_units_regions (by kernel_rfl!) (fun s vs hl _ => ?_) (by kernel_rfl!) (by decide) (fun _ => .nil) .exc ?_
    · obtain ⟨v0, v1, v2, v3, rfl⟩ := len4 hl
      exact BindsTo.of_eq rfl
    show Blk S d _ _ J _ [(u "mover", isMover S codes p mv), (u "view", isRow codes p), (u "place", isInt i), (u "many", isInt n)] _ _
    apply Blk.unpack2
    · apply e_unit_around (ua := ob)
      · kernel_rfl!
      · intro _; rfl
      · walk_at "args"
      · lia
      · exact st
      · exact hob
    · kernel_rfl!
    · kernel_rfl!
    · intro _; rfl
    · intro _; rfl
    by_cases hn : 0 < n
    · rw [if_pos hn, Option.map_eq_none_iff] at h
      apply Blk.ifXe
      · walk_at "te"
      · simpa using hn
      · apply Blk.unpackX
        · apply ex_unit_around
          · kernel_rfl!
          · intro _; rfl
          · walk_at "args"
          · lia
          · exact st
          · exact h
        · intro _; rfl
        · intro _; rfl
    · rw [if_neg hn, Option.map_eq_none_iff] at h
      walk_at "if0"
      · simpa using hn
      · exact Blk.nil
      · apply Blk.unpackX
        · apply ex_unit_around
          · kernel_rfl!
          · intro _; rfl
          · walk_at "args"
          · lia
          · exact st
          · exact h
        · intro _; rfl
        · intro _; rfl
end
section
variable {S : St} {d : Mut} {k : Nat} {J : JM} {codes : List Int} {p i many a b n j : Int} {one other f s : Int × Int} {mv : Int → Int → Option Int} {e : Int × Int × List Int} {ua : (Int × Int) × Int} {ur : (Int × Int) × (Int × Int) × Int} {ue : (Int × Int × List Int) × Int}
theorem ex_regions_edit {es : List Expr} {np pos : Pos} {ρ : Rho} {σ : Sig} (hk : σ.scope.names.lookup (u "regions_edit") = some .globalImplicit) (hs : PlainArgs es) (ha : ArgsOk S d σ (k + 4) J es ρ [isRow codes p, isPair one, isPair other]) (h : regionsEdit codes p one other = none) : EvOk S d σ (k + 4) J (.Call (.Name (u "regions_edit") np) es [] pos) ρ .exc :=
  EvOk.callF D_regions_edit.d (x_regions_edit h) hk (fun _ => by kernel_rfl!) (by kernel_rfl!) hs ha
theorem e_units_regions {es : List Expr} {np pos : Pos} {ρ : Rho} {σ : Sig} (hk : σ.scope.names.lookup (u "units_regions") = some .globalImplicit) (hs : PlainArgs es) (ha : ArgsOk S d σ (k + 14) J es ρ [isMover S codes p mv, isRow codes p, isInt i, isInt n]) (h1 : p ≤ i ∧ i ≤ p + codes.length) (h2 : -64 ≤ n ∧ n ≤ 64) (st : Stays codes p mv) (h : unitsRegions mv i n = some ur) : EvOk S d σ (k + 14) J (.Call (.Name (u "units_regions") np) es [] pos) ρ (.val (isTup [isPair ur.1, isPair ur.2.1, isInt ur.2.2])) :=
  EvOk.callF D_units_regions.d (c_units_regions h1 h2 st h) hk (fun _ => by kernel_rfl!) (by kernel_rfl!) hs ha
theorem ex_units_regions {es : List Expr} {np pos : Pos} {ρ : Rho} {σ : Sig} (hk : σ.scope.names.lookup (u "units_regions") = some .globalImplicit) (hs : PlainArgs es) (ha : ArgsOk S d σ (k + 14) J es ρ [isMover S codes p mv, isRow codes p, isInt i, isInt n]) (h1 : p ≤ i ∧ i ≤ p + codes.length) (h2 : -64 ≤ n ∧ n ≤ 64) (st : Stays codes p mv) (h : unitsRegions mv i n = none) : EvOk S d σ (k + 14) J (.Call (.Name (u "units_regions") np) es [] pos) ρ .exc :=
  EvOk.callF D_units_regions.d (x_units_regions h1 h2 st h) hk (fun _ => by kernel_rfl!) (by kernel_rfl!) hs ha
theorem unitsRegions_sm (h : unitsRegions mv i n = some ur) (st : Stays codes p mv) (h1 : p ≤ i ∧ i ≤ p + codes.length) (hp : 0 ≤ p ∧ p ≤ 64) (hc : codes.length ≤ 64) : Sm ur.1 ∧ Sm ur.2.1 := by
  unfold unitsRegions at h
  obtain ⟨ob, hob, h⟩ := Option.bind_eq_some_iff.mp h
  obtain ⟨q1, q2, q3, q4, q5, q6⟩ := unitAround_in hob st h1.1 h1.2
  split at h
  · obtain ⟨x, hx, rfl⟩ := Option.map_eq_some_iff.mp h
    obtain ⟨r1, r2, r3, r4, r5, r6⟩ := unitAround_in hx st q5 q6
    unfold Sm; simp only; lia
  · obtain ⟨x, hx, rfl⟩ := Option.map_eq_some_iff.mp h
    obtain ⟨r1, r2, r3, r4, r5, r6⟩ := unitAround_in hx st q1 q2
    unfold Sm; simp only; lia
noncomputable abbrev st_units_edit : Stmt := topS 16
theorem D_units_edit : DefIs 116 (fdO st_units_edit (u "units_edit") .none (.str (u "emacs.transpose") 277) (.ref 115)) (sigO st_units_edit (u "units_edit") (.ref 115)) (bodyOf st_units_edit) := defIs_of (fun _ => by kernel_rfl!) (by kernel_rfl!) (fun _ => by kernel_rfl!)
theorem c_units_edit (hc : codes.length ≤ 64) (hp : 0 ≤ p ∧ p ≤ 64) (h1 : p ≤ i ∧ i ≤ p + codes.length) (h2 : -64 ≤ n ∧ n ≤ 64) (st : Stays codes p mv) (h : unitsEdit codes p mv i n = some ue) : CallOk S d (k + 15) J 116 [isMover S codes p mv, isRow codes p, isInt i, isInt n] (.val (isTup [isEdit ue.1, isInt ue.2])) J := by
  unfold unitsEdit at h
  obtain ⟨ur, hur, h⟩ := Option.bind_eq_some_iff.mp h
  obtain ⟨e, he, rfl⟩ := Option.map_eq_some_iff.mp h
  obtain ⟨s1, s2⟩ := unitsRegions_sm hur st h1 hp hc
  refine CallOk.def (xs := [u "mover", u "view", u "place", u "many"]) (DPs := []) (dvs := []) D_units_edit (by kernel_rfl!) (fun s vs hl _ => ?_) (by kernel_rfl!) (by decide) (fun _ => .nil) .val ?_
  · obtain ⟨v0, v1, v2, v3, rfl⟩ := len4 hl
    exact BindsTo.of_eq rfl
  show Blk S d _ _ J _ [(u "mover", isMover S codes p mv), (u "view", isRow codes p), (u "place", isInt i), (u "many", isInt n)] _ _
  apply Blk.unpack3
  · apply e_units_regions (ur := ur)
    · kernel_rfl!
    · intro _; rfl
    · walk_at "args"
    · exact h1
    · exact h2
    · exact st
    · exact hur
  · kernel_rfl!
  · kernel_rfl!
  · kernel_rfl!
  · intro _; rfl
  · intro _; rfl
  apply Blk.retE
  · apply EvOk.tupleG
    · apply ArgsOk.cons
      · apply e_regions_edit (one := ur.1) (other := ur.2.1) (e := e)
        · kernel_rfl!
        · intro _; rfl
        · walk_at "args"
        · lia
        · exact s1
        · exact s2
        · exact he
      · walk_at "args"
      · intro _; rfl
    · rfl
  · rfl
theorem x_units_edit (hc : codes.length ≤ 64) (hp : 0 ≤ p ∧ p ≤ 64) (h1 : p ≤ i ∧ i ≤ p + codes.length) (h2 : -64 ≤ n ∧ n ≤ 64) (st : Stays codes p mv) (h : unitsEdit codes p mv i n = none) : CallOk S d (k + 15) J 116 [isMover S codes p mv, isRow codes p, isInt i, isInt n] .exc J := by
  unfold unitsEdit at h
  cases hur : unitsRegions mv i n with
  | none =>
    refine CallOk.def (xs := [u "mover", u "view", u "place", u "many"]) (DPs := []) (dvs := []) D_units_edit (by kernel_rfl!) (fun s vs hl _ => ?_) (by kernel_rfl!) (by decide) (fun _ => .nil) .exc ?_
    · obtain ⟨v0, v1, v2, v3, rfl⟩ := len4 hl
      exact BindsTo.of_eq rfl
    show Blk S d _ _ J _ [(u "mover", isMover S codes p mv), (u "view", isRow codes p), (u "place", isInt i), (u "many", isInt n)] _ _
    apply Blk.unpackX
    · apply ex_units_regions
      · kernel_rfl!
      · intro _; rfl
      · walk_at "args"
      · exact h1
      · exact h2
      · exact st
      · exact hur
    · intro _; rfl
    · intro _; rfl
  | some ur =>
    rw [hur, Option.bind_some, Option.map_eq_none_iff] at h
    obtain ⟨s1, s2⟩ := unitsRegions_sm hur st h1 hp hc
    refine CallOk.def (xs := [u "mover", u "view", u "place", u "many"]) (DPs := []) (dvs := []) D_units_edit (by kernel_rfl!) (fun s vs hl _ => ?_) (by kernel_rfl!) (by decide) (fun _ => .nil) .exc ?_
    · obtain ⟨v0, v1, v2, v3, rfl⟩ := len4 hl
      exact BindsTo.of_eq rfl
    show Blk S d _ _ J _ [(u "mover", isMover S codes p mv), (u "view", isRow codes p), (u "place", isInt i), (u "many", isInt n)] _ _
    apply Blk.unpack3
    · apply e_units_regions (ur := ur)
      · kernel_rfl!
      · intro _; rfl
      · walk_at "args"
      · exact h1
      · exact h2
      · exact st
      · exact hur
    · kernel_rfl!
    · kernel_rfl!
    · kernel_rfl!
    · intro _; rfl
    · intro _; rfl
    apply Blk.retX
    apply EvOk.tupleX
    · apply ex_regions_edit (one := ur.1) (other := ur.2.1)
      · kernel_rfl!
      · intro _; rfl
      · walk_at "args"
      · exact h
    · intro _; rfl
theorem byChars_stays : Stays codes p (byChars codes p) := by
  intro i n j h1 h2 h
  unfold byChars at h
  split at h
  · cases h
  · split at h
    · cases h
    · cases h; lia
end
local macro_rules | `(tactic| walk_at "ev") => `(tactic| ((with_reducible apply g_by_chars); walk_at "K"; walk_at "O"))
section
variable {S : St} {d : Mut} {k : Nat} {J : JM} {codes : List Int} {p i many a b n j : Int} {one other f s : Int × Int} {mv : Int → Int → Option Int} {e : Int × Int × List Int} {ua : (Int × Int) × Int} {ur : (Int × Int) × (Int × Int) × Int} {ue : (Int × Int × List Int) × Int}
noncomputable abbrev st_chars_regions : Stmt := topS 18
theorem D_chars_regions : DefIs 130 (fdO st_chars_regions (u "chars_regions") .none (.str (u "emacs.transpose") 277) (.ref 129)) (sigO st_chars_regions (u "chars_regions") (.ref 129)) (bodyOf st_chars_regions) := defIs_of (fun _ => by kernel_rfl!) (by kernel_rfl!) (fun _ => by kernel_rfl!)
theorem c_chars_regions (hz : codes.length ≤ 2 ^ 16) (h1 : p ≤ i ∧ i ≤ p + codes.length) (h2 : -64 ≤ n ∧ n ≤ 64) (h : unitsRegions (byChars codes p) i n = some ur) : CallOk S d (k + 15) J 130 [isRow codes p, isInt i, isInt n] (.val (isTup [isPair ur.1, isPair ur.2.1, isInt ur.2.2])) J := by
  refine CallOk.def (xs := [u "view", u "place", u "many"]) (DPs := []) (dvs := []) D_chars_regions (by kernel_rfl!) (fun s vs hl _ => ?_) (by kernel_rfl!) (by decide) (fun _ => .nil) .val ?_
  · obtain ⟨v0, v1, v2, rfl⟩ := len3 hl
    exact BindsTo.of_eq rfl
  show Blk S d _ _ J _ [(u "view", isRow codes p), (u "place", isInt i), (u "many", isInt n)] _ _
  walk_at "if0"
  · rfl
  · exact Blk.nil
  · apply Blk.retE
    · apply e_units_regions (ur := ur) (mv := byChars codes p) (codes := codes) (p := p) (i := i) (n := n)
      · kernel_rfl!
      · intro _; rfl
      · apply ArgsOk.cons
        · walk_at "ev"
        · apply ArgsOk.cons
          · walk_at "ev"
          · apply ArgsOk.cons
            · walk_at "ev"
            · apply ArgsOk.cons
              · apply EvOk.ifFe
                · walk_at "te"
                · rfl
                · walk_at "ev"
              · exact ArgsOk.nil
              · intro _; rfl
            · intro _; rfl
          · intro _; rfl
        · intro _; rfl
      · exact h1
      · exact h2
      · exact byChars_stays
      · exact h
    · rfl
end
noncomputable def charsEdit (codes : List Int) (p i n : Int) : Option ((Int × Int × List Int) × Int) := unitsEdit codes p (byChars codes p) i n
noncomputable def linesAhead (codes : List Int) (p i n : Int) : Int × Int := ((linesTarget codes p i n).1, (linesTarget codes p i n).2 + (if i < (linesTarget codes p i n).1 ∧ codeAt codes p ((linesTarget codes p i n).1 - 1) ≠ 10 then 1 else 0))
section
variable {S : St} {d : Mut} {k : Nat} {J : JM} {codes : List Int} {p i many a b n j : Int} {one other f s : Int × Int} {mv : Int → Int → Option Int} {e : Int × Int × List Int} {ua : (Int × Int) × Int} {ur : (Int × Int) × (Int × Int) × Int} {ue : (Int × Int × List Int) × Int}
theorem x_chars_regions (hz : codes.length ≤ 2 ^ 16) (h1 : p ≤ i ∧ i ≤ p + codes.length) (h2 : -64 ≤ n ∧ n ≤ 64) (h : unitsRegions (byChars codes p) i n = none) : CallOk S d (k + 15) J 130 [isRow codes p, isInt i, isInt n] .exc J := by
  refine CallOk.def (xs := [u "view", u "place", u "many"]) (DPs := []) (dvs := []) D_chars_regions (by kernel_rfl!) (fun s vs hl _ => ?_) (by kernel_rfl!) (by decide) (fun _ => .nil) .exc ?_
  · obtain ⟨v0, v1, v2, rfl⟩ := len3 hl
    exact BindsTo.of_eq rfl
  show Blk S d _ _ J _ [(u "view", isRow codes p), (u "place", isInt i), (u "many", isInt n)] _ _
  walk_at "if0"
  · rfl
  · exact Blk.nil
  · apply Blk.retX
    apply ex_units_regions (mv := byChars codes p) (codes := codes) (p := p) (i := i) (n := n)
    · kernel_rfl!
    · intro _; rfl
    · apply ArgsOk.cons
      · walk_at "ev"
      · apply ArgsOk.cons
        · walk_at "ev"
        · apply ArgsOk.cons
          · walk_at "ev"
          · apply ArgsOk.cons
            · apply EvOk.ifFe
              · walk_at "te"
              · rfl
              · walk_at "ev"
            · exact ArgsOk.nil
            · intro _; rfl
          · intro _; rfl
        · intro _; rfl
      · intro _; rfl
    · exact h1
    · exact h2
    · exact byChars_stays
    · exact h
theorem e_chars_regions {es : List Expr} {np pos : Pos} {ρ : Rho} {σ : Sig} (hk : σ.scope.names.lookup (u "chars_regions") = some .globalImplicit) (hs : PlainArgs es) (ha : ArgsOk S d σ (k + 15) J es ρ [isRow codes p, isInt i, isInt n]) (hz : codes.length ≤ 2 ^ 16) (h1 : p ≤ i ∧ i ≤ p + codes.length) (h2 : -64 ≤ n ∧ n ≤ 64) (h : unitsRegions (byChars codes p) i n = some ur) : EvOk S d σ (k + 15) J (.Call (.Name (u "chars_regions") np) es [] pos) ρ (.val (isTup [isPair ur.1, isPair ur.2.1, isInt ur.2.2])) :=
  EvOk.callF D_chars_regions.d (c_chars_regions hz h1 h2 h) hk (fun _ => by kernel_rfl!) (by kernel_rfl!) hs ha
theorem ex_chars_regions {es : List Expr} {np pos : Pos} {ρ : Rho} {σ : Sig} (hk : σ.scope.names.lookup (u "chars_regions") = some .globalImplicit) (hs : PlainArgs es) (ha : ArgsOk S d σ (k + 15) J es ρ [isRow codes p, isInt i, isInt n]) (hz : codes.length ≤ 2 ^ 16) (h1 : p ≤ i ∧ i ≤ p + codes.length) (h2 : -64 ≤ n ∧ n ≤ 64) (h : unitsRegions (byChars codes p) i n = none) : EvOk S d σ (k + 15) J (.Call (.Name (u "chars_regions") np) es [] pos) ρ .exc :=
  EvOk.callF D_chars_regions.d (x_chars_regions hz h1 h2 h) hk (fun _ => by kernel_rfl!) (by kernel_rfl!) hs ha
noncomputable abbrev st_chars_edit : Stmt := topS 19
theorem D_chars_edit : DefIs 137 (fdO st_chars_edit (u "chars_edit") .none (.str (u "emacs.transpose") 277) (.ref 136)) (sigO st_chars_edit (u "chars_edit") (.ref 136)) (bodyOf st_chars_edit) := defIs_of (fun _ => by kernel_rfl!) (by kernel_rfl!) (fun _ => by kernel_rfl!)
theorem c_chars_edit (hc : codes.length ≤ 64) (hp : 0 ≤ p ∧ p ≤ 64) (h1 : p ≤ i ∧ i ≤ p + codes.length) (h2 : -64 ≤ n ∧ n ≤ 64) (h : charsEdit codes p i n = some ue) : CallOk S d (k + 16) J 137 [isRow codes p, isInt i, isInt n] (.val (isTup [isEdit ue.1, isInt ue.2])) J := by
  unfold charsEdit unitsEdit at h
  obtain ⟨ur, hur, h⟩ := Option.bind_eq_some_iff.mp h
  obtain ⟨e, he, rfl⟩ := Option.map_eq_some_iff.mp h
  obtain ⟨s1, s2⟩ := unitsRegions_sm hur byChars_stays h1 hp hc
  refine CallOk.def (xs := [u "view", u "place", u "many"]) (DPs := []) (dvs := []) D_chars_edit (by kernel_rfl!) (fun s vs hl _ => ?_) (by kernel_rfl!) (by decide) (fun _ => .nil) .val ?_
  · obtain ⟨v0, v1, v2, rfl⟩ := len3 hl
    exact BindsTo.of_eq rfl
  show Blk S d _ _ J _ [(u "view", isRow codes p), (u "place", isInt i), (u "many", isInt n)] _ _
  apply Blk.unpack3
  · apply e_chars_regions (ur := ur)
    · kernel_rfl!
    · intro _; rfl
    · walk_at "args"
    · lia
    · exact h1
    · exact h2
    · exact hur
  · kernel_rfl!
  · kernel_rfl!
  · kernel_rfl!
  · intro _; rfl
  · intro _; rfl
  apply Blk.retE
  · apply EvOk.tupleG
    · apply ArgsOk.cons
      · apply e_regions_edit (one := ur.1) (other := ur.2.1) (e := e)
        · kernel_rfl!
        · intro _; rfl
        · walk_at "args"
        · lia
        · exact s1
        · exact s2
        · exact he
      · walk_at "args"
      · intro _; rfl
    · rfl
  · rfl
theorem x_chars_edit (hc : codes.length ≤ 64) (hp : 0 ≤ p ∧ p ≤ 64) (h1 : p ≤ i ∧ i ≤ p + codes.length) (h2 : -64 ≤ n ∧ n ≤ 64) (h : charsEdit codes p i n = none) : CallOk S d (k + 16) J 137 [isRow codes p, isInt i, isInt n] .exc J := by
  unfold charsEdit unitsEdit at h
  cases hur : unitsRegions (byChars codes p) i n with
  | none =>
    refine CallOk.def (xs := [u "view", u "place", u "many"]) (DPs := []) (dvs := []) D_chars_edit (by kernel_rfl!) (fun s vs hl _ => ?_) (by kernel_rfl!) (by decide) (fun _ => .nil) .exc ?_
    · obtain ⟨v0, v1, v2, rfl⟩ := len3 hl
      exact BindsTo.of_eq rfl
    show Blk S d _ _ J _ [(u "view", isRow codes p), (u "place", isInt i), (u "many", isInt n)] _ _
    apply Blk.unpackX
    · apply ex_chars_regions
      · kernel_rfl!
      · intro _; rfl
      · walk_at "args"
      · lia
      · exact h1
      · exact h2
      · exact hur
    · intro _; rfl
    · intro _; rfl
  | some ur =>
    rw [hur, Option.bind_some, Option.map_eq_none_iff] at h
    obtain ⟨s1, s2⟩ := unitsRegions_sm hur byChars_stays h1 hp hc
    refine CallOk.def (xs := [u "view", u "place", u "many"]) (DPs := []) (dvs := []) D_chars_edit (by kernel_rfl!) (fun s vs hl _ => ?_) (by kernel_rfl!) (by decide) (fun _ => .nil) .exc ?_
    · obtain ⟨v0, v1, v2, rfl⟩ := len3 hl
      exact BindsTo.of_eq rfl
    show Blk S d _ _ J _ [(u "view", isRow codes p), (u "place", isInt i), (u "many", isInt n)] _ _
    apply Blk.unpack3
    · apply e_chars_regions (ur := ur)
      · kernel_rfl!
      · intro _; rfl
      · walk_at "args"
      · lia
      · exact h1
      · exact h2
      · exact hur
    · kernel_rfl!
    · kernel_rfl!
    · kernel_rfl!
    · intro _; rfl
    · intro _; rfl
    apply Blk.retX
    apply EvOk.tupleX
    · apply ex_regions_edit (one := ur.1) (other := ur.2.1)
      · kernel_rfl!
      · intro _; rfl
      · walk_at "args"
      · exact h
    · intro _; rfl
noncomputable abbrev st_lines_ahead : Stmt := topS 20
theorem D_lines_ahead : DefIs 144 (fdO st_lines_ahead (u "lines_ahead") .none (.str (u "emacs.transpose") 277) (.ref 143)) (sigO st_lines_ahead (u "lines_ahead") (.ref 143)) (bodyOf st_lines_ahead) := defIs_of (fun _ => by kernel_rfl!) (by kernel_rfl!) (fun _ => by kernel_rfl!)
theorem c_lines_ahead (hz : codes.length ≤ 2 ^ 16) : CallOk S d (k + 5) J 144 [isRow codes p, isInt i, isInt n] (.val (isPair (linesAhead codes p i n))) J := by
  refine CallOk.def (xs := [u "view", u "place", u "many"]) (DPs := []) (dvs := []) D_lines_ahead (by kernel_rfl!) (fun s vs hl _ => ?_) (by kernel_rfl!) (by decide) (fun _ => .nil) .val ?_
  · obtain ⟨v0, v1, v2, rfl⟩ := len3 hl
    exact BindsTo.of_eq rfl
  show Blk S d _ _ J _ [(u "view", isRow codes p), (u "place", isInt i), (u "many", isInt n)] _ _
  walk_at "un2"
  by_cases h1 : i < (linesTarget codes p i n).1
  · by_cases h2 : codeAt codes p ((linesTarget codes p i n).1 - 1) = 10
    · apply Blk.retE
      · apply EvOk.tupleG
        · apply ArgsOk.cons
          · walk_at "ev"
          · apply ArgsOk.cons
            · apply EvOk.add
              · walk_at "ev"
              · apply EvOk.intG (b := false)
                · kernel_rfl!
                · apply ArgsOk.cons
                  · apply EvOk.andT
                    · apply EvOk.to
                      · walk_at "ev"
                      · rw [show decide (i < (linesTarget codes p i n).1) = true from by simpa using h1]
                    · apply EvOk.bool1
                      apply EvOk.to
                      · walk_at "ev"
                      · simp [h2]
                  · exact ArgsOk.nil
                  · intro _; rfl
                · intro _; rfl
            · exact ArgsOk.nil
            · intro _; rfl
          · intro _; rfl
        · rfl
      · unfold linesAhead; simp [h2]
    · apply Blk.retE
      · apply EvOk.tupleG
        · apply ArgsOk.cons
          · walk_at "ev"
          · apply ArgsOk.cons
            · apply EvOk.add
              · walk_at "ev"
              · apply EvOk.intG (b := true)
                · kernel_rfl!
                · apply ArgsOk.cons
                  · apply EvOk.andT
                    · apply EvOk.to
                      · walk_at "ev"
                      · rw [show decide (i < (linesTarget codes p i n).1) = true from by simpa using h1]
                    · apply EvOk.bool1
                      apply EvOk.to
                      · walk_at "ev"
                      · simp [h2]
                  · exact ArgsOk.nil
                  · intro _; rfl
                · intro _; rfl
            · exact ArgsOk.nil
            · intro _; rfl
          · intro _; rfl
        · rfl
      · unfold linesAhead; simp [h1, h2]
  · apply Blk.retE
    · apply EvOk.tupleG
      · apply ArgsOk.cons
        · walk_at "ev"
        · apply ArgsOk.cons
          · apply EvOk.add
            · walk_at "ev"
            · apply EvOk.intG (b := false)
              · kernel_rfl!
              · apply ArgsOk.cons
                · apply EvOk.andF
                  apply EvOk.to
                  · walk_at "ev"
                  · rw [show decide (i < (linesTarget codes p i n).1) = false from by simpa using h1]
                · exact ArgsOk.nil
                · intro _; rfl
              · intro _; rfl
          · exact ArgsOk.nil
          · intro _; rfl
        · intro _; rfl
      · rfl
    · unfold linesAhead; simp [h1]
theorem e_lines_ahead {es : List Expr} {np pos : Pos} {ρ : Rho} {σ : Sig} (hk : σ.scope.names.lookup (u "lines_ahead") = some .globalImplicit) (hs : PlainArgs es) (ha : ArgsOk S d σ (k + 5) J es ρ [isRow codes p, isInt i, isInt n]) (hz : codes.length ≤ 2 ^ 16) : EvOk S d σ (k + 5) J (.Call (.Name (u "lines_ahead") np) es [] pos) ρ (.val (isPair (linesAhead codes p i n))) :=
  EvOk.callF D_lines_ahead.d (c_lines_ahead hz) hk (fun _ => by kernel_rfl!) (by kernel_rfl!) hs ha
end
local macro_rules | `(tactic| walk_at "ev") => `(tactic| ((with_reducible apply e_lines_ahead); walk_at "K"; walk_at "R"; walk_at "A"; walk_at "D"))
section
variable {S : St} {d : Mut} {k : Nat} {J : JM} {codes : List Int} {p i many a b n j : Int} {one other f s : Int × Int} {mv : Int → Int → Option Int} {e : Int × Int × List Int} {ua : (Int × Int) × Int} {ur : (Int × Int) × (Int × Int) × Int} {ue : (Int × Int × List Int) × Int}
end
theorem lsO_le (codes : List Int) : ∀ n, lsO codes n ≤ n
  | 0 => Nat.le_refl _
  | n + 1 => by
    unfold lsO
    split
    · exact Nat.le_refl _
    · exact Nat.le_succ_of_le (lsO_le codes n)
theorem lineStart_in {codes : List Int} {p i : Int} (h : p ≤ i) : p ≤ lineStart codes p i ∧ lineStart codes p i ≤ i := by
  unfold lineStart
  split
  · lia
  · have := lsO_le codes (i - p).toNat
    lia
theorem lineEnd_in {codes : List Int} {p i : Int} (h : p ≤ i) (h' : i ≤ p + codes.length) : i ≤ lineEnd codes p i ∧ lineEnd codes p i ≤ p + codes.length := by
  unfold lineEnd
  split
  · lia
  · have h1 : ((codes.drop (i - p).toNat).takeWhile (fun c => c != 10)).length ≤ (codes.drop (i - p).toNat).length := (List.takeWhile_sublist _).length_le
    rw [List.length_drop] at h1
    unfold leO
    push_cast
    lia
theorem back_in {codes : List Int} {p : Int} : ∀ (m : Nat) (a : Int), p ≤ a → a ≤ p + codes.length → (p ≤ (back codes p a m).1 ∧ (back codes p a m).1 ≤ a) ∧ -(m : Int) ≤ (back codes p a m).2 ∧ (back codes p a m).2 ≤ 0
  | 0, a, h, h' => by unfold back; simp; lia
  | m + 1, a, h, h' => by
    unfold back
    split
    · rename_i c
      have q := lineStart_in (codes := codes) (p := p) (i := a - 1) (by lia)
      obtain ⟨⟨r1, r2⟩, r3, r4⟩ := back_in (codes := codes) m (lineStart codes p (a - 1)) q.1 (by lia)
      push_cast
      lia
    · push_cast; lia
theorem fwd_in {codes : List Int} {p : Int} (hp : 0 ≤ p) : ∀ (m : Nat) (a : Int), p ≤ a → a ≤ p + codes.length → (a ≤ (fwd codes p a m).1 ∧ (fwd codes p a m).1 ≤ p + codes.length) ∧ -1 ≤ (fwd codes p a m).2 ∧ (fwd codes p a m).2 ≤ m
  | 0, a, h, h' => by unfold fwd; simp; lia
  | m + 1, a, h, h' => by
    unfold fwd
    split
    · simp only
      push_cast
      split <;> lia
    · rename_i c
      have q := lineEnd_in (codes := codes) h h'
      have r : nextStart codes p a = lineEnd codes p a + 1 ∧ lineEnd codes p a < p + codes.length := by
        unfold nextStart at c ⊢
        split
        · rename_i z; exact ⟨rfl, z⟩
        · rename_i z; rw [if_neg z] at c; lia
      obtain ⟨⟨r1, r2⟩, r3, r4⟩ := fwd_in (codes := codes) hp m (nextStart codes p a) (by lia) (by lia)
      push_cast
      lia
theorem target_back_in {codes : List Int} {p i n : Int} (h : p ≤ i) (h' : i ≤ p + codes.length) (hn : n ≤ 0) : p ≤ (linesTarget codes p i n).1 ∧ (linesTarget codes p i n).1 ≤ i := by
  unfold linesTarget
  rw [if_pos hn]
  have q := lineStart_in (codes := codes) h
  have := back_in (codes := codes) (p := p) (-n).toNat (lineStart codes p i) q.1 (by lia)
  lia
theorem target_fwd_in {codes : List Int} {p i n : Int} (hp : 0 ≤ p) (h : p ≤ i) (h' : i ≤ p + codes.length) (hn : 0 < n) : i ≤ (linesTarget codes p i n).1 ∧ (linesTarget codes p i n).1 ≤ p + codes.length ∧ -1 ≤ (linesTarget codes p i n).2 ∧ (linesTarget codes p i n).2 ≤ n := by
  unfold linesTarget
  rw [if_neg (by lia)]
  have := fwd_in (codes := codes) hp n.toNat i h h'
  lia
theorem ahead_in {codes : List Int} {p i n : Int} (hp : 0 ≤ p) (h : p ≤ i) (h' : i ≤ p + codes.length) (hn : 0 < n) : i ≤ (linesAhead codes p i n).1 ∧ (linesAhead codes p i n).1 ≤ p + codes.length ∧ -1 ≤ (linesAhead codes p i n).2 ∧ (linesAhead codes p i n).2 ≤ n + 1 := by
  have := target_fwd_in (codes := codes) hp h h' hn
  unfold linesAhead
  simp only
  split <;> lia
noncomputable def nls (n : Int) : List Int := (List.replicate n.toNat [10]).flatten
theorem nls_length (n : Int) : (nls n).length = n.toNat := by unfold nls; simp
noncomputable def linesEdit (codes : List Int) (p i n : Int) : (Int × Int × List Int) × Int :=
  let start := (linesTarget codes p i (-1)).1
  let ml := linesAhead codes p start 1
  let em := linesAhead codes p ml.1 n
  let one := between codes p start ml.1 ++ nls ml.2
  let other := between codes p ml.1 em.1 ++ nls em.2
  ((start, em.1, other ++ one), start + other.length + one.length)
section
variable {S : St} {d : Mut} {k : Nat} {J : JM} {codes : List Int} {p i many a b n j : Int} {ρ : Rho} {σ : Sig}
theorem EvOk.nls {e : Expr} {np pos lp : Pos} (hk : σ.scope.names.lookup (u "NEWLINE") = some .globalImplicit) (h : EvOk S d σ k J e ρ (.val (isInt n))) (h1 : n ≤ 64 ∧ -64 ≤ n) : EvOk S d σ k J (.BinOp (.List [.Name (u "NEWLINE") np] lp) .Mult e pos) ρ (.val (isList (nls n))) :=
  EvOk.mulL (xs := [10]) h1.1 h1.2 (by decide) (EvOk.list (xs := [10]) (ArgsOk.cons (g_NEWLINE hk) ArgsOk.nil fun _ => rfl) (by decide)) h
end
local macro_rules | `(tactic| walk_at "ev") => `(tactic| ((with_reducible apply EvOk.nls); walk_at "K"; walk_at "E"; walk_at "O"))
section
variable {S : St} {d : Mut} {k : Nat} {J : JM} {codes : List Int} {p i many a b n j : Int} {ρ : Rho} {σ : Sig}
end
local macro_rules | `(tactic| walk_at "ln") => `(tactic| (simp only [between_length, nls_length, List.length_append]; lia))
section
variable {S : St} {d : Mut} {k : Nat} {J : JM} {codes : List Int} {p i many a b n j : Int} {ρ : Rho} {σ : Sig}
end
local macro_rules | `(tactic| walk_at "ev") => `(tactic| ((with_reducible apply EvOk.lenG); walk_at "K"; walk_at "A"; walk_at "R"; walk_at "N"))
section
variable {S : St} {d : Mut} {k : Nat} {J : JM} {codes : List Int} {p i many a b n j : Int} {ρ : Rho} {σ : Sig}
noncomputable abbrev st_lines_edit : Stmt := topS 21
theorem D_lines_edit : DefIs 151 (fdO st_lines_edit (u "lines_edit") .none (.str (u "emacs.transpose") 277) (.ref 150)) (sigO st_lines_edit (u "lines_edit") (.ref 150)) (bodyOf st_lines_edit) := defIs_of (fun _ => by kernel_rfl!) (by kernel_rfl!) (fun _ => by kernel_rfl!)
theorem c_lines_edit (hc : codes.length ≤ 64) (hp : 0 ≤ p ∧ p ≤ 64) (h1 : p ≤ i ∧ i ≤ p + codes.length) (h2 : 0 < n ∧ n ≤ 32) : CallOk S d (k + 6) J 151 [isRow codes p, isInt i, isInt n] (.val (isTup [isEdit (linesEdit codes p i n).1, isInt (linesEdit codes p i n).2])) J := by
  obtain ⟨a1, a2⟩ := target_back_in (codes := codes) (n := -1) h1.1 h1.2 (by lia)
  obtain ⟨b1, b2, b3, b4⟩ := ahead_in (codes := codes) (i := (linesTarget codes p i (-1)).1) (n := 1) hp.1 a1 (by lia) (by lia)
  obtain ⟨c1, c2, c3, c4⟩ := ahead_in (codes := codes) (i := (linesAhead codes p (linesTarget codes p i (-1)).1 1).1) (n := n) hp.1 (by lia) b2 h2.1
  obtain ⟨hz⟩ : Nonempty (PLift (codes.length ≤ 2 ^ 16)) := ⟨⟨by lia⟩⟩
  obtain ⟨hz⟩ := hz
  refine CallOk.def (xs := [u "view", u "place", u "many"]) (DPs := []) (dvs := []) D_lines_edit (by kernel_rfl!) (fun s vs hl _ => ?_) (by kernel_rfl!) (by decide) (fun _ => .nil) .val ?_
  · obtain ⟨v0, v1, v2, rfl⟩ := len3 hl
    exact BindsTo.of_eq rfl
  show Blk S d _ _ J _ [(u "view", isRow codes p), (u "place", isInt i), (u "many", isInt n)] _ _
  walk_at "asg"
  walk_at "un2"
  walk_at "un2"
  walk_at "asg"
  walk_at "asg"
  walk_at "ret"
  rfl
theorem e_lines_edit {es : List Expr} {np pos : Pos} {ρ : Rho} {σ : Sig} (hk : σ.scope.names.lookup (u "lines_edit") = some .globalImplicit) (hs : PlainArgs es) (ha : ArgsOk S d σ (k + 6) J es ρ [isRow codes p, isInt i, isInt n]) (hc : codes.length ≤ 64) (hp : 0 ≤ p ∧ p ≤ 64) (h1 : p ≤ i ∧ i ≤ p + codes.length) (h2 : 0 < n ∧ n ≤ 32) : EvOk S d σ (k + 6) J (.Call (.Name (u "lines_edit") np) es [] pos) ρ (.val (isTup [isEdit (linesEdit codes p i n).1, isInt (linesEdit codes p i n).2])) :=
  EvOk.callF D_lines_edit.d (c_lines_edit hc hp h1 h2) hk (fun _ => by kernel_rfl!) (by kernel_rfl!) hs ha
end
local macro_rules | `(tactic| walk_at "ev") => `(tactic| ((with_reducible apply e_lines_edit); walk_at "K"; walk_at "R"; walk_at "A"; walk_at "D"; walk_at "D"; walk_at "D"; walk_at "D"))
section
variable {S : St} {d : Mut} {k : Nat} {J : JM} {codes : List Int} {p i many a b n j : Int} {ρ : Rho} {σ : Sig}
end
noncomputable def linesBackRegions (codes : List Int) (p i n : Int) : (Int × Int) × (Int × Int) × Int :=
  let start := (linesTarget codes p i (-1)).1
  let middle := (linesTarget codes p start 1).1
  let first := (linesTarget codes p start (0 - n)).1
  ((first, start), (start, middle), first + middle - start)
section
variable {S : St} {d : Mut} {k : Nat} {J : JM} {codes : List Int} {p i many a b n j : Int} {e : Int × Int × List Int}
noncomputable abbrev st_lines_back_regions : Stmt := topS 22
theorem D_lines_back_regions : DefIs 158 (fdO st_lines_back_regions (u "lines_back_regions") .none (.str (u "emacs.transpose") 277) (.ref 157)) (sigO st_lines_back_regions (u "lines_back_regions") (.ref 157)) (bodyOf st_lines_back_regions) := defIs_of (fun _ => by kernel_rfl!) (by kernel_rfl!) (fun _ => by kernel_rfl!)
theorem c_lines_back_regions (hz : codes.length ≤ 2 ^ 16) : CallOk S d (k + 5) J 158 [isRow codes p, isInt i, isInt n] (.val (isTup [isPair (linesBackRegions codes p i n).1, isPair (linesBackRegions codes p i n).2.1, isInt (linesBackRegions codes p i n).2.2])) J := by
  refine CallOk.def (xs := [u "view", u "place", u "many"]) (DPs := []) (dvs := []) D_lines_back_regions (by kernel_rfl!) (fun s vs hl _ => ?_) (by kernel_rfl!) (by decide) (fun _ => .nil) .val ?_
  · obtain ⟨v0, v1, v2, rfl⟩ := len3 hl
    exact BindsTo.of_eq rfl
  show Blk S d _ _ J _ [(u "view", isRow codes p), (u "place", isInt i), (u "many", isInt n)] _ _
  walk_at "asg"
  walk_at "asg"
  walk_at "asg"
  walk_at "ret"
  rfl
theorem e_lines_back_regions {es : List Expr} {np pos : Pos} {ρ : Rho} {σ : Sig} (hk : σ.scope.names.lookup (u "lines_back_regions") = some .globalImplicit) (hs : PlainArgs es) (ha : ArgsOk S d σ (k + 5) J es ρ [isRow codes p, isInt i, isInt n]) (hz : codes.length ≤ 2 ^ 16) : EvOk S d σ (k + 5) J (.Call (.Name (u "lines_back_regions") np) es [] pos) ρ (.val (isTup [isPair (linesBackRegions codes p i n).1, isPair (linesBackRegions codes p i n).2.1, isInt (linesBackRegions codes p i n).2.2])) :=
  EvOk.callF D_lines_back_regions.d (c_lines_back_regions hz) hk (fun _ => by kernel_rfl!) (by kernel_rfl!) hs ha
end
local macro_rules | `(tactic| walk_at "ev") => `(tactic| ((with_reducible apply e_lines_back_regions); walk_at "K"; walk_at "R"; walk_at "A"; walk_at "D"))
section
variable {S : St} {d : Mut} {k : Nat} {J : JM} {codes : List Int} {p i many a b n j : Int} {e : Int × Int × List Int}
noncomputable abbrev st_lines_back_edit : Stmt := topS 23
theorem D_lines_back_edit : DefIs 165 (fdO st_lines_back_edit (u "lines_back_edit") .none (.str (u "emacs.transpose") 277) (.ref 164)) (sigO st_lines_back_edit (u "lines_back_edit") (.ref 164)) (bodyOf st_lines_back_edit) := defIs_of (fun _ => by kernel_rfl!) (by kernel_rfl!) (fun _ => by kernel_rfl!)
theorem c_lines_back_edit (hc : codes.length ≤ 64) (hp : 0 ≤ p ∧ p ≤ 64) (h1 : p ≤ i ∧ i ≤ p + codes.length) (h2 : 0 < n ∧ n ≤ 32) (h : regionsEdit codes p (linesBackRegions codes p i n).1 (linesBackRegions codes p i n).2.1 = some e) : CallOk S d (k + 6) J 165 [isRow codes p, isInt i, isInt n] (.val (isTup [isEdit e, isInt (linesBackRegions codes p i n).2.2])) J := by
  obtain ⟨a1, a2⟩ := target_back_in (codes := codes) (n := -1) h1.1 h1.2 (by lia)
  obtain ⟨b1, b2, b3, b4⟩ := target_fwd_in (codes := codes) (i := (linesTarget codes p i (-1)).1) (n := 1) hp.1 a1 (by lia) (by lia)
  obtain ⟨c1, c2⟩ := target_back_in (codes := codes) (i := (linesTarget codes p i (-1)).1) (n := 0 - n) a1 (by lia) (by lia)
  refine CallOk.def (xs := [u "view", u "place", u "many"]) (DPs := []) (dvs := []) D_lines_back_edit (by kernel_rfl!) (fun s vs hl _ => ?_) (by kernel_rfl!) (by decide) (fun _ => .nil) .val ?_
  · obtain ⟨v0, v1, v2, rfl⟩ := len3 hl
    exact BindsTo.of_eq rfl
  show Blk S d _ _ J _ [(u "view", isRow codes p), (u "place", isInt i), (u "many", isInt n)] _ _
  apply Blk.unpack3
  · apply e_lines_back_regions
    · kernel_rfl!
    · intro _; rfl
    · walk_at "args"
    · lia
  · kernel_rfl!
  · kernel_rfl!
  · kernel_rfl!
  · intro _; rfl
  · intro _; rfl
  apply Blk.retE
  · apply EvOk.tupleG
    · apply ArgsOk.cons
      · apply e_regions_edit (one := (linesBackRegions codes p i n).1) (other := (linesBackRegions codes p i n).2.1) (e := e)
        · kernel_rfl!
        · intro _; rfl
        · walk_at "args"
        · lia
        · unfold Sm linesBackRegions; simp only; lia
        · unfold Sm linesBackRegions; simp only; lia
        · exact h
      · walk_at "args"
      · intro _; rfl
    · rfl
  · rfl
theorem e_lines_back_edit {es : List Expr} {np pos : Pos} {ρ : Rho} {σ : Sig} (hk : σ.scope.names.lookup (u "lines_back_edit") = some .globalImplicit) (hs : PlainArgs es) (ha : ArgsOk S d σ (k + 6) J es ρ [isRow codes p, isInt i, isInt n]) (hc : codes.length ≤ 64) (hp : 0 ≤ p ∧ p ≤ 64) (h1 : p ≤ i ∧ i ≤ p + codes.length) (h2 : 0 < n ∧ n ≤ 32) (h : regionsEdit codes p (linesBackRegions codes p i n).1 (linesBackRegions codes p i n).2.1 = some e) : EvOk S d σ (k + 6) J (.Call (.Name (u "lines_back_edit") np) es [] pos) ρ (.val (isTup [isEdit e, isInt (linesBackRegions codes p i n).2.2])) :=
  EvOk.callF D_lines_back_edit.d (c_lines_back_edit hc hp h1 h2 h) hk (fun _ => by kernel_rfl!) (by kernel_rfl!) hs ha
end
local macro_rules | `(tactic| walk_at "ev") => `(tactic| ((with_reducible apply e_lines_back_edit); walk_at "K"; walk_at "R"; walk_at "A"; walk_at "D"; walk_at "D"; walk_at "D"; walk_at "D"; walk_at "D"))
section
variable {S : St} {d : Mut} {k : Nat} {J : JM} {codes : List Int} {p i many a b n j : Int} {e : Int × Int × List Int}
end
theorem fresh_news {G h h' : Heap} {L D : Addr} {o : Obj} {rest : List (Addr × Obj)} (N : News G L h' ((D, o) :: rest)) (l1 : ∀ q ∈ allNews G h L, q.1 < D) : h.get? D = none := by
  cases q : h.get? D with
  | none => rfl
  | some o' => exact absurd (l1 _ (all_mem q (N _ (.head _)).2.1 (N _ (.head _)).2.2)) (Nat.lt_irrefl _)
section
variable {S : St} {d : Mut} {k : Nat} {J : JM} {codes xs : List Int} {p i many a b n j : Int} {e : Expr} {ρ : Rho} {σ : Sig} {np pos : Pos} {es : List Expr}
theorem EvOk.listL (hk : σ.scope.names.lookup (u "list") = some .globalImplicit) (ha : ArgsOk S d σ k J [e] ρ [isList xs]) (hs : PlainArgs [e]) (hz : xs.length ≤ 2 ^ 20) : EvOk S d σ k J (.Call (.Name (u "list") np) [e] [] pos) ρ (.val (isList xs)) :=
  EvOk.callTy (EvOk.blt (v := .type "list") hk (fun _ => by kernel_rfl!) (by kernel_rfl!) (by decide +kernel) (by kernel_rfl!)) hs ha fun F hv hp => by
    obtain ⟨v, rfl, hv1⟩ := hv.one
    obtain ⟨b, its, c, rfl, hI, hb, hbi⟩ := isList_at F.ok hv1
    refine list_copyK F.fr (news_all _ _ _) hb (fun D c h' F' N' l1 => ?_) (by rw [sizeLine_eq, ← Array.length_toList, hbi.length]; lia)
    obtain ⟨q1, q2, q3⟩ := F.bridge1 F' N' (fresh_news N' l1)
    exact hp _ h' _ _ q2 q1 q3 ⟨_, _, _, rfl, IM.put_self _ _ _, hbi⟩
end
local macro_rules | `(tactic| walk_at "ev") => `(tactic| ((with_reducible apply EvOk.listL); walk_at "K"; walk_at "A"; walk_at "R"; walk_at "O"))
section
variable {S : St} {d : Mut} {k : Nat} {J : JM} {codes xs : List Int} {p i many a b n j : Int} {e : Expr} {ρ : Rho} {σ : Sig} {np pos : Pos} {es : List Expr}
noncomputable abbrev st_rowInit : Stmt := inCls 38 0
theorem D_rowInit : DefIs 324 (fdO st_rowInit (u "TextRow.__init__") (.ref 317) (.str (u "emacs.textrow") 625) (.ref 323)) (sigO st_rowInit (u "TextRow.__init__") (.ref 323)) (bodyOf st_rowInit) := defIs_of (fun _ => by kernel_rfl!) (by kernel_rfl!) (fun _ => by kernel_rfl!)
theorem K_row : ClsMake 348 324 where
  set _ := by kernel_rfl!
  over _ := by kernel_rfl!
  dict _ := by kernel_rfl!
  make _ := by kernel_rfl!
  init _ := by kernel_rfl!
  fn _ := by kernel_rfl!
  keep _ := by kernel_rfl!
theorem e_TextRow (hk : σ.scope.names.lookup (u "TextRow") = some .globalImplicit) (hs : PlainArgs es) (ha : ArgsOk S d σ (k + 2) J es ρ [isList xs, isInt p]) (hz : xs.length ≤ 2 ^ 20) : EvOk S d σ (k + 2) J (.Call (.Name (u "TextRow") np) es [] pos) ρ (.val (isRow xs p)) := by
  refine EvOk.make (xs := [u "codes", u "place"]) (DPs := []) (dvs := []) K_row D_rowInit (by kernel_rfl!) (fun s x vs hl keep => ?_) (by kernel_rfl!) (by decide) (fun _ => .nil) (Nat.le_of_ble_eq_true rfl) (show [u "codes", u "place"].Nodup by decide) (fun d J xa dx hd => ?_) (EvOk.glob (v := .ref 348) hk (fun _ => by kernel_rfl!) (by kernel_rfl!)) hs ha
  · obtain ⟨v0, v1, rfl⟩ := len2 hl
    exact kp_binds (S.kin.keeps keep) (fun _ => by kernel_rfl!)
  · show Sets S _ _ [(u "self", isV (.ref xa)), (u "codes", isList xs), (u "place", isInt p)] 348 dx d J _ _
    refine Sets.cons (P := isList xs) (fun d' J' M => ?_) (fun I v h => ?_) (fun _ => by kernel_rfl!) (fun _ => rfl) (Sets.cons (P := isInt p) (fun d' J' M => ?_) (fun I v h => ?_) (fun _ => by kernel_rfl!) (fun _ => rfl) Sets.nil)
    · walk_at "ev"
    · obtain ⟨a, _, _, rfl, _⟩ := h; rfl
    · walk_at "ev"
    · obtain ⟨t, rfl⟩ := h; rfl
end
local macro_rules | `(tactic| walk_at "ev") => `(tactic| ((with_reducible apply e_TextRow); walk_at "K"; walk_at "R"; walk_at "A"; walk_at "O"))
section
variable {S : St} {d : Mut} {k : Nat} {J : JM} {codes xs : List Int} {p i many a b n j : Int} {e : Expr} {ρ : Rho} {σ : Sig} {np pos : Pos} {es : List Expr}
end
section
variable {S : St} {d : Mut} {k : Nat} {J : JM} {ρ : Rho} {σ : Sig} {np pos : Pos} {es : List Expr} {kind flags : Str} {PM : VP}
noncomputable abbrev isSyn (kind : Str) (PM : VP) (flags : Str) : VP := isInst 210 [(u "kind", isStr kind), (u "match", PM), (u "flags", isStr flags)]
noncomputable abbrev st_synInit : Stmt := inCls 31 0
theorem D_synInit : DefIs 179 (fdO st_synInit (u "Syntax.__init__") .none (.str (u "emacs.syntax") 428) (.ref 178)) (sigO st_synInit (u "Syntax.__init__") (.ref 178)) (bodyOf st_synInit) := defIs_of (fun _ => by kernel_rfl!) (by kernel_rfl!) (fun _ => by kernel_rfl!)
theorem K_syn : ClsMake 210 179 where
  set _ := by kernel_rfl!
  over _ := by kernel_rfl!
  dict _ := by kernel_rfl!
  make _ := by kernel_rfl!
  init _ := by kernel_rfl!
  fn _ := by kernel_rfl!
  keep _ := by kernel_rfl!
theorem e_Syntax (hk : σ.scope.names.lookup (u "Syntax") = some .globalImplicit) (hs : PlainArgs es) (ha : ArgsOk S d σ (k + 2) J es ρ [isStr kind, PM, isStr flags]) (hM : ∀ I v, PM.p I v → handedIn v = true) : EvOk S d σ (k + 2) J (.Call (.Name (u "Syntax") np) es [] pos) ρ (.val (isSyn kind PM flags)) := by
  refine EvOk.make (xs := [u "kind", u "match", u "flags"]) (DPs := []) (dvs := []) K_syn D_synInit (by kernel_rfl!) (fun s x vs hl keep => ?_) (by kernel_rfl!) (by decide) (fun _ => .nil) (Nat.le_of_ble_eq_true rfl) (show [u "kind", u "match", u "flags"].Nodup by decide) (fun d J xa dx hd => ?_) (EvOk.glob (v := .ref 210) hk (fun _ => by kernel_rfl!) (by kernel_rfl!)) hs ha
  · obtain ⟨v0, v1, v2, rfl⟩ := len3 hl
    exact BindsTo.of_eq rfl
  · show Sets S _ _ [(u "self", isV (.ref xa)), (u "kind", isStr kind), (u "match", PM), (u "flags", isStr flags)] 210 dx d J _ _
    refine Sets.cons (P := isStr kind) (fun d' J' M => ?_) (fun I v h => ?_) (fun _ => by kernel_rfl!) (fun _ => rfl) (Sets.cons (P := PM) (fun d' J' M => ?_) hM (fun _ => by kernel_rfl!) (fun _ => rfl) (Sets.cons (P := isStr flags) (fun d' J' M => ?_) (fun I v h => ?_) (fun _ => by kernel_rfl!) (fun _ => rfl) Sets.nil))
    · walk_at "ev"
    · obtain ⟨t, rfl⟩ := h; rfl
    · walk_at "ev"
    · walk_at "ev"
    · obtain ⟨t, rfl⟩ := h; rfl
end
/-- what a deck is -/
noncomputable def DeckI (xs : List Int) : Prop := (0 < xs.length ∧ xs.length ≤ 32) ∧ ∀ x ∈ xs, 0 ≤ x ∧ x < 10 ^ 60
noncomputable def deckO : OP := ⟨fun I o => ∃ xs, DeckI xs ∧ (listO xs).p I o, fun k ⟨xs, a, b⟩ => ⟨xs, a, (listO xs).mono k b⟩⟩
section
variable {S : St} {d : Mut} {k : Nat} {J : JM} {many : Int} {a : Addr} {ρ : Rho} {σ : Sig}
theorem EvOk.exOf {e : Expr} {i : Int} {q : Int → Prop} (h : EvOk S d σ k J e ρ (.val (isInt i))) (hq : q i) : EvOk S d σ k J e ρ (.val (exI q)) := EvOk.conv (P := isInt i) (P' := exI q) (fun _ _ ⟨t, e⟩ => ⟨i, t, e, hq⟩) h
end
local macro_rules | `(tactic| walk_at "hJ") => `(tactic| first | (with_reducible exact upd_at) | assumption)
section
variable {S : St} {d : Mut} {k : Nat} {J : JM} {many : Int} {a : Addr} {ρ : Rho} {σ : Sig}
end
local macro_rules | `(tactic| walk_at "ev") => `(tactic| ((with_reducible apply EvOk.lenD); walk_at "K"; walk_at "A"; walk_at "R"; (focus assumption); (focus walk_at "hJ"); (focus (simp only [List.length_cons] at *; lia))))
section
variable {S : St} {d : Mut} {k : Nat} {J : JM} {many : Int} {a : Addr} {ρ : Rho} {σ : Sig}
end
local macro_rules | `(tactic| walk_at "ev") => `(tactic| ((with_reducible apply EvOk.itemD); walk_at "E"; walk_at "E"; (focus exact fun _ _ => rfl); (focus assumption); (focus walk_at "hJ"); (focus decide); walk_at "F"; (focus decide)))
section
variable {S : St} {d : Mut} {k : Nat} {J : JM} {many : Int} {a : Addr} {ρ : Rho} {σ : Sig}
end
local macro_rules | `(tactic| walk_at "ev") => `(tactic| ((with_reducible apply EvOk.mod); walk_at "E"; walk_at "E"; walk_at "O"))
section
variable {S : St} {d : Mut} {k : Nat} {J : JM} {many : Int} {a : Addr} {ρ : Rho} {σ : Sig}
end
local macro_rules | `(tactic| walk_at "ev") => `(tactic| ((with_reducible apply EvOk.fdiv); walk_at "E"; walk_at "E"; walk_at "O"))
section
variable {S : St} {d : Mut} {k : Nat} {J : JM} {many : Int} {a : Addr} {ρ : Rho} {σ : Sig}
end
local macro_rules | `(tactic| walk_at "ev") => `(tactic| ((with_reducible apply EvOk.mul); walk_at "E"; walk_at "E"; (focus decide)))
section
variable {S : St} {d : Mut} {k : Nat} {J : JM} {many : Int} {a : Addr} {ρ : Rho} {σ : Sig}
noncomputable abbrev st__law_draw : Stmt := topS 49
theorem D__law_draw : DefIs 404 (fdO st__law_draw (u "_law_draw") .none (.str (u "law_pq0280_01") 756) (.ref 403)) (sigO st__law_draw (u "_law_draw") (.ref 403)) (bodyOf st__law_draw) := defIs_of (fun _ => by kernel_rfl!) (by kernel_rfl!) (fun _ => by kernel_rfl!)
theorem c__law_draw (hd : d a) (hJ : J a = deckO) (hm : 0 < many ∧ many < 1000) : CallOk S d (k + 1) J 404 [isV (.ref a), isInt many] (.val (exI fun r => 0 ≤ r ∧ r < many)) J := by
  refine CallOk.def (xs := [u "_law_deck", u "_law_many"]) (DPs := []) (dvs := []) D__law_draw (by kernel_rfl!) (fun s vs hl _ => ?_) (by kernel_rfl!) (by decide) (fun _ => .nil) .val ?_
  · obtain ⟨v0, v1, rfl⟩ := len2 hl
    exact BindsTo.of_eq rfl
  show Blk S d _ _ J _ [(u "_law_deck", isV (.ref a)), (u "_law_many", isInt many)] _ _
  refine Blk.fixAt (q := DeckI) (Ox := listO) hd (fun I o h => ?_) fun xs hx => ?_
  · rw [hJ] at h
    obtain ⟨xs, a, b⟩ := h
    exact ⟨⟨xs, a, b⟩, listO_nc b⟩
  have weak : ∀ zs, DeckI zs → ∀ b I o, d b → ((upd J a (listO zs)) b).p I o → (J b).p I o := fun zs hz b I o _ h => by
    by_cases q : b = a
    · subst q; rw [upd_at] at h; rw [hJ]; exact ⟨zs, hz, h⟩
    · rw [upd_off q] at h; exact h
  apply Blk.whileB
  suffices H : ∀ (n : Nat) (xs : List Int), xs.length = n → DeckI xs → LoopB S d _ k (upd J a (listO xs)) _ _ _ [(u "_law_deck", isV (.ref a)), (u "_law_many", isInt many)] (.ret (exI fun r => 0 ≤ r ∧ r < many)) J from H _ xs rfl hx
  intro n
  induction n with
  | zero => intro xs hn hx; have := hx.1; lia
  | succ n ih =>
    intro xs hn hx
    match xs, hn, hx with
    | y :: ys, hn, hx =>
      obtain ⟨⟨z1, z2⟩, z3⟩ := hx
      have zy := z3 y (.head _)
      have zys : ∀ x ∈ ys, 0 ≤ x ∧ x < 10 ^ 60 := fun x hx => z3 x (.tail _ hx)
      by_cases c1 : 0 < ys.length
      · by_cases c2 : y = 0
        · apply LoopB.turn
          · walk_at "te"
          · simp [c1, c2]; lia
          · apply Blk.popD
            · walk_at "ev"
            · assumption
            · walk_at "hJ"
            · exact z1
            · lia
            · exact ⟨_, fun _ => rfl⟩
            · intro _; rfl
            · rw [upd_upd]; exact Blk.nil
          · exact ih ys (by simpa using hn) ⟨⟨c1, by simp at z2; lia⟩, zys⟩
        · apply LoopB.exit
          · walk_at "te"
          · simp [c2]
          · walk_at "if1"
            · simp; lia
            · refine Blk.weak (J' := upd J a (listO (y / many :: ys))) ?_ rfl (weak _ ⟨⟨by simp, by simpa using z2⟩, fun x hx => ?_⟩)
              · walk_at "asg"
                apply Blk.setD (xs := y :: ys) (i := 0) (y := y / many)
                · walk_at "ev"
                · walk_at "ev"
                · walk_at "ev"
                · assumption
                · walk_at "hJ"
                · simp
                · simp at z2 ⊢; lia
                · intro _; rfl
                · rw [upd_upd]
                  apply Blk.ret
                  apply EvOk.exOf
                  · walk_at "ev"
                  · exact ⟨Int.emod_nonneg _ (by lia), Int.emod_lt_of_pos _ hm.1⟩
              · rcases List.mem_cons.mp hx with rfl | hx
                · refine ⟨Int.ediv_nonneg zy.1 (by lia), Int.lt_of_le_of_lt (Int.ediv_le_self _ zy.1) zy.2⟩
                · exact zys x hx
      · obtain rfl : ys = [] := List.length_eq_zero_iff.mp (by lia)
        apply LoopB.exit
        · walk_at "te"
        · simp
        · walk_at "if0"
          · simp
          · exact Blk.nil
          · refine Blk.weak (J' := upd J a (listO [(y * 48271 + 11) % 2147483647])) ?_ rfl (weak _ ⟨⟨by simp, by simp⟩, fun x hx => ?_⟩)
            · apply Blk.setD (xs := [y]) (i := 0) (y := (y * 48271 + 11) % 2147483647)
              · walk_at "ev"
              · walk_at "ev"
              · walk_at "ev"
              · assumption
              · walk_at "hJ"
              · simp
              · simp
              · intro _; rfl
              · rw [upd_upd]
                apply Blk.ret
                apply EvOk.exOf
                · walk_at "ev"
                · exact ⟨Int.emod_nonneg _ (by lia), Int.emod_lt_of_pos _ hm.1⟩
            · rcases List.mem_cons.mp hx with rfl | hx
              · have h1 := Int.emod_nonneg (y * 48271 + 11) (b := 2147483647) (by decide)
                have h2 := Int.emod_lt_of_pos (y * 48271 + 11) (b := 2147483647) (by decide)
                lia
              · cases hx
end
section
variable {S : St} {d : Mut} {k : Nat} {J : JM} {many most : Int} {a : Addr} {ρ : Rho} {σ : Sig} {x : Str} {e e₁ e₂ : Expr} {pos np : Pos} {es : List Expr}
end
local macro_rules | `(tactic| walk_at "ev") => `(tactic| ((with_reducible apply EvOk.lenS); walk_at "K"; walk_at "A"; walk_at "R"; walk_at "O"))
section
variable {S : St} {d : Mut} {k : Nat} {J : JM} {many most : Int} {a : Addr} {ρ : Rho} {σ : Sig} {x : Str} {e e₁ e₂ : Expr} {pos np : Pos} {es : List Expr}
theorem e__law_draw {es : List Expr} {np pos : Pos} {ρ : Rho} {σ : Sig} (hk : σ.scope.names.lookup (u "_law_draw") = some .globalImplicit) (hs : PlainArgs es) (ha : ArgsOk S d σ (k + 1) J es ρ [isV (.ref a), isInt many]) (hd : d a) (hJ : J a = deckO) (hm : 0 < many ∧ many < 1000) : EvOk S d σ (k + 1) J (.Call (.Name (u "_law_draw") np) es [] pos) ρ (.val (exI fun r => 0 ≤ r ∧ r < many)) :=
  EvOk.callF D__law_draw.d (c__law_draw hd hJ hm) hk (fun _ => by kernel_rfl!) (by kernel_rfl!) hs ha
end
local macro_rules | `(tactic| walk_at "ev") => `(tactic| ((with_reducible apply e__law_draw); walk_at "K"; walk_at "R"; walk_at "A"; walk_at "D"; walk_at "D"; walk_at "D"))
section
variable {S : St} {d : Mut} {k : Nat} {J : JM} {many most : Int} {a : Addr} {ρ : Rho} {σ : Sig} {x : Str} {e e₁ e₂ : Expr} {pos np : Pos} {es : List Expr}
noncomputable abbrev st__law_one : Stmt := topS 51
theorem D__law_one : DefIs 416 (fdO st__law_one (u "_law_one") .none (.str (u "law_pq0280_01") 756) (.ref 415)) (sigO st__law_one (u "_law_one") (.ref 415)) (bodyOf st__law_one) := defIs_of (fun _ => by kernel_rfl!) (by kernel_rfl!) (fun _ => by kernel_rfl!)
theorem c__law_one (hd : d a) (hJ : J a = deckO) (hx : 0 < x.length ∧ x.length < 1000) : CallOk S d (k + 2) J 416 [isV (.ref a), isStr x] (.val (exC fun c => c ∈ x.cps.toList)) J := by
  refine CallOk.def (xs := [u "_law_deck", u "_law_items"]) (DPs := []) (dvs := []) D__law_one (by kernel_rfl!) (fun s vs hl _ => ?_) (by kernel_rfl!) (by decide) (fun _ => .nil) .val ?_
  · obtain ⟨v0, v1, rfl⟩ := len2 hl
    exact BindsTo.of_eq rfl
  show Blk S d _ _ J _ [(u "_law_deck", isV (.ref a)), (u "_law_items", isStr x)] _ _
  apply Blk.ret
  apply EvOk.itemSE
  · walk_at "ev"
  · walk_at "ev"
  · exact fun _ _ => rfl
  · lia
theorem e__law_one {es : List Expr} {np pos : Pos} {ρ : Rho} {σ : Sig} (hk : σ.scope.names.lookup (u "_law_one") = some .globalImplicit) (hs : PlainArgs es) (ha : ArgsOk S d σ (k + 2) J es ρ [isV (.ref a), isStr x]) (hd : d a) (hJ : J a = deckO) (hx : 0 < x.length ∧ x.length < 1000) : EvOk S d σ (k + 2) J (.Call (.Name (u "_law_one") np) es [] pos) ρ (.val (exC fun c => c ∈ x.cps.toList)) :=
  EvOk.callF D__law_one.d (c__law_one hd hJ hx) hk (fun _ => by kernel_rfl!) (by kernel_rfl!) hs ha
end
local macro_rules | `(tactic| walk_at "ev") => `(tactic| ((with_reducible apply e__law_one); walk_at "K"; walk_at "R"; walk_at "A"; walk_at "D"; walk_at "D"; walk_at "D"))
section
variable {S : St} {d : Mut} {k : Nat} {J : JM} {many most : Int} {a : Addr} {ρ : Rho} {σ : Sig} {x : Str} {e e₁ e₂ : Expr} {pos np : Pos} {es : List Expr}
theorem EvOk.range1E {B : Int} (hk : σ.scope.names.lookup (u "range") = some .globalImplicit) (ha : ArgsOk S d σ k J [e] ρ [exI fun i => 0 ≤ i ∧ i < B]) (hs : PlainArgs [e]) (hB : B ≤ 1000) :
    EvOk S d σ k J (.Call (.Name (u "range") np) [e] [] pos) ρ (.val (exV fun b : { i : Int // 0 ≤ i ∧ i < B } => isIter ((List.range (b.1 - 0).toNat).map fun (i : Nat) => isInt (0 + i)))) :=
  EvOk.callTy (EvOk.blt (v := .type "range") hk (fun _ => by kernel_rfl!) (by kernel_rfl!) (by decide +kernel) (by kernel_rfl!)) hs ha fun F hv hp => by
    obtain ⟨v, rfl, b, t, rfl, h0, h1⟩ := hv.one
    refine call_range_1 (hp.made F.ok rfl (Exists.intro ⟨b, h0, h1⟩ ?_))
    show IterV _ _ ((List.range (b - 0).toNat).map fun (i : Nat) => isInt (0 + i))
    exact range_items (IM.put_self _ _ _) (by lia) (by lia)
theorem args_rep {I : IM} {q : Int → Prop} : ∀ {n : Nat} {vs : List Value}, Args I (List.replicate n (exI q)) vs → ∃ xs, IntsAre vs xs ∧ (∀ c ∈ xs, q c) ∧ xs.length = n
  | 0, _, .nil => ⟨[], .nil, (fun _ h => by cases h), rfl⟩
  | n + 1, _, .cons ⟨i, t, e, h⟩ r => by
    obtain ⟨xs, a, b, c⟩ := args_rep (n := n) r
    subst e
    refine ⟨i :: xs, .cons _ _ a, fun z hz => ?_, by simp [c]⟩
    rcases List.mem_cons.mp hz with rfl | hz
    · exact h
    · exact b z hz
theorem filterMap_rep {α : Type} (v : α) (n : Nat) : (List.replicate n (some v)).filterMap id = List.replicate n v := by
  induction n with
  | zero => rfl
  | succ n ih => rw [List.replicate_succ, List.filterMap_cons, ih, List.replicate_succ]; rfl
end
local macro_rules | `(tactic| walk_at "ev") => `(tactic| ((with_reducible apply EvOk.range1E); walk_at "K"; walk_at "A"; walk_at "R"; walk_at "O"))
section
variable {S : St} {d : Mut} {k : Nat} {J : JM} {many most : Int} {a : Addr} {ρ : Rho} {σ : Sig} {x : Str} {e e₁ e₂ : Expr} {pos np : Pos} {es : List Expr}
end
local macro_rules | `(tactic| walk_at "ev") => `(tactic| ((with_reducible apply EvOk.ordE); walk_at "K"; walk_at "A"; walk_at "R"))
section
variable {S : St} {d : Mut} {k : Nat} {J : JM} {many most : Int} {a : Addr} {ρ : Rho} {σ : Sig} {x : Str} {e e₁ e₂ : Expr} {pos np : Pos} {es : List Expr}
noncomputable abbrev st__law_some_codes : Stmt := topS 52
theorem D__law_some_codes : DefIs 421 (fdO st__law_some_codes (u "_law_some_codes") .none (.str (u "law_pq0280_01") 756) (.ref 420)) (sigO st__law_some_codes (u "_law_some_codes") (.ref 420)) (bodyOf st__law_some_codes) := defIs_of (fun _ => by kernel_rfl!) (by kernel_rfl!) (fun _ => by kernel_rfl!)
theorem c__law_some_codes (hd : d a) (hJ : J a = deckO) (hx : 0 < x.length ∧ x.length < 1000) (hm : 0 ≤ most ∧ most ≤ 60) : CallOk S d (k + 3) J 421 [isV (.ref a), isStr x, isInt most] (.val (exL fun xs => (xs.length : Int) ≤ most ∧ ∀ c ∈ xs, ∃ n : Nat, c = n ∧ n ∈ x.cps.toList)) J := by
  refine CallOk.defC (xs := [u "_law_deck", u "_law_signs", u "_law_most"]) (DPs := []) (dvs := []) D__law_some_codes (fun vs hl => ?_) (fun _ => by kernel_rfl!) (by decide) (fun _ => .nil) .val ?_
  · obtain ⟨v0, v1, v2, rfl⟩ := len3 hl
    rfl
  show Blk S d _ _ J _ [(u "_law_deck", isV (.ref a)), (u "_law_signs", isStr x), (u "_law_most", isInt most)] _ _
  apply Blk.ret
  refine EvOk.compE (α := { i : Int // 0 ≤ i ∧ i < most + 1 }) (itemsA := fun b => (List.range (b.1 - 0).toNat).map fun (i : Nat) => isInt (0 + i)) (outsA := fun b => List.replicate (b.1 - 0).toNat (some (exI fun i => ∃ n : Nat, i = n ∧ n ∈ x.cps.toList))) (ρ₁ := [(u "_law_deck", isV (.ref a)), (u "_law_signs", isStr x)]) ?_ ?_ ?_ ?_ ?_ ?_ ?_ ?_ ?_ ?_ ?_ ?_ ?_
  · walk_at "ev"
  · intro b; simp
  · intro b; rw [sizeLine_eq]; have := b.2; simp; lia
  · intro b I v h
    obtain ⟨c, its, n, rfl, hI, hv⟩ := h
    rw [filterMap_rep] at hv
    obtain ⟨xs, h1, h2, h3⟩ := args_rep hv
    have := b.2
    exact ⟨xs, ⟨by lia, h2⟩, c, its, n, rfl, hI, h1⟩
  · walk_at "fr"
  · rfl
  · rfl
  · rfl
  · rfl
  · rfl
  · intro _ _; rfl
  · intro b i Pi h1 d' J' M
    have hl : i < (List.replicate (b.1 - 0).toNat (some (exI fun i => ∃ n : Nat, i = n ∧ n ∈ x.cps.toList))).length := by
      have := (List.getElem?_eq_some_iff.mp h1).1
      simpa using this
    rw [List.getElem?_eq_getElem hl, List.getElem_replicate]
    rfl
  · intro b i Pi Po h1 h2 d' J' M
    have hl := (List.getElem?_eq_some_iff.mp h2).1
    rw [List.getElem?_eq_getElem hl, List.getElem_replicate] at h2
    cases h2
    have hd' := M.md _ hd
    have hJ' : J' a = deckO := (M.mJ _ hd).trans hJ
    walk_at "ev"
theorem e__law_some_codes {es : List Expr} {np pos : Pos} {ρ : Rho} {σ : Sig} (hk : σ.scope.names.lookup (u "_law_some_codes") = some .globalImplicit) (hs : PlainArgs es) (ha : ArgsOk S d σ (k + 3) J es ρ [isV (.ref a), isStr x, isInt most]) (hd : d a) (hJ : J a = deckO) (hx : 0 < x.length ∧ x.length < 1000) (hm : 0 ≤ most ∧ most ≤ 60) : EvOk S d σ (k + 3) J (.Call (.Name (u "_law_some_codes") np) es [] pos) ρ (.val (exL fun xs => (xs.length : Int) ≤ most ∧ ∀ c ∈ xs, ∃ n : Nat, c = n ∧ n ∈ x.cps.toList)) :=
  EvOk.callF D__law_some_codes.d (c__law_some_codes hd hJ hx hm) hk (fun _ => by kernel_rfl!) (by kernel_rfl!) hs ha
end
local macro_rules | `(tactic| walk_at "ev") => `(tactic| ((with_reducible apply e__law_some_codes); walk_at "K"; walk_at "R"; walk_at "A"; walk_at "D"; walk_at "D"; walk_at "D"; walk_at "D"))
section
variable {S : St} {d : Mut} {k : Nat} {J : JM} {many most : Int} {a : Addr} {ρ : Rho} {σ : Sig} {x : Str} {e e₁ e₂ : Expr} {pos np : Pos} {es : List Expr}
end
noncomputable def absI (c : Int) : Int := if c < 0 then -c else c
/-- a big int's share of the deck -/
noncomputable def bigOne (c : Int) : Option Int := if (10 : Int) ^ Int.toNat 9 ≤ absI c then some (absI c % 10 ^ Int.toNat 60) else none
theorem bigOne_in {c x : Int} (h : bigOne c = some x) : x = absI c % 10 ^ Int.toNat 60 := by
  unfold bigOne at h
  split at h
  · cases h; rfl
  · cases h
theorem bigOne_some (c : Int) : decide ((10 : Int) ^ Int.toNat 9 ≤ absI c) = (bigOne c).isSome := by
  unfold bigOne
  by_cases q : (10 : Int) ^ Int.toNat 9 ≤ absI c
  · rw [if_pos q, decide_eq_true q]; rfl
  · rw [if_neg q, decide_eq_false q]; rfl
section
variable {S : St} {d : Mut} {k : Nat} {J : JM} {many most : Int} {a : Addr} {ρ : Rho} {σ : Sig} {x : Str} {e e₁ e₂ : Expr} {pos np : Pos} {es : List Expr} {xs ys : List Int} {P P' : VP} {r : Out}
theorem EvOk.convN (c : ∀ I v, P.p I v → P'.p I v) (h : EvOk S d σ k J e ρ (.new P)) : EvOk S d σ k J e ρ (.new P') := .mk fun F hp => h.run F fun a h' I' tk hl ok st hv hn => hp a h' I' tk hl ok st (c _ _ hv) hn
theorem EvOk.addLN (h₁ : EvOk S d σ k J e₁ ρ (.val (isList xs))) (h₂ : EvOk S d σ k J e₂ ρ (.val (isList ys))) (hz : xs.length + ys.length ≤ 2 ^ 20) : EvOk S d σ k J (.BinOp e₁ .Add e₂ pos) ρ (.new (isList (xs ++ ys))) := .mk fun {A l pl h₀ I₀ I m s Q E} F hp => by
  refine wpAny_BinOp (h₁.run F fun v h' I' tk hl ok st hv => ?_)
  refine h₂.run (s := { s with heap := h', toks := tk }) (F.step hl ok st) fun v₂ h₂' I₂ tk₂ hl₂ ok₂ st₂ hv₂ => ?_
  have F₂ := (F.step hl ok st).step hl₂ ok₂ st₂
  obtain ⟨b, its, n, rfl, _, hb, hbi⟩ := isList_at ok₂ ((isList xs).mono hl₂ hv)
  obtain ⟨c, its', n', rfl, _, hc, hci⟩ := isList_at ok₂ hv₂
  have hp' := Post.after (tk := tk₂) (r := .new (isList (xs ++ ys))) (Post.after (tk := tk) (r := .new (isList (xs ++ ys))) hp hl ok st) hl₂ ok₂ st₂
  refine add_arrays_ints (s := { s with heap := h₂', toks := tk₂ }) F₂.fr (news_all _ _ _) hb hc hbi hci (fun h' F' N' hi => ?_) (by rw [sizeLine_eq]; lia)
  obtain ⟨q1, q2, q3⟩ := F₂.bridge1 F' N' (get_size _)
  exact hp' _ h' _ _ q2 q1 q3 ⟨_, _, _, rfl, IM.put_self _ _ _, hi⟩ (get_size _)
theorem EvOk.absG {i : Int} (hk : σ.scope.names.lookup (u "abs") = some .globalImplicit) (ha : ArgsOk S d σ k J [e] ρ [isInt i]) (hs : PlainArgs [e]) : EvOk S d σ k J (.Call (.Name (u "abs") np) [e] [] pos) ρ (.val (isInt (absI i))) :=
  EvOk.abs (EvOk.blt hk (fun _ => by kernel_rfl!) (by kernel_rfl!) (by decide +kernel) (by kernel_rfl!)) hs ha
theorem pick_24 : ∀ vs, IntsAre vs xs → IntsAre (slicePick vs.toArray none (some 24) none).toList (xs.take 24) := fun vs h => kmk_upto h (by decide)
end
local macro_rules | `(tactic| walk_at "ev") => `(tactic| ((with_reducible apply EvOk.absG); walk_at "K"; walk_at "A"; walk_at "R"))
section
variable {S : St} {d : Mut} {k : Nat} {J : JM} {many most : Int} {a : Addr} {ρ : Rho} {σ : Sig} {x : Str} {e e₁ e₂ : Expr} {pos np : Pos} {es : List Expr} {xs ys : List Int} {P P' : VP} {r : Out}
end
local macro_rules | `(tactic| walk_at "ev") => `(tactic| ((with_reducible apply EvOk.mod); walk_at "E"; walk_at "E"; (focus first | lia | decide +kernel)))
section
variable {S : St} {d : Mut} {k : Nat} {J : JM} {many most : Int} {a : Addr} {ρ : Rho} {σ : Sig} {x : Str} {e e₁ e₂ : Expr} {pos np : Pos} {es : List Expr} {xs ys : List Int} {P P' : VP} {r : Out}
end
local macro_rules | `(tactic| walk_at "ev") => `(tactic| ((with_reducible apply EvOk.pow); walk_at "E"; walk_at "E"; (focus decide +kernel)))
section
variable {S : St} {d : Mut} {k : Nat} {J : JM} {many most : Int} {a : Addr} {ρ : Rho} {σ : Sig} {x : Str} {e e₁ e₂ : Expr} {pos np : Pos} {es : List Expr} {xs ys : List Int} {P P' : VP} {r : Out}
end
local macro_rules | `(tactic| walk_at "pt") => `(tactic| first | (with_reducible exact PartOk.none) | ((with_reducible apply PartOk.some); walk_at "E"))
section
variable {S : St} {d : Mut} {k : Nat} {J : JM} {many most : Int} {a : Addr} {ρ : Rho} {σ : Sig} {x : Str} {e e₁ e₂ : Expr} {pos np : Pos} {es : List Expr} {xs ys : List Int} {P P' : VP} {r : Out}
/-- the script's first ints, mixed -/
noncomputable def mixed : List Int → Int → Int
  | [], m => m
  | c :: r, m => mixed r ((m * 31 + absI c % 10 ^ Int.toNat 60 + 3) % 2147483647)
theorem mixed_in : ∀ (xs : List Int) (m : Int), 0 ≤ m → m < 2147483647 → 0 ≤ mixed xs m ∧ mixed xs m < 2147483647
  | [], m, h, h' => ⟨h, h'⟩
  | c :: r, m, h, h' => mixed_in r _ (Int.emod_nonneg _ (by decide)) (Int.emod_lt_of_pos _ (by decide))
noncomputable abbrev st__law_deck_of : Stmt := topS 50
theorem D__law_deck_of : DefIs 409 (fdO st__law_deck_of (u "_law_deck_of") .none (.str (u "law_pq0280_01") 756) (.ref 408)) (sigO st__law_deck_of (u "_law_deck_of") (.ref 408)) (bodyOf st__law_deck_of) := defIs_of (fun _ => by kernel_rfl!) (by kernel_rfl!) (fun _ => by kernel_rfl!)
theorem c__law_deck_of (hz : xs.length ≤ 63) : CallOk S d (k + 1) J 409 [isList xs] (.new (exL DeckI)) J := by
  refine CallOk.def (xs := [u "script"]) (DPs := []) (dvs := []) D__law_deck_of (by kernel_rfl!) (fun s vs hl _ => ?_) (by kernel_rfl!) (by decide) (fun _ => .nil) .new ?_
  · obtain ⟨v0, rfl⟩ := len1 hl
    exact BindsTo.of_eq rfl
  show Blk S d _ _ J _ [(u "script", isList xs)] _ _
  walk_at "asg"
  refine Blk.forB (its := (xs.take 24).map isInt) ?_ (fun _ _ => rfl) ?_
  · refine EvOk.conv (fun I v h => isList_iter h) (EvOk.sliceL (a := none) (b := some 24) ?_ ?_ ?_ (by lia) pick_24 (fun _ _ => rfl) (fun _ _ => rfl))
    · walk_at "ev"
    · walk_at "pt"
    · walk_at "pt"
  suffices H : ∀ (ys : List Int) (m : Int) {ρ : Rho}, 0 ≤ m → m < 2147483647 → ρ.lookup (u "script") = some (isList xs) → ρ.lookup (u "_law_mixed") = some (isInt m) → ForB S d _ k _ _ _ (.new (exL DeckI)) J J ρ (ys.map isInt) from H _ 7 (by decide) (by decide) (by walk_at "lk") (by walk_at "lk")
  intro ys
  induction ys with
  | nil =>
    intro m ρ h0 h1 hs hm
    refine ForB.done (Blk.retN ?_)
    refine EvOk.convN (P := isList (((xs.take 24).map bigOne).filterMap id ++ [m])) (fun I v h => ⟨_, ⟨⟨by simp, ?_⟩, fun x hx => ?_⟩, h⟩) (EvOk.addLN ?_ ?_ ?_)
    · have h1 : (((xs.take 24).map bigOne).filterMap id).length ≤ 24 := by
        refine Nat.le_trans (List.length_filterMap_le _ _) ?_
        simp; lia
      rw [List.length_append, List.length_singleton]; lia
    · rcases List.mem_append.mp hx with hx | hx
      · obtain ⟨o, ho, he⟩ := List.mem_filterMap.mp hx
        obtain ⟨c, hc, rfl⟩ := List.mem_map.mp ho
        have he := bigOne_in he
        subst he
        exact ⟨Int.emod_nonneg _ (by decide +kernel), Int.emod_lt_of_pos _ (by decide +kernel)⟩
      · simp at hx; subst hx
        exact ⟨h0, by lia⟩
    · refine EvOk.compInts (items := (xs.take 24).map isInt) (ρ₁ := []) ?_ ?_ ?_ ?_ ?_ ?_ ?_ ?_ ?_ ?_ ?_ ?_
      · refine EvOk.conv (fun I v h => isList_iter h) (EvOk.sliceL (a := none) (b := some 24) ?_ ?_ ?_ (by lia) pick_24 (fun _ _ => rfl) (fun _ _ => rfl))
        · walk_at "ev"
        · walk_at "pt"
        · walk_at "pt"
      · simp
      · rw [sizeLine_eq]; simp; lia
      · walk_at "fr"
      · rfl
      · rfl
      · rfl
      · rfl
      · rfl
      · intro _ _; rfl
      · intro i Pi y h1 h2 d' J' M
        rw [List.getElem?_map] at h1 h2
        obtain ⟨c, q1, q2⟩ := Option.map_eq_some_iff.mp h1
        rw [q1] at h2
        cases q2; cases h2
        refine TestOk.to (b := decide ((10 : Int) ^ Int.toNat 9 ≤ absI c)) ?_ ?_
        · walk_at "te"
        · exact bigOne_some c
      · intro i Pi y h1 h2 d' J' M
        rw [List.getElem?_map] at h1 h2
        obtain ⟨c, q1, q2⟩ := Option.map_eq_some_iff.mp h1
        rw [q1] at h2
        cases q2
        simp only [Option.map_some, Option.some.injEq] at h2
        have h2 := bigOne_in h2
        subst h2
        walk_at "ev"
    · refine EvOk.list (xs := [m]) (ArgsOk.cons ?_ ArgsOk.nil fun _ => rfl) (by simp)
      walk_at "ev"
    · have h1 : (((xs.take 24).map bigOne).filterMap id).length ≤ 24 := by
        refine Nat.le_trans (List.length_filterMap_le _ _) ?_
        simp; lia
      rw [List.length_singleton]; lia
  | cons y ys ih =>
    intro m ρ h0 h1 hs hm
    refine ForB.turn (ρ₁ := (u "_law_mixed", isInt ((m * 31 + absI y % 10 ^ Int.toNat 60 + 3) % 2147483647)) :: (u "_law_cell", isInt y) :: ρ) (TgtOk.name (by kernel_rfl!)) (fun It oI _ _ => ?_) (ih ((m * 31 + absI y % 10 ^ Int.toNat 60 + 3) % 2147483647) (Int.emod_nonneg _ (by decide)) (Int.emod_lt_of_pos _ (by decide)) ?_ ?_)
    · walk_at "asg"
      exact Blk.nil
    · walk_at "lk"
    · walk_at "lk"
end
section
variable {S : St} {d : Mut} {k n : Nat} {J : JM} {a rb : Addr} {ρ : Rho} {σ : Sig} {x y text : Str} {e e₁ e₂ o : Expr} {pos np apos : Pos} {es : List Expr} {sy : Int → Option Str} {c : Int} {kd : Str}
theorem g_WHITESPACE (hk : σ.scope.names.lookup (u "WHITESPACE") = some .globalImplicit) : EvOk S d σ k J (.Name (u "WHITESPACE") pos) ρ (.val (isStr (u " "))) :=
  EvOk.conv (fun _ _ h => ⟨430, h⟩) (EvOk.glob (v := .str (u " ") 430) hk (fun _ => by kernel_rfl!) (by kernel_rfl!))
theorem g_WORD (hk : σ.scope.names.lookup (u "WORD") = some .globalImplicit) : EvOk S d σ k J (.Name (u "WORD") pos) ρ (.val (isStr (u "w"))) :=
  EvOk.conv (fun _ _ h => ⟨432, h⟩) (EvOk.glob (v := .str (u "w") 432) hk (fun _ => by kernel_rfl!) (by kernel_rfl!))
theorem g_INHERITS (hk : σ.scope.names.lookup (u "INHERITS") = some .globalImplicit) : EvOk S d σ k J (.Name (u "INHERITS") pos) ρ (.val (isStr (u "@"))) :=
  EvOk.conv (fun _ _ h => ⟨436, h⟩) (EvOk.glob (v := .str (u "@") 436) hk (fun _ => by kernel_rfl!) (by kernel_rfl!))
noncomputable abbrev kindsS : Str := u " w_.()'\"\\/$<>@!|"
theorem g_KINDS (hk : σ.scope.names.lookup (u "KINDS") = some .globalImplicit) : EvOk S d σ k J (.Name (u "KINDS") pos) ρ (.val (isStr kindsS)) :=
  EvOk.conv (fun _ _ h => ⟨438, h⟩) (EvOk.glob (v := .str kindsS 438) hk (fun _ => by kernel_rfl!) (by kernel_rfl!))
theorem g_FLAGS (hk : σ.scope.names.lookup (u "FLAGS") = some .globalImplicit) : EvOk S d σ k J (.Name (u "FLAGS") pos) ρ (.val (isStr (u "1234bcnp"))) :=
  EvOk.conv (fun _ _ h => ⟨440, h⟩) (EvOk.glob (v := .str (u "1234bcnp") 440) hk (fun _ => by kernel_rfl!) (by kernel_rfl!))
end
local macro_rules | `(tactic| walk_at "ev") => `(tactic| first | ((with_reducible apply g_WHITESPACE); walk_at "K") | ((with_reducible apply g_WORD); walk_at "K") | ((with_reducible apply g_INHERITS); walk_at "K") | ((with_reducible apply g_KINDS); walk_at "K") | ((with_reducible apply g_FLAGS); walk_at "K"))
section
variable {S : St} {d : Mut} {k n : Nat} {J : JM} {a rb : Addr} {ρ : Rho} {σ : Sig} {x y text : Str} {e e₁ e₂ o : Expr} {pos np apos : Pos} {es : List Expr} {sy : Int → Option Str} {c : Int} {kd : Str}
end
local macro_rules | `(tactic| walk_at "cm") => `(tactic| first | (with_reducible exact cmp_eqS) | (with_reducible exact cmp_inS) | (with_reducible exact cmp_notInS) | (with_reducible exact cmp_neB))
section
variable {S : St} {d : Mut} {k n : Nat} {J : JM} {a rb : Addr} {ρ : Rho} {σ : Sig} {x y text : Str} {e e₁ e₂ o : Expr} {pos np apos : Pos} {es : List Expr} {sy : Int → Option Str} {c : Int} {kd : Str}
theorem flag_not : ∀ c ∈ (u "1234bcnp").cps.toList, strIn (ch c) (u "") = false := by decide +kernel
theorem map_none {α β : Type} (l : List α) : (l.map fun _ => (none : Option β)).filterMap id = [] := by
  induction l with
  | nil => rfl
  | cons _ _ ih => rw [List.map_cons, List.filterMap_cons]; exact ih
noncomputable abbrev st_sorted_flags : Stmt := topS 32
theorem D_sorted_flags : DefIs 219 (fdO st_sorted_flags (u "sorted_flags") .none (.str (u "emacs.syntax") 428) (.ref 218)) (sigO st_sorted_flags (u "sorted_flags") (.ref 218)) (bodyOf st_sorted_flags) := defIs_of (fun _ => by kernel_rfl!) (by kernel_rfl!) (fun _ => by kernel_rfl!)
theorem c_sorted_flags : CallOk S d (k + 1) J 219 [isStr (u "")] (.val (isStr (u ""))) J := by
  refine CallOk.defC (xs := [u "text"]) (DPs := []) (dvs := []) D_sorted_flags (fun vs hl => ?_) (fun _ => by kernel_rfl!) (by decide) (fun _ => .nil) .val ?_
  · obtain ⟨v0, rfl⟩ := len1 hl
    rfl
  show Blk S d _ _ J _ [(u "text", isStr (u ""))] _ _
  apply Blk.retE
  · refine EvOk.joinNil (x := u "") ?_ ?_ ?_ ⟨_, fun _ => rfl⟩ (by decide +kernel)
    · walk_at "ev"
    · intro _; rfl
    · refine ArgsOk.cons ?_ ArgsOk.nil fun _ => rfl
      refine EvOk.conv (P := isListOf (((u "1234bcnp").cps.toList.map fun _ => (none : Option VP)).filterMap id)) (fun I v h => by rw [map_none] at h; exact h) ?_
      refine EvOk.comp (items := (u "1234bcnp").cps.toList.map fun c => isStr (ch c)) (ρ₁ := [(u "text", isStr (u ""))]) ?_ ?_ ?_ ?_ ?_ ?_ ?_ ?_ ?_ ?_ ?_ ?_
      · refine EvOk.conv (fun I v h => str_iter h) ?_
        walk_at "ev"
      · simp
      · decide +kernel
      · walk_at "fr"
      · rfl
      · rfl
      · rfl
      · rfl
      · rfl
      · intro _ _; rfl
      · intro i Pi h1 d' J' M
        rw [List.getElem?_map] at h1
        obtain ⟨c, q1, q2⟩ := Option.map_eq_some_iff.mp h1
        cases q2
        rw [List.getElem?_map, q1]
        show TestOk _ _ _ _ _ _ _ false
        refine TestOk.to (b := strIn (ch c) (u "")) ?_ (flag_not c (List.mem_of_getElem? q1))
        walk_at "te"
      · intro i Pi Po h1 h2 d' J' M
        rw [List.getElem?_map] at h2
        obtain ⟨c, q1, q2⟩ := Option.map_eq_some_iff.mp h2
        cases q2
  · rw [show Txt.join (u "") [] = u "" from by decide +kernel]
theorem e_sorted_flags {es : List Expr} {np pos : Pos} {ρ : Rho} {σ : Sig} (hk : σ.scope.names.lookup (u "sorted_flags") = some .globalImplicit) (hs : PlainArgs es) (ha : ArgsOk S d σ (k + 1) J es ρ [isStr (u "")])  : EvOk S d σ (k + 1) J (.Call (.Name (u "sorted_flags") np) es [] pos) ρ (.val (isStr (u ""))) :=
  EvOk.callF D_sorted_flags.d (c_sorted_flags ) hk (fun _ => by kernel_rfl!) (by kernel_rfl!) hs ha
end
local macro_rules | `(tactic| walk_at "ev") => `(tactic| ((with_reducible apply e_sorted_flags); walk_at "K"; walk_at "R"; walk_at "A"))
section
variable {S : St} {d : Mut} {k n : Nat} {J : JM} {a rb : Addr} {ρ : Rho} {σ : Sig} {x y text : Str} {e e₁ e₂ o : Expr} {pos np apos : Pos} {es : List Expr} {sy : Int → Option Str} {c : Int} {kd : Str}
/-- a syntax description of one sign, or of two -/
structure Desc (text : Str) (c0 : Nat) : Prop where
  ne : (text == u "") = false
  at0 : (seqIndex? 0 text.length).bind (text.cps[·]?) = some c0
  dash : (ch c0 == u "-") = false
  kind : strIn (ch c0) kindsS = true
  len : text.length ≤ 2
  more : text.length < 2 ∨ ∃ c1, (seqIndex? 1 text.length).bind (text.cps[·]?) = some c1 ∧ (ch c1 == u " ") = false
end
local macro_rules | `(tactic| walk_at "ev") => `(tactic| ((with_reducible apply EvOk.itemS); walk_at "E"; walk_at "E"; (focus exact fun _ _ => rfl); (focus decide); (focus assumption)))
section
variable {S : St} {d : Mut} {k n : Nat} {J : JM} {a rb : Addr} {ρ : Rho} {σ : Sig} {x y text : Str} {e e₁ e₂ o : Expr} {pos np apos : Pos} {es : List Expr} {sy : Int → Option Str} {c : Int} {kd : Str}
end
local macro_rules | `(tactic| walk_at "ev") => `(tactic| ((with_reducible apply EvOk.lenS); walk_at "K"; walk_at "A"; walk_at "R"; walk_at "O"))
section
variable {S : St} {d : Mut} {k n : Nat} {J : JM} {a rb : Addr} {ρ : Rho} {σ : Sig} {x y text : Str} {e e₁ e₂ o : Expr} {pos np apos : Pos} {es : List Expr} {sy : Int → Option Str} {c : Int} {kd : Str}
end
local macro_rules | `(tactic| walk_at "ev") => `(tactic| ((with_reducible apply EvOk.ordS); walk_at "K"; walk_at "A"; walk_at "R"))
section
variable {S : St} {d : Mut} {k n : Nat} {J : JM} {a rb : Addr} {ρ : Rho} {σ : Sig} {x y text : Str} {e e₁ e₂ o : Expr} {pos np apos : Pos} {es : List Expr} {sy : Int → Option Str} {c : Int} {kd : Str}
end
local macro_rules | `(tactic| walk_at "ev") => `(tactic| ((with_reducible apply e_Syntax); walk_at "K"; walk_at "R"; walk_at "A"; (focus exact fun _ _ h => h)))
section
variable {S : St} {d : Mut} {k n : Nat} {J : JM} {a rb : Addr} {ρ : Rho} {σ : Sig} {x y text : Str} {e e₁ e₂ o : Expr} {pos np apos : Pos} {es : List Expr} {sy : Int → Option Str} {c : Int} {kd : Str}
noncomputable abbrev st_read_syntax : Stmt := topS 33
theorem D_read_syntax : DefIs 224 (fdO st_read_syntax (u "read_syntax") .none (.str (u "emacs.syntax") 428) (.ref 223)) (sigO st_read_syntax (u "read_syntax") (.ref 223)) (bodyOf st_read_syntax) := defIs_of (fun _ => by kernel_rfl!) (by kernel_rfl!) (fun _ => by kernel_rfl!)
theorem c_read_syntax {c0 : Nat} (D : Desc text c0) : CallOk S d (k + 3) J 224 [isStr text] (.val (isSynK (ch c0))) J := by
  obtain ⟨h1, h2, h3, h4, h5, h6⟩ := D
  refine CallOk.def (xs := [u "text"]) (DPs := []) (dvs := []) D_read_syntax (by kernel_rfl!) (fun s vs hl _ => ?_) (by kernel_rfl!) (by decide) (fun _ => .nil) .val ?_
  · obtain ⟨v0, rfl⟩ := len1 hl
    exact BindsTo.of_eq rfl
  show Blk S d _ _ J _ [(u "text", isStr text)] _ _
  have hs : Txt.slice text (some 2) none = u "" := (slice_beyond (by lia)).trans (by decide +kernel)
  walk_at "if0"
  · exact h1
  · exact Blk.nil
  apply Blk.assign (P := isStr (ch c0))
  · apply EvOk.ifFe
    · walk_at "te"
    · exact h3
    · walk_at "ev"
  · kernel_rfl!
  · intro _; rfl
  apply Blk.assign (P := anyH)
  · rcases h6 with h6 | ⟨c1, h6, h7⟩
    · refine EvOk.conv (P := isNone) (fun I v h => by cases h; rfl) ?_
      refine EvOk.ifTe (b := decide ((text.length : Int) < 2) || true) (TestOk.or ?_ fun q => absurd (of_decide_eq_false q) (by lia)) (by simp) ?_
      · walk_at "te"
      · walk_at "ev"
    · have hl : ¬ text.length < 2 := fun q => by
        have : seqIndex? 1 text.length = none := by unfold seqIndex?; simp; lia
        rw [this] at h6; cases h6
      refine EvOk.conv (P := isInt c1) (fun I v h => by obtain ⟨t, rfl⟩ := h; rfl) ?_
      apply EvOk.ifFe
      · walk_at "te"
      · rw [h7]; simp; lia
      · walk_at "ev"
  · kernel_rfl!
  · intro _; rfl
  apply Blk.assign (P := isStr (u ""))
  · refine EvOk.to (P := isStr (Txt.slice text (some 2) none)) (EvOk.sliceS ?_ ?_ (by lia) (fun _ _ _ => rfl) fun _ _ _ => rfl) (by rw [hs])
    · walk_at "ev"
    · walk_at "ev"
  · kernel_rfl!
  · intro _; rfl
  apply Blk.ifFe
  · apply TestOk.or
    · walk_at "te"
    · intro _
      apply TestOk.or
      · apply TestOk.not
        apply TestOk.plain
        · apply EvOk.allNil
          · kernel_rfl!
          · refine ArgsOk.cons ?_ ArgsOk.nil fun _ => rfl
            refine EvOk.comp (outs := []) (items := (u "").cps.toList.map fun c => isStr (ch c)) (ρ₁ := []) ?_ ?_ ?_ ?_ ?_ ?_ ?_ ?_ ?_ ?_ ?_ ?_
            · refine EvOk.conv (fun I v h => str_iter h) ?_
              walk_at "ev"
            · rfl
            · decide +kernel
            · walk_at "fr"
            · rfl
            · rfl
            · rfl
            · rfl
            · rfl
            · intro _ _; rfl
            · intro i Pi h1 d' J' M
              cases h1
            · intro i Pi Po h1 h2 d' J' M
              cases h2
          · intro _; rfl
        · intro _ _; rfl
      · intro _
        exact TestOk.or_nil
  · rw [h4]; rfl
  · exact Blk.nil
  · walk_at "ret"
    rfl
theorem e_read_syntax {c0 : Nat} (hk : σ.scope.names.lookup (u "read_syntax") = some .globalImplicit) (hs : PlainArgs es) (ha : ArgsOk S d σ (k + 3) J es ρ [isStr text]) (D : Desc text c0) : EvOk S d σ (k + 3) J (.Call (.Name (u "read_syntax") np) es [] pos) ρ (.val (isSynK (ch c0))) :=
  EvOk.callF D_read_syntax.d (c_read_syntax D) hk (fun _ => by kernel_rfl!) (by kernel_rfl!) hs ha
end
/-- the kinds of the rows behind modify_all -/
noncomputable def spStore : List Nat → Str → (Int → Option Str) → Int → Option Str
  | [], _, sy => sy
  | c :: r, kd, sy => spStore r kd fun x => if x = (c : Int) then some kd else sy x
section
variable {S : St} {d : Mut} {k n : Nat} {J : JM} {a rb : Addr} {ρ : Rho} {σ : Sig} {x y text desc : Str} {e e₁ e₂ o : Expr} {pos np apos pp : Pos} {es : List Expr} {sy : Int → Option Str} {c : Int} {kd : Str} {rest : List Stmt} {r : BOut} {J' : JM}
end
local macro_rules | `(tactic| walk_at "ev") => `(tactic| ((with_reducible apply e_read_syntax); walk_at "K"; walk_at "R"; walk_at "A"; (focus assumption)))
section
variable {S : St} {d : Mut} {k n : Nat} {J : JM} {a rb : Addr} {ρ : Rho} {σ : Sig} {x y text desc : Str} {e e₁ e₂ o : Expr} {pos np apos pp : Pos} {es : List Expr} {sy : Int → Option Str} {c : Int} {kd : Str} {rest : List Stmt} {r : BOut} {J' : JM}
noncomputable abbrev st_modify_all : Stmt := inCls 34 2
theorem D_modify_all : DefIs 253 (fdO st_modify_all (u "SyntaxTable.modify_all") .none (.str (u "emacs.syntax") 428) (.ref 252)) (sigO st_modify_all (u "SyntaxTable.modify_all") (.ref 252)) (bodyOf st_modify_all) := defIs_of (fun _ => by kernel_rfl!) (by kernel_rfl!) (fun _ => by kernel_rfl!)
theorem c_modify_all {c0 : Nat} (hd : d rb) (hJ : J rb = rowsO S n sy) (hn : n + text.cps.toList.length ≤ 2 ^ 16) (D : Desc desc c0) : CallOk S d (k + 4) J 253 [isTab rb, isStr text, isStr desc] (.val isNone) (upd J rb (rowsO S (n + text.cps.toList.length) (spStore text.cps.toList (ch c0) sy))) := by
  refine CallOk.defF (ρ' := []) (xs := [u "self", u "text", u "description"]) (DPs := []) (dvs := []) D_modify_all (by kernel_rfl!) (fun s vs hl _ => ?_) (by kernel_rfl!) (by decide) (fun _ => .nil) ?_
  · obtain ⟨v0, v1, v2, rfl⟩ := len3 hl
    exact BindsTo.of_eq rfl
  show Blk S d _ _ J _ [(u "self", isTab rb), (u "text", isStr text), (u "description", isStr desc)] _ _
  walk_at "asg"
  refine Blk.forB (r' := .fall []) (its := text.cps.toList.map fun c => isStr (ch c)) ?_ (fun _ _ => rfl) ?_
  · refine EvOk.conv (fun I v h => str_iter h) ?_
    walk_at "ev"
  have e0 : J = upd J rb (rowsO S n sy) := by
    funext b
    by_cases q : b = rb
    · subst q; rw [upd_at, hJ]
    · rw [upd_off q]
  suffices H : ∀ (t : List Nat) (n : Nat) (sy : Int → Option Str) {ρ : Rho}, n + t.length ≤ 2 ^ 16 → ρ.lookup (u "self") = some (isTab rb) → ρ.lookup (u "syntax") = some (isSynK (ch c0)) → ForB S d _ (k + 3) _ _ _ (.fall []) (upd J rb (rowsO S (n + t.length) (spStore t (ch c0) sy))) (upd J rb (rowsO S n sy)) ρ (t.map fun c => isStr (ch c)) by
    have := H text.cps.toList n sy (ρ := [(u "syntax", isSynK (ch c0)), (u "self", isTab rb), (u "text", isStr text), (u "description", isStr desc)]) hn (by walk_at "lk") (by walk_at "lk")
    rw [← e0] at this
    exact this
  intro t
  induction t with
  | nil => intro n sy ρ hn hs hy; exact ForB.done Blk.nil0
  | cons c t ih =>
    intro n sy ρ hn hs hy
    have e1 : n + (c :: t).length = (n + 1) + t.length := by simp; lia
    rw [e1]
    refine ForB.turn (J₁ := upd J rb (rowsO S (n + 1) fun x => if x = (c : Int) then some (ch c0) else sy x)) (ρ₁ := (u "sign", isStr (ch c)) :: ρ) (TgtOk.name (by kernel_rfl!)) (fun It oI hI _ => ?_) (ih (n + 1) _ (by lia) (by walk_at "lk") (by walk_at "lk"))
    have hne : rb ≠ It := fun q => hI (q ▸ hd)
    apply Blk.setRow (n := n) (sy := sy) (rb := rb) (c := (c : Int)) (kd := ch c0)
    · walk_at "ev"
    · walk_at "ev"
    · walk_at "ev"
    · exact .inl hd
    · exact (pin_off hne).trans upd_at
    · simp at hn; lia
    · intro _; rfl
    · dsimp only [pin]
      rw [upd_comm (Ne.symm hne), upd_upd]
      exact Blk.nil
/-- table.modify_all(text, description) -/
theorem Blk.modifyAll {c0 : Nat} {e₃ : Expr} (h : EvOk S d σ (k + 4) J o ρ (.val (isTab rb))) (ha : ArgsOk S d σ (k + 4) J [e₁, e₂] ρ [isStr text, isStr desc]) (hs : PlainArgs [e₁, e₂]) (he : Meth σ o (u "modify_all") apos [e₁, e₂] pos) (hsw : ∀ env, swapsWith (.Call (.Attribute o (u "modify_all") apos) [e₁, e₂] [] pos) none pp.line env = pure false)
    (hd : d rb) (hJ : J rb = rowsO S n sy) (hn : n + text.cps.toList.length ≤ 2 ^ 16) (D : Desc desc c0) (b : Blk S d σ (k + 4) (upd J rb (rowsO S (n + text.cps.toList.length) (spStore text.cps.toList (ch c0) sy))) rest ρ r J') : Blk S d σ (k + 4) J (.Expr (.Call (.Attribute o (u "modify_all") apos) [e₁, e₂] [] pos) pp :: rest) ρ r J' :=
  Blk.callM (fd := fdO st_modify_all (u "SyntaxTable.modify_all") .none (.str (u "emacs.syntax") 428) (.ref 252)) D_modify_all.d (fun _ => by kernel_rfl!) (by kernel_rfl!) hd (fun I o h => by rw [hJ] at h; exact rowsO_nc h) h hs ha he hsw (c_modify_all hd hJ hn D) b
noncomputable abbrev lettersS : Str := u "abcdefghijklmnopqrstuvwxyzABCDEFGHIJKLMNOPQRSTUVWXYZ0123456789"
noncomputable abbrev st_letters : Stmt := topS 35
theorem D_letters : DefIs 302 (fdO st_letters (u "letters") .none (.str (u "emacs.syntax") 428) (.ref 301)) (sigO st_letters (u "letters") (.ref 301)) (bodyOf st_letters) := defIs_of (fun _ => by kernel_rfl!) (by kernel_rfl!) (fun _ => by kernel_rfl!)
theorem c_letters : CallOk S d (k + 1) J 302 [] (.val (isStr lettersS)) J := by
  refine CallOk.def (xs := []) (DPs := []) (dvs := []) D_letters (by kernel_rfl!) (fun s vs hl _ => ?_) (by kernel_rfl!) (by decide) (fun _ => .nil) .val ?_
  · obtain rfl := len0 hl
    exact BindsTo.of_eq rfl
  show Blk S d _ _ J _ [] _ _
  walk_at "ret"
  rfl
theorem e_letters {es : List Expr} {np pos : Pos} {ρ : Rho} {σ : Sig} (hk : σ.scope.names.lookup (u "letters") = some .globalImplicit) (hs : PlainArgs es) (ha : ArgsOk S d σ (k + 1) J es ρ [])  : EvOk S d σ (k + 1) J (.Call (.Name (u "letters") np) es [] pos) ρ (.val (isStr lettersS)) :=
  EvOk.callF D_letters.d (c_letters ) hk (fun _ => by kernel_rfl!) (by kernel_rfl!) hs ha
end
local macro_rules | `(tactic| walk_at "ev") => `(tactic| ((with_reducible apply e_letters); walk_at "K"; walk_at "R"; walk_at "A"))
section
variable {S : St} {d : Mut} {k n : Nat} {J : JM} {a rb : Addr} {ρ : Rho} {σ : Sig} {x y text desc : Str} {e e₁ e₂ o : Expr} {pos np apos pp : Pos} {es : List Expr} {sy : Int → Option Str} {c : Int} {kd : Str} {rest : List Stmt} {r : BOut} {J' : JM}
end
/-- the kinds of the rows behind the loop over the brackets -/
noncomputable def pairStore : List (Nat × Nat) → (Int → Option Str) → Int → Option Str
  | [], sy => sy
  | p :: r, sy => pairStore r (spStore [p.2] (ch 41) (spStore [p.1] (ch 40) sy))
noncomputable def sp1 : Int → Option Str := spStore (lettersS ++ u "$%").cps.toList (ch 119) fun _ => none
noncomputable def sp2 : Int → Option Str := spStore (u " \t\n\r\x0c").cps.toList (ch 32) sp1
noncomputable def sp3 : Int → Option Str := spStore (u "_-+*/&|<>=").cps.toList (ch 95) sp2
noncomputable def sp4 : Int → Option Str := spStore (u ".,;:?!#@~^'`").cps.toList (ch 46) sp3
noncomputable def sp5 : Int → Option Str := pairStore [(40, 41), (91, 93), (123, 125)] sp4
noncomputable def sp6 : Int → Option Str := spStore (u "\"").cps.toList (ch 34) sp5
noncomputable def stdSp : Int → Option Str := spStore (u "\\").cps.toList (ch 92) sp6
section
variable {S : St} {d : Mut} {k n n' : Nat} {J : JM} {a rb : Addr} {ρ : Rho} {σ : Sig} {x y text desc : Str} {e e₁ e₂ o : Expr} {pos np apos pp : Pos} {es : List Expr} {sy sy' : Int → Option Str} {c : Int} {kd : Str} {rest : List Stmt} {r : BOut} {J' : JM}
theorem Blk.modifyAll' {c0 : Nat} (h : EvOk S d σ (k + 4) J o ρ (.val (isTab rb))) (ha : ArgsOk S d σ (k + 4) J [e₁, e₂] ρ [isStr text, isStr desc]) (hs : PlainArgs [e₁, e₂]) (he : Meth σ o (u "modify_all") apos [e₁, e₂] pos) (hsw : ∀ env, swapsWith (.Call (.Attribute o (u "modify_all") apos) [e₁, e₂] [] pos) none pp.line env = pure false)
    (hd : d rb) (hJ : J rb = rowsO S n sy) (D : Desc desc c0) (hn : n + text.cps.toList.length = n') (hn' : n' ≤ 65536) (hsy : spStore text.cps.toList (ch c0) sy = sy') (b : Blk S d σ (k + 4) (upd J rb (rowsO S n' sy')) rest ρ r J') : Blk S d σ (k + 4) J (.Expr (.Call (.Attribute o (u "modify_all") apos) [e₁, e₂] [] pos) pp :: rest) ρ r J' := by
  subst hn; subst hsy
  exact Blk.modifyAll (e₃ := e₁) h ha hs he hsw hd hJ hn' D b
theorem desc1 {t : Str} {c0 : Nat} (h : ((t == u "") == false && (seqIndex? 0 t.length).bind (t.cps[·]?) == some c0 && (ch c0 == u "-") == false && strIn (ch c0) kindsS && decide (t.length < 2)) = true) : Desc t c0 := by
  simp only [Bool.and_eq_true, beq_iff_eq, decide_eq_true_eq] at h
  exact ⟨h.1.1.1.1, h.1.1.1.2, h.1.1.2, h.1.2, by lia, .inl h.2⟩
theorem desc2 {t : Str} {c0 : Nat} (c1 : Nat) (h : ((t == u "") == false && (seqIndex? 0 t.length).bind (t.cps[·]?) == some c0 && (ch c0 == u "-") == false && strIn (ch c0) kindsS && decide (t.length ≤ 2) && (seqIndex? 1 t.length).bind (t.cps[·]?) == some c1 && (ch c1 == u " ") == false) = true) : Desc t c0 := by
  simp only [Bool.and_eq_true, beq_iff_eq, decide_eq_true_eq] at h
  exact ⟨h.1.1.1.1.1.1, h.1.1.1.1.1.2, h.1.1.1.1.2, h.1.1.1.2, h.1.1.2, .inr ⟨c1, h.1.2, h.2⟩⟩
end
local macro_rules | `(tactic| walk_at "ev") => `(tactic| ((with_reducible apply EvOk.addS); walk_at "E"; walk_at "E"; (focus first | decide +kernel | exact ⟨by kernel_rfl!, by kernel_rfl!⟩); (focus first | decide +kernel | exact Nat.le_of_ble_eq_true (by kernel_rfl!))))
section
variable {S : St} {d : Mut} {k n n' : Nat} {J : JM} {a rb : Addr} {ρ : Rho} {σ : Sig} {x y text desc : Str} {e e₁ e₂ o : Expr} {pos np apos pp : Pos} {es : List Expr} {sy sy' : Int → Option Str} {c : Int} {kd : Str} {rest : List Stmt} {r : BOut} {J' : JM}
noncomputable abbrev st_standard_table : Stmt := topS 36
theorem D_standard_table : DefIs 309 (fdO st_standard_table (u "standard_table") .none (.str (u "emacs.syntax") 428) (.ref 308)) (sigO st_standard_table (u "standard_table") (.ref 308)) (bodyOf st_standard_table) := defIs_of (fun _ => by kernel_rfl!) (by kernel_rfl!) (fun _ => by kernel_rfl!)
theorem c_standard_table : CallOk S d (k + 5) J 309 [] (.val (isTable S stdSp)) J := by
  refine CallOk.def (xs := []) (DPs := []) (dvs := []) D_standard_table (by kernel_rfl!) (fun s vs hl _ => ?_) (by kernel_rfl!) (by decide) (fun _ => .nil) .val ?_
  · obtain rfl := len0 hl
    exact BindsTo.of_eq rfl
  show Blk S d _ _ J _ [] _ _
  refine Blk.tab (n := 99) (sy := stdSp) (by kernel_rfl!) (by kernel_rfl!) (fun _ => rfl) fun rb nd hsm => ?_
  refine Blk.modifyAll' (rb := rb) (n := 0) (sy := fun _ => none) (text := lettersS ++ u "$%") (desc := u "w") (n' := 64) (sy' := sp1) ?_ ?_ (fun _ => rfl) ⟨_, fun _ => rfl⟩ (fun _ => rfl) (.inr rfl) upd_at (desc1 (by decide +kernel)) (by decide +kernel) (by decide) rfl ?_
  · walk_at "ev"
  · walk_at "args"
  rw [upd_upd]
  refine Blk.modifyAll' (rb := rb) (n := 64) (sy := sp1) (text := u " \t\n\r\x0c") (desc := u " ") (n' := 69) (sy' := sp2) ?_ ?_ (fun _ => rfl) ⟨_, fun _ => rfl⟩ (fun _ => rfl) (.inr rfl) upd_at (desc1 (by decide +kernel)) (by decide +kernel) (by decide) rfl ?_
  · walk_at "ev"
  · walk_at "args"
  rw [upd_upd]
  refine Blk.modifyAll' (rb := rb) (n := 69) (sy := sp2) (text := u "_-+*/&|<>=") (desc := u "_") (n' := 79) (sy' := sp3) ?_ ?_ (fun _ => rfl) ⟨_, fun _ => rfl⟩ (fun _ => rfl) (.inr rfl) upd_at (desc1 (by decide +kernel)) (by decide +kernel) (by decide) rfl ?_
  · walk_at "ev"
  · walk_at "args"
  rw [upd_upd]
  refine Blk.modifyAll' (rb := rb) (n := 79) (sy := sp3) (text := u ".,;:?!#@~^'`") (desc := u ".") (n' := 91) (sy' := sp4) ?_ ?_ (fun _ => rfl) ⟨_, fun _ => rfl⟩ (fun _ => rfl) (.inr rfl) upd_at (desc1 (by decide +kernel)) (by decide +kernel) (by decide) rfl ?_
  · walk_at "ev"
  · walk_at "args"
  rw [upd_upd]
  refine Blk.forB (its := [((40 : Nat), (41 : Nat)), (91, 93), (123, 125)].map fun p => isTup [isStr (ch p.1), isStr (ch p.2)]) ?_ (fun _ _ => rfl) ?_
  · refine EvOk.conv (P := isTup [isTup [isStr (u "("), isStr (u ")")], isTup [isStr (u "["), isStr (u "]")], isTup [isStr (u "{"), isStr (u "}")]]) (fun I v h => ?_) ?_
    · rw [show u "(" = ch 40 from by decide +kernel, show u ")" = ch 41 from by decide +kernel, show u "[" = ch 91 from by decide +kernel, show u "]" = ch 93 from by decide +kernel, show u "{" = ch 123 from by decide +kernel, show u "}" = ch 125 from by decide +kernel] at h
      exact tup_iter h
    · walk_at "ev"
  suffices H : ∀ (t : List (Nat × Nat)) (n : Nat) (sy : Int → Option Str) {ρ : Rho}, (∀ p ∈ t, Desc (u "(" ++ ch p.2) 40 ∧ Desc (u ")" ++ ch p.1) 41) → n + 2 * t.length = 97 → pairStore t sy = sp5 → ρ.lookup (u "table") = some (isTab rb) → ForB S (plus d rb) _ (k + 4) _ _ _ (.ret (isTab rb)) (upd J rb (rowsO S 99 stdSp)) (upd J rb (rowsO S n sy)) ρ (t.map fun p => isTup [isStr (ch p.1), isStr (ch p.2)]) from H [(40, 41), (91, 93), (123, 125)] 91 sp4 (fun p hp => by
    simp only [List.mem_cons, List.not_mem_nil, or_false] at hp
    rcases hp with rfl | rfl | rfl
    · exact ⟨desc2 41 (by decide +kernel), desc2 40 (by decide +kernel)⟩
    · exact ⟨desc2 93 (by decide +kernel), desc2 91 (by decide +kernel)⟩
    · exact ⟨desc2 125 (by decide +kernel), desc2 123 (by decide +kernel)⟩) rfl rfl (by walk_at "lk")
  intro t
  induction t with
  | nil =>
    intro n sy ρ hD hn hsy ht
    have hn : n = 97 := by simpa using hn
    have hsy : sy = sp5 := hsy
    subst hn; subst hsy
    apply ForB.done
    refine Blk.modifyAll' (rb := rb) (n := 97) (sy := sp5) (text := u "\"") (desc := u "\"") (n' := 98) (sy' := sp6) ?_ ?_ (fun _ => rfl) ⟨_, fun _ => rfl⟩ (fun _ => rfl) (.inr rfl) upd_at (desc1 (by decide +kernel)) (by decide +kernel) (by decide) rfl ?_
    · walk_at "ev"
    · walk_at "args"
    rw [upd_upd]
    refine Blk.modifyAll' (rb := rb) (n := 98) (sy := sp6) (text := u "\\") (desc := u "\\") (n' := 99) (sy' := stdSp) ?_ ?_ (fun _ => rfl) ⟨_, fun _ => rfl⟩ (fun _ => rfl) (.inr rfl) upd_at (desc1 (by decide +kernel)) (by decide +kernel) (by decide) rfl ?_
    · walk_at "ev"
    · walk_at "args"
    rw [upd_upd]
    walk_at "ret"
    rfl
  | cons p t ih =>
    intro n sy ρ hD hn hsy ht
    obtain ⟨D1, D2⟩ := hD p (.head _)
    have hl : n + 2 * t.length + 2 = 97 := by simp at hn; lia
    refine ForB.turn (J₁ := upd J rb (rowsO S (n + 2) (spStore [p.2] (ch 41) (spStore [p.1] (ch 40) sy)))) (ρ₁ := (u "closes", isStr (ch p.2)) :: (u "opens", isStr (ch p.1)) :: ρ) (TgtOk.pair (by kernel_rfl!) (by kernel_rfl!)) (fun It oI hI _ => ?_) (ih (n + 2) _ (fun q hq => hD q (.tail _ hq)) (by lia) hsy (by walk_at "lk"))
    have hne : rb ≠ It := fun q => hI (q ▸ .inr rfl)
    refine Blk.modifyAll' (rb := rb) (n := n) (sy := sy) (text := ch p.1) (desc := u "(" ++ ch p.2) (n' := n + 1) (sy' := spStore [p.1] (ch 40) sy) ?_ ?_ (fun _ => rfl) ⟨_, fun _ => rfl⟩ (fun _ => rfl) (.inl (.inr rfl)) ((pin_off hne).trans upd_at) D1 rfl (by lia) rfl ?_
    · walk_at "ev"
    · walk_at "args"
    dsimp only [pin]
    rw [upd_comm (Ne.symm hne), upd_upd]
    refine Blk.modifyAll' (rb := rb) (n := n + 1) (sy := spStore [p.1] (ch 40) sy) (text := ch p.2) (desc := u ")" ++ ch p.1) (n' := n + 2) (sy' := spStore [p.2] (ch 41) (spStore [p.1] (ch 40) sy)) ?_ ?_ (fun _ => rfl) ⟨_, fun _ => rfl⟩ (fun _ => rfl) (.inl (.inr rfl)) ((upd_off hne).trans upd_at) D2 rfl (by lia) rfl ?_
    · walk_at "ev"
    · walk_at "args"
    rw [upd_comm (Ne.symm hne), upd_upd]
    exact Blk.nil
end
section
variable {S : St} {d : Mut} {k n n' : Nat} {J : JM} {a rb : Addr} {ρ : Rho} {σ : Sig} {x y text kinds : Str} {e e₁ e₂ o : Expr} {pos np apos pp : Pos} {es : List Expr} {sy sy' : Int → Option Str} {c i p : Int} {kd : Str} {rest : List Stmt} {r : BOut} {J' : JM} {codes : List Int} {neg : Bool}
end
local macro_rules | `(tactic| walk_at "ev") => `(tactic| ((with_reducible apply EvOk.rowsGet); walk_at "E"; walk_at "R"; walk_at "A"; (focus exact ⟨_, fun _ => rfl⟩); (focus assumption)))
section
variable {S : St} {d : Mut} {k n n' : Nat} {J : JM} {a rb : Addr} {ρ : Rho} {σ : Sig} {x y text kinds : Str} {e e₁ e₂ o : Expr} {pos np apos pp : Pos} {es : List Expr} {sy sy' : Int → Option Str} {c i p : Int} {kd : Str} {rest : List Stmt} {r : BOut} {J' : JM} {codes : List Int} {neg : Bool}
noncomputable abbrev st_own : Stmt := inCls 34 4
theorem D_own : DefIs 267 (fdO st_own (u "SyntaxTable.own") .none (.str (u "emacs.syntax") 428) (.ref 266)) (sigO st_own (u "SyntaxTable.own") (.ref 266)) (bodyOf st_own) := defIs_of (fun _ => by kernel_rfl!) (by kernel_rfl!) (fun _ => by kernel_rfl!)
theorem c_own (hc : sy c = some kd) (hk : (kd == u "@") = false) : CallOk S d (k + 1) J 267 [isTable S sy, isInt c] (.val (isSynK kd)) J := by
  refine CallOk.def (xs := [u "self", u "code"]) (DPs := []) (dvs := []) D_own (by kernel_rfl!) (fun s vs hl _ => ?_) (by kernel_rfl!) (by decide) (fun _ => .nil) .val ?_
  · obtain ⟨v0, v1, rfl⟩ := len2 hl
    exact BindsTo.of_eq rfl
  show Blk S d _ _ J _ [(u "self", isTable S sy), (u "code", isInt c)] _ _
  walk_at "asg"
  apply Blk.ret
  apply EvOk.ifFe
  · walk_at "te"
  · rw [hk]; rfl
  · walk_at "ev"
theorem m_own (h : EvOk S d σ (k + 1) J o ρ (.val (isTable S sy))) (hs : PlainArgs [e]) (ha : ArgsOk S d σ (k + 1) J [e] ρ [isInt c]) (he : Meth σ o (u "own") apos [e] pos) (hc : sy c = some kd) (hk : (kd == u "@") = false) : EvOk S d σ (k + 1) J (.Call (.Attribute o (u "own") apos) [e] [] pos) ρ (.val (isSynK kd)) :=
  EvOk.callM D_own.d (fun _ => by kernel_rfl!) (by kernel_rfl!) (c_own hc hk) h hs ha he
end
local macro_rules | `(tactic| walk_at "ev") => `(tactic| ((with_reducible apply m_own); walk_at "callM"; (focus assumption); (focus assumption)))
section
variable {S : St} {d : Mut} {k n n' : Nat} {J : JM} {a rb : Addr} {ρ : Rho} {σ : Sig} {x y text kinds : Str} {e e₁ e₂ o : Expr} {pos np apos pp : Pos} {es : List Expr} {sy sy' : Int → Option Str} {c i p : Int} {kd : Str} {rest : List Stmt} {r : BOut} {J' : JM} {codes : List Int} {neg : Bool}
noncomputable abbrev st_at : Stmt := inCls 34 5
theorem D_at : DefIs 274 (fdO st_at (u "SyntaxTable.at") .none (.str (u "emacs.syntax") 428) (.ref 273)) (sigO st_at (u "SyntaxTable.at") (.ref 273)) (bodyOf st_at) := defIs_of (fun _ => by kernel_rfl!) (by kernel_rfl!) (fun _ => by kernel_rfl!)
theorem c_at (hc : sy c = some kd) (hk : (kd == u "@") = false) : CallOk S d (k + 2) J 274 [isTable S sy, isInt c] (.val (isSynK kd)) J := by
  refine CallOk.def (xs := [u "self", u "code"]) (DPs := []) (dvs := []) D_at (by kernel_rfl!) (fun s vs hl _ => ?_) (by kernel_rfl!) (by decide) (fun _ => .nil) .val ?_
  · obtain ⟨v0, v1, rfl⟩ := len2 hl
    exact BindsTo.of_eq rfl
  show Blk S d _ _ J _ [(u "self", isTable S sy), (u "code", isInt c)] _ _
  walk_at "asg"
  apply Blk.whileB
  apply LoopB.leave
  · walk_at "te"
  · rfl
  · walk_at "asg"
    walk_at "if1"
    · rfl
    · walk_at "ret"
      rfl
theorem m_at (h : EvOk S d σ (k + 2) J o ρ (.val (isTable S sy))) (hs : PlainArgs [e]) (ha : ArgsOk S d σ (k + 2) J [e] ρ [isInt c]) (he : Meth σ o (u "at") apos [e] pos) (hc : sy c = some kd) (hk : (kd == u "@") = false) : EvOk S d σ (k + 2) J (.Call (.Attribute o (u "at") apos) [e] [] pos) ρ (.val (isSynK kd)) :=
  EvOk.callM D_at.d (fun _ => by kernel_rfl!) (by kernel_rfl!) (c_at hc hk) h hs ha he
end
local macro_rules | `(tactic| walk_at "ev") => `(tactic| ((with_reducible apply m_at); walk_at "callM"; (focus assumption); (focus assumption)))
section
variable {S : St} {d : Mut} {k n n' : Nat} {J : JM} {a rb : Addr} {ρ : Rho} {σ : Sig} {x y text kinds : Str} {e e₁ e₂ o : Expr} {pos np apos pp : Pos} {es : List Expr} {sy sy' : Int → Option Str} {c i p : Int} {kd : Str} {rest : List Stmt} {r : BOut} {J' : JM} {codes : List Int} {neg : Bool}
noncomputable abbrev st_syntax_at : Stmt := topS 40
theorem D_syntax_at : DefIs 359 (fdO st_syntax_at (u "syntax_at") .none (.str (u "emacs.syntaxpairs") 681) (.ref 358)) (sigO st_syntax_at (u "syntax_at") (.ref 358)) (bodyOf st_syntax_at) := defIs_of (fun _ => by kernel_rfl!) (by kernel_rfl!) (fun _ => by kernel_rfl!)
theorem c_syntax_at (hz : codes.length ≤ 2 ^ 16) (h0 : 0 ≤ codeAt codes p i) (hc : sy (codeAt codes p i) = some kd) (hk : (kd == u "@") = false) : CallOk S d (k + 3) J 359 [isRow codes p, isTable S sy, isInt i] (.val (isSynK kd)) J := by
  refine CallOk.def (xs := [u "view", u "table", u "place"]) (DPs := []) (dvs := []) D_syntax_at (by kernel_rfl!) (fun s vs hl _ => ?_) (by kernel_rfl!) (by decide) (fun _ => .nil) .val ?_
  · obtain ⟨v0, v1, v2, rfl⟩ := len3 hl
    exact BindsTo.of_eq rfl
  show Blk S d _ _ J _ [(u "view", isRow codes p), (u "table", isTable S sy), (u "place", isInt i)] _ _
  walk_at "asg"
  apply Blk.ret
  apply EvOk.ifFe
  · walk_at "te"
  · simpa using h0
  · walk_at "ev"
theorem e_syntax_at {es : List Expr} {np pos : Pos} {ρ : Rho} {σ : Sig} (hk : σ.scope.names.lookup (u "syntax_at") = some .globalImplicit) (hs : PlainArgs es) (ha : ArgsOk S d σ (k + 3) J es ρ [isRow codes p, isTable S sy, isInt i]) (hz : codes.length ≤ 2 ^ 16) (h0 : 0 ≤ codeAt codes p i) (hc : sy (codeAt codes p i) = some kd) (hkd : (kd == u "@") = false) : EvOk S d σ (k + 3) J (.Call (.Name (u "syntax_at") np) es [] pos) ρ (.val (isSynK kd)) :=
  EvOk.callF D_syntax_at.d (c_syntax_at hz h0 hc hkd) hk (fun _ => by kernel_rfl!) (by kernel_rfl!) hs ha
end
local macro_rules | `(tactic| walk_at "ev") => `(tactic| ((with_reducible apply e_syntax_at); walk_at "K"; walk_at "R"; walk_at "A"; walk_at "D"; walk_at "D"; walk_at "D"; walk_at "D"))
section
variable {S : St} {d : Mut} {k n n' : Nat} {J : JM} {a rb : Addr} {ρ : Rho} {σ : Sig} {x y text kinds : Str} {e e₁ e₂ o : Expr} {pos np apos pp : Pos} {es : List Expr} {sy sy' : Int → Option Str} {c i p : Int} {kd : Str} {rest : List Stmt} {r : BOut} {J' : JM} {codes : List Int} {neg : Bool}
noncomputable abbrev st_is_of : Stmt := topS 42
theorem D_is_of : DefIs 367 (fdO st_is_of (u "is_of") (.ref 360) (.str (u "emacs.skips") 693) (.ref 366)) (sigO st_is_of (u "is_of") (.ref 366)) (bodyOf st_is_of) := defIs_of (fun _ => by kernel_rfl!) (by kernel_rfl!) (fun _ => by kernel_rfl!)
theorem c_is_of (hz : codes.length ≤ 2 ^ 16) (h0 : 0 ≤ codeAt codes p i) (hc : sy (codeAt codes p i) = some kd) (hk : (kd == u "@") = false) : CallOk S d (k + 4) J 367 [isRow codes p, isTable S sy, isInt i, isStr kinds, isBool neg] (.val (isBool (strIn kd kinds != neg))) J := by
  refine CallOk.def (xs := [u "view", u "table", u "place", u "kinds", u "is_negated"]) (DPs := []) (dvs := []) D_is_of (by kernel_rfl!) (fun s vs hl keep => ?_) (by kernel_rfl!) (by decide) (fun _ => .nil) .val ?_
  · obtain ⟨v0, v1, v2, v3, v4, rfl⟩ := len5 hl
    exact kp_binds (S.kin.keeps keep) (fun _ => by kernel_rfl!)
  show Blk S d _ _ J _ [(u "view", isRow codes p), (u "table", isTable S sy), (u "place", isInt i), (u "kinds", isStr kinds), (u "is_negated", isBool neg)] _ _
  walk_at "asg"
  apply Blk.ret
  apply EvOk.andT
  · walk_at "ev"
  · apply EvOk.bool1
    walk_at "ev"
theorem e_is_of {es : List Expr} {np pos : Pos} {ρ : Rho} {σ : Sig} (hk : σ.scope.names.lookup (u "is_of") = some .globalImplicit) (hs : PlainArgs es) (ha : ArgsOk S d σ (k + 4) J es ρ [isRow codes p, isTable S sy, isInt i, isStr kinds, isBool neg]) (hz : codes.length ≤ 2 ^ 16) (h0 : 0 ≤ codeAt codes p i) (hc : sy (codeAt codes p i) = some kd) (hkd : (kd == u "@") = false) : EvOk S d σ (k + 4) J (.Call (.Name (u "is_of") np) es [] pos) ρ (.val (isBool (strIn kd kinds != neg))) :=
  EvOk.callF D_is_of.d (c_is_of hz h0 hc hkd) hk (fun _ => by kernel_rfl!) (by kernel_rfl!) hs ha
end
local macro_rules | `(tactic| walk_at "ev") => `(tactic| ((with_reducible apply e_is_of); walk_at "K"; walk_at "R"; walk_at "A"; walk_at "D"; walk_at "D"; walk_at "D"; walk_at "D"))
section
variable {S : St} {d : Mut} {k n n' : Nat} {J : JM} {a rb : Addr} {ρ : Rho} {σ : Sig} {x y text kinds : Str} {e e₁ e₂ o : Expr} {pos np apos pp : Pos} {es : List Expr} {sy sy' : Int → Option Str} {c i p : Int} {kd : Str} {rest : List Stmt} {r : BOut} {J' : JM} {codes : List Int} {neg : Bool}
end
/-- every code of the text has its row in the table; wd tells the words' codes -/
noncomputable def Alpha (sy : Int → Option Str) (wd : Int → Bool) (codes : List Int) : Prop := ∀ c ∈ codes, 0 ≤ c ∧ ∃ kd, sy c = some kd ∧ (kd == u "@") = false ∧ strIn kd (u "w") = wd c
noncomputable def skF (codes : List Int) (p : Int) (wd : Int → Bool) (neg : Bool) : Nat → Int → Int
  | 0, a => a
  | n + 1, a => if (wd (codeAt codes p a) != neg) = true then skF codes p wd neg n (a + 1) else a
noncomputable def skipF (codes : List Int) (p : Int) (wd : Int → Bool) (neg : Bool) (a limit : Int) : Int := skF codes p wd neg (limit - a).toNat a
noncomputable def skB (codes : List Int) (p : Int) (wd : Int → Bool) (neg : Bool) : Nat → Int → Int
  | 0, a => a
  | n + 1, a => if (wd (codeAt codes p (a - 1)) != neg) = true then skB codes p wd neg n (a - 1) else a
noncomputable def skipB (codes : List Int) (p : Int) (wd : Int → Bool) (neg : Bool) (a limit : Int) : Int := skB codes p wd neg (a - limit).toNat a
theorem skF_in {codes : List Int} {p : Int} {wd : Int → Bool} {neg : Bool} : ∀ (n : Nat) (a : Int), a ≤ skF codes p wd neg n a ∧ skF codes p wd neg n a ≤ a + n
  | 0, a => by unfold skF; simp
  | n + 1, a => by
    unfold skF
    have := skF_in (codes := codes) (p := p) (wd := wd) (neg := neg) n (a + 1)
    split
    · push_cast; lia
    · push_cast; lia
theorem skB_in {codes : List Int} {p : Int} {wd : Int → Bool} {neg : Bool} : ∀ (n : Nat) (a : Int), skB codes p wd neg n a ≤ a ∧ a - n ≤ skB codes p wd neg n a
  | 0, a => by unfold skB; simp
  | n + 1, a => by
    unfold skB
    have := skB_in (codes := codes) (p := p) (wd := wd) (neg := neg) n (a - 1)
    split
    · push_cast; lia
    · push_cast; lia
theorem skipF_in {codes : List Int} {p : Int} {wd : Int → Bool} {neg : Bool} {a limit : Int} (h : a ≤ limit) : a ≤ skipF codes p wd neg a limit ∧ skipF codes p wd neg a limit ≤ limit := by
  have := skF_in (codes := codes) (p := p) (wd := wd) (neg := neg) (limit - a).toNat a
  unfold skipF; lia
theorem skipB_in {codes : List Int} {p : Int} {wd : Int → Bool} {neg : Bool} {a limit : Int} (h : limit ≤ a) : limit ≤ skipB codes p wd neg a limit ∧ skipB codes p wd neg a limit ≤ a := by
  have := skB_in (codes := codes) (p := p) (wd := wd) (neg := neg) (a - limit).toNat a
  unfold skipB; lia
theorem Alpha.at {sy : Int → Option Str} {wd : Int → Bool} {codes : List Int} {p i : Int} (A : Alpha sy wd codes) (h : p ≤ i ∧ i < p + codes.length) : 0 ≤ codeAt codes p i ∧ ∃ kd, sy (codeAt codes p i) = some kd ∧ (kd == u "@") = false ∧ strIn kd (u "w") = wd (codeAt codes p i) := by
  refine A _ ?_
  unfold codeAt
  rw [if_pos h]
  have hl : (i - p).toNat < codes.length := by lia
  rw [List.getD_eq_getElem?_getD, List.getElem?_eq_getElem hl]
  exact List.getElem_mem hl
section
variable {S : St} {d : Mut} {k : Nat} {J : JM} {a rb : Addr} {ρ : Rho} {σ : Sig} {e e₁ e₂ o : Expr} {pos np apos pp : Pos} {es : List Expr} {sy sy' : Int → Option Str} {wd : Int → Bool} {at_ limit c i p : Int} {rest : List Stmt} {r : BOut} {J' : JM} {codes : List Int} {neg : Bool}
noncomputable abbrev st_skip_forward : Stmt := topS 43
theorem D_skip_forward : DefIs 375 (fdO st_skip_forward (u "skip_forward") (.ref 368) (.str (u "emacs.skips") 693) (.ref 374)) (sigO st_skip_forward (u "skip_forward") (.ref 374)) (bodyOf st_skip_forward) := defIs_of (fun _ => by kernel_rfl!) (by kernel_rfl!) (fun _ => by kernel_rfl!)
theorem b_skip_forward (hz : codes.length ≤ 2 ^ 16) (A : Alpha sy wd codes) (h1 : p ≤ at_) (h2 : limit ≤ p + codes.length) : Blk S d (sigO st_skip_forward (u "skip_forward") (.ref 374)) (k + 4) J (bodyOf st_skip_forward) [(u "view", isRow codes p), (u "table", isTable S sy), (u "at", isInt at_), (u "limit", isInt limit), (u "kinds", isStr (u "w")), (u "is_negated", isBool neg)] (.ret (isInt (skipF codes p wd neg at_ limit))) J := by
  apply Blk.whileB
  suffices H : ∀ (n : Nat) (i : Int), (limit - i).toNat = n → p ≤ i → ∀ {ρ : Rho}, ρ.lookup (u "view") = some (isRow codes p) → ρ.lookup (u "table") = some (isTable S sy) → ρ.lookup (u "at") = some (isInt i) → ρ.lookup (u "limit") = some (isInt limit) → ρ.lookup (u "kinds") = some (isStr (u "w")) → ρ.lookup (u "is_negated") = some (isBool neg) → LoopB S d _ (k + 4) J _ _ _ ρ (.ret (isInt (skF codes p wd neg n i))) J from H _ at_ rfl h1 (by walk_at "lk") (by walk_at "lk") (by walk_at "lk") (by walk_at "lk") (by walk_at "lk") (by walk_at "lk")
  intro n
  induction n with
  | zero =>
    intro i hi hp ρ l1 l2 l3 l4 l5 l6
    refine LoopB.exit (b := decide (i < limit) && true) (TestOk.and ?_ fun q => absurd (of_decide_eq_true q) (by lia)) (by simp; lia) ?_
    · walk_at "te"
    · walk_at "ret"
      rfl
  | succ n ih =>
    intro i hi hp ρ l1 l2 l3 l4 l5 l6
    obtain ⟨h0, kd, hc, hk, hw⟩ := A.at (p := p) (i := i) (by lia)
    unfold skF
    by_cases q : (wd (codeAt codes p i) != neg) = true
    · rw [if_pos q]
      apply LoopB.turn
      · walk_at "te"
      · rw [hw, q]; simp; lia
      · walk_at "asg"
        exact Blk.nil
      · exact ih _ (by lia) (by lia) (by walk_at "lk") (by walk_at "lk") (by walk_at "lk") (by walk_at "lk") (by walk_at "lk") (by walk_at "lk")
    · rw [if_neg q]
      apply LoopB.exit
      · walk_at "te"
      · rw [hw, (Bool.not_eq_true _).mp q]; simp
      · walk_at "ret"
        rfl
theorem c_skip_forward (hz : codes.length ≤ 2 ^ 16) (A : Alpha sy wd codes) (h1 : p ≤ at_) (h2 : limit ≤ p + codes.length) : CallOk S d (k + 5) J 375 [isRow codes p, isTable S sy, isInt at_, isInt limit, isStr (u "w"), isBool neg] (.val (isInt (skipF codes p wd neg at_ limit))) J := by
  refine CallOk.def (xs := [u "view", u "table", u "at", u "limit", u "kinds", u "is_negated"]) (DPs := []) (dvs := []) D_skip_forward (by kernel_rfl!) (fun s vs hl keep => ?_) (by kernel_rfl!) (by decide) (fun _ => .nil) .val ?_
  · obtain ⟨v0, v1, v2, v3, v4, v5, rfl⟩ := len6 hl
    exact kp_binds (S.kin.keeps keep) (fun _ => by kernel_rfl!)
  show Blk S d _ _ J _ [(u "view", isRow codes p), (u "table", isTable S sy), (u "at", isInt at_), (u "limit", isInt limit), (u "kinds", isStr (u "w")), (u "is_negated", isBool neg)] _ _
  exact b_skip_forward hz A h1 h2
theorem c_skip_forward0 (hz : codes.length ≤ 2 ^ 16) (A : Alpha sy wd codes) (h1 : p ≤ at_) (h2 : limit ≤ p + codes.length) : CallOk S d (k + 5) J 375 [isRow codes p, isTable S sy, isInt at_, isInt limit, isStr (u "w")] (.val (isInt (skipF codes p wd false at_ limit))) J := by
  refine CallOk.def (xs := [u "view", u "table", u "at", u "limit", u "kinds", u "is_negated"]) (DPs := [isBool false]) (dvs := [.bool false]) D_skip_forward (by kernel_rfl!) (fun s vs hl keep => ?_) (by kernel_rfl!) (by decide) (fun _ => .cons rfl .nil) .val ?_
  · obtain ⟨v0, v1, v2, v3, v4, rfl⟩ := len5 hl
    exact kp_binds (S.kin.keeps keep) (fun _ => by kernel_rfl!)
  show Blk S d _ _ J _ [(u "view", isRow codes p), (u "table", isTable S sy), (u "at", isInt at_), (u "limit", isInt limit), (u "kinds", isStr (u "w")), (u "is_negated", isBool false)] _ _
  exact b_skip_forward hz A h1 h2
noncomputable abbrev st_skip_backward : Stmt := topS 44
theorem D_skip_backward : DefIs 383 (fdO st_skip_backward (u "skip_backward") (.ref 376) (.str (u "emacs.skips") 693) (.ref 382)) (sigO st_skip_backward (u "skip_backward") (.ref 382)) (bodyOf st_skip_backward) := defIs_of (fun _ => by kernel_rfl!) (by kernel_rfl!) (fun _ => by kernel_rfl!)
theorem b_skip_backward (hz : codes.length ≤ 2 ^ 16) (A : Alpha sy wd codes) (h1 : at_ ≤ p + codes.length) (h2 : p ≤ limit) : Blk S d (sigO st_skip_backward (u "skip_backward") (.ref 382)) (k + 4) J (bodyOf st_skip_backward) [(u "view", isRow codes p), (u "table", isTable S sy), (u "at", isInt at_), (u "limit", isInt limit), (u "kinds", isStr (u "w")), (u "is_negated", isBool neg)] (.ret (isInt (skipB codes p wd neg at_ limit))) J := by
  apply Blk.whileB
  suffices H : ∀ (n : Nat) (i : Int), (i - limit).toNat = n → i ≤ p + codes.length → ∀ {ρ : Rho}, ρ.lookup (u "view") = some (isRow codes p) → ρ.lookup (u "table") = some (isTable S sy) → ρ.lookup (u "at") = some (isInt i) → ρ.lookup (u "limit") = some (isInt limit) → ρ.lookup (u "kinds") = some (isStr (u "w")) → ρ.lookup (u "is_negated") = some (isBool neg) → LoopB S d _ (k + 4) J _ _ _ ρ (.ret (isInt (skB codes p wd neg n i))) J from H _ at_ rfl h1 (by walk_at "lk") (by walk_at "lk") (by walk_at "lk") (by walk_at "lk") (by walk_at "lk") (by walk_at "lk")
  intro n
  induction n with
  | zero =>
    intro i hi hp ρ l1 l2 l3 l4 l5 l6
    refine LoopB.exit (b := decide (limit < i) && true) (TestOk.and ?_ fun q => absurd (of_decide_eq_true q) (by lia)) (by simp; lia) ?_
    · walk_at "te"
    · walk_at "ret"
      rfl
  | succ n ih =>
    intro i hi hp ρ l1 l2 l3 l4 l5 l6
    obtain ⟨h0, kd, hc, hk, hw⟩ := A.at (p := p) (i := i - 1) (by lia)
    unfold skB
    by_cases q : (wd (codeAt codes p (i - 1)) != neg) = true
    · rw [if_pos q]
      apply LoopB.turn
      · walk_at "te"
      · rw [hw, q]; simp; lia
      · walk_at "asg"
        exact Blk.nil
      · exact ih _ (by lia) (by lia) (by walk_at "lk") (by walk_at "lk") (by walk_at "lk") (by walk_at "lk") (by walk_at "lk") (by walk_at "lk")
    · rw [if_neg q]
      apply LoopB.exit
      · walk_at "te"
      · rw [hw, (Bool.not_eq_true _).mp q]; simp
      · walk_at "ret"
        rfl
theorem c_skip_backward (hz : codes.length ≤ 2 ^ 16) (A : Alpha sy wd codes) (h1 : at_ ≤ p + codes.length) (h2 : p ≤ limit) : CallOk S d (k + 5) J 383 [isRow codes p, isTable S sy, isInt at_, isInt limit, isStr (u "w"), isBool neg] (.val (isInt (skipB codes p wd neg at_ limit))) J := by
  refine CallOk.def (xs := [u "view", u "table", u "at", u "limit", u "kinds", u "is_negated"]) (DPs := []) (dvs := []) D_skip_backward (by kernel_rfl!) (fun s vs hl keep => ?_) (by kernel_rfl!) (by decide) (fun _ => .nil) .val ?_
  · obtain ⟨v0, v1, v2, v3, v4, v5, rfl⟩ := len6 hl
    exact kp_binds (S.kin.keeps keep) (fun _ => by kernel_rfl!)
  show Blk S d _ _ J _ [(u "view", isRow codes p), (u "table", isTable S sy), (u "at", isInt at_), (u "limit", isInt limit), (u "kinds", isStr (u "w")), (u "is_negated", isBool neg)] _ _
  exact b_skip_backward hz A h1 h2
theorem c_skip_backward0 (hz : codes.length ≤ 2 ^ 16) (A : Alpha sy wd codes) (h1 : at_ ≤ p + codes.length) (h2 : p ≤ limit) : CallOk S d (k + 5) J 383 [isRow codes p, isTable S sy, isInt at_, isInt limit, isStr (u "w")] (.val (isInt (skipB codes p wd false at_ limit))) J := by
  refine CallOk.def (xs := [u "view", u "table", u "at", u "limit", u "kinds", u "is_negated"]) (DPs := [isBool false]) (dvs := [.bool false]) D_skip_backward (by kernel_rfl!) (fun s vs hl keep => ?_) (by kernel_rfl!) (by decide) (fun _ => .cons rfl .nil) .val ?_
  · obtain ⟨v0, v1, v2, v3, v4, rfl⟩ := len5 hl
    exact kp_binds (S.kin.keeps keep) (fun _ => by kernel_rfl!)
  show Blk S d _ _ J _ [(u "view", isRow codes p), (u "table", isTable S sy), (u "at", isInt at_), (u "limit", isInt limit), (u "kinds", isStr (u "w")), (u "is_negated", isBool false)] _ _
  exact b_skip_backward hz A h1 h2
end
/-- count words on: the place, and whether all were found -/
noncomputable def wF (codes : List Int) (p : Int) (wd : Int → Bool) : Nat → Int → Int × Bool
  | 0, a => (a, true)
  | n + 1, a => if p + codes.length ≤ skipF codes p wd true a (p + codes.length) then (p + codes.length, false)
      else wF codes p wd n (skipF codes p wd false (skipF codes p wd true a (p + codes.length)) (p + codes.length))
noncomputable def wB (codes : List Int) (p : Int) (wd : Int → Bool) : Nat → Int → Int × Bool
  | 0, a => (a, true)
  | n + 1, a => if skipB codes p wd true a p ≤ p then (p, false)
      else wB codes p wd n (skipB codes p wd false (skipB codes p wd true a p) p)
noncomputable def wordBy (codes : List Int) (p : Int) (wd : Int → Bool) (a count : Int) : Int × Bool := if 0 < count then wF codes p wd count.toNat a else wB codes p wd (-count).toNat a
theorem wF_in {codes : List Int} {p : Int} {wd : Int → Bool} : ∀ (n : Nat) (a : Int), p ≤ a → a ≤ p + codes.length → a ≤ (wF codes p wd n a).1 ∧ (wF codes p wd n a).1 ≤ p + codes.length
  | 0, a, h, h' => by unfold wF; simp; lia
  | n + 1, a, h, h' => by
    unfold wF
    have q := skipF_in (codes := codes) (p := p) (wd := wd) (neg := true) h'
    split
    · simp; lia
    · have q2 := skipF_in (codes := codes) (p := p) (wd := wd) (neg := false) q.2
      have := wF_in (codes := codes) (wd := wd) n _ (show p ≤ skipF codes p wd false (skipF codes p wd true a (p + codes.length)) (p + codes.length) by lia) q2.2
      lia
theorem wB_in {codes : List Int} {p : Int} {wd : Int → Bool} : ∀ (n : Nat) (a : Int), p ≤ a → p ≤ (wB codes p wd n a).1 ∧ (wB codes p wd n a).1 ≤ a
  | 0, a, h => by unfold wB; simp; lia
  | n + 1, a, h => by
    unfold wB
    have q := skipB_in (codes := codes) (p := p) (wd := wd) (neg := true) h
    split
    · simp; lia
    · have q2 := skipB_in (codes := codes) (p := p) (wd := wd) (neg := false) q.1
      have := wB_in (codes := codes) (wd := wd) n _ q2.1
      lia
section
variable {S : St} {d : Mut} {k : Nat} {J : JM} {a rb : Addr} {ρ : Rho} {σ : Sig} {e e₁ e₂ o : Expr} {pos np apos pp : Pos} {es : List Expr} {sy sy' : Int → Option Str} {wd : Int → Bool} {at_ limit c i p count : Int} {rest : List Stmt} {r : BOut} {J' : JM} {codes : List Int} {neg : Bool}
theorem e_skip_forward {es : List Expr} {np pos : Pos} {ρ : Rho} {σ : Sig} (hk : σ.scope.names.lookup (u "skip_forward") = some .globalImplicit) (hs : PlainArgs es) (ha : ArgsOk S d σ (k + 5) J es ρ [isRow codes p, isTable S sy, isInt at_, isInt limit, isStr (u "w"), isBool neg]) (hz : codes.length ≤ 2 ^ 16) (A : Alpha sy wd codes) (h1 : p ≤ at_) (h2 : limit ≤ p + codes.length) : EvOk S d σ (k + 5) J (.Call (.Name (u "skip_forward") np) es [] pos) ρ (.val (isInt (skipF codes p wd neg at_ limit))) :=
  EvOk.callF D_skip_forward.d (c_skip_forward hz A h1 h2) hk (fun _ => by kernel_rfl!) (by kernel_rfl!) hs ha
end
local macro_rules | `(tactic| walk_at "ev") => `(tactic| ((with_reducible apply e_skip_forward); walk_at "K"; walk_at "R"; walk_at "A"; walk_at "D"; walk_at "D"; walk_at "D"; walk_at "D"))
section
variable {S : St} {d : Mut} {k : Nat} {J : JM} {a rb : Addr} {ρ : Rho} {σ : Sig} {e e₁ e₂ o : Expr} {pos np apos pp : Pos} {es : List Expr} {sy sy' : Int → Option Str} {wd : Int → Bool} {at_ limit c i p count : Int} {rest : List Stmt} {r : BOut} {J' : JM} {codes : List Int} {neg : Bool}
theorem e_skip_backward {es : List Expr} {np pos : Pos} {ρ : Rho} {σ : Sig} (hk : σ.scope.names.lookup (u "skip_backward") = some .globalImplicit) (hs : PlainArgs es) (ha : ArgsOk S d σ (k + 5) J es ρ [isRow codes p, isTable S sy, isInt at_, isInt limit, isStr (u "w"), isBool neg]) (hz : codes.length ≤ 2 ^ 16) (A : Alpha sy wd codes) (h1 : at_ ≤ p + codes.length) (h2 : p ≤ limit) : EvOk S d σ (k + 5) J (.Call (.Name (u "skip_backward") np) es [] pos) ρ (.val (isInt (skipB codes p wd neg at_ limit))) :=
  EvOk.callF D_skip_backward.d (c_skip_backward hz A h1 h2) hk (fun _ => by kernel_rfl!) (by kernel_rfl!) hs ha
end
local macro_rules | `(tactic| walk_at "ev") => `(tactic| ((with_reducible apply e_skip_backward); walk_at "K"; walk_at "R"; walk_at "A"; walk_at "D"; walk_at "D"; walk_at "D"; walk_at "D"))
section
variable {S : St} {d : Mut} {k : Nat} {J : JM} {a rb : Addr} {ρ : Rho} {σ : Sig} {e e₁ e₂ o : Expr} {pos np apos pp : Pos} {es : List Expr} {sy sy' : Int → Option Str} {wd : Int → Bool} {at_ limit c i p count : Int} {rest : List Stmt} {r : BOut} {J' : JM} {codes : List Int} {neg : Bool}
theorem e_skip_forward0 (hk : σ.scope.names.lookup (u "skip_forward") = some .globalImplicit) (hs : PlainArgs es) (ha : ArgsOk S d σ (k + 5) J es ρ [isRow codes p, isTable S sy, isInt at_, isInt limit, isStr (u "w")]) (hz : codes.length ≤ 2 ^ 16) (A : Alpha sy wd codes) (h1 : p ≤ at_) (h2 : limit ≤ p + codes.length) : EvOk S d σ (k + 5) J (.Call (.Name (u "skip_forward") np) es [] pos) ρ (.val (isInt (skipF codes p wd false at_ limit))) :=
  EvOk.callF D_skip_forward.d (c_skip_forward0 hz A h1 h2) hk (fun _ => by kernel_rfl!) (by kernel_rfl!) hs ha
theorem e_skip_backward0 (hk : σ.scope.names.lookup (u "skip_backward") = some .globalImplicit) (hs : PlainArgs es) (ha : ArgsOk S d σ (k + 5) J es ρ [isRow codes p, isTable S sy, isInt at_, isInt limit, isStr (u "w")]) (hz : codes.length ≤ 2 ^ 16) (A : Alpha sy wd codes) (h1 : at_ ≤ p + codes.length) (h2 : p ≤ limit) : EvOk S d σ (k + 5) J (.Call (.Name (u "skip_backward") np) es [] pos) ρ (.val (isInt (skipB codes p wd false at_ limit))) :=
  EvOk.callF D_skip_backward.d (c_skip_backward0 hz A h1 h2) hk (fun _ => by kernel_rfl!) (by kernel_rfl!) hs ha
end
local macro_rules | `(tactic| walk_at "ev") => `(tactic| first | ((with_reducible apply e_skip_forward0); walk_at "K"; walk_at "R"; walk_at "A"; walk_at "D"; walk_at "D"; walk_at "D"; walk_at "D") | ((with_reducible apply e_skip_backward0); walk_at "K"; walk_at "R"; walk_at "A"; walk_at "D"; walk_at "D"; walk_at "D"; walk_at "D"))
section
variable {S : St} {d : Mut} {k : Nat} {J : JM} {a rb : Addr} {ρ : Rho} {σ : Sig} {e e₁ e₂ o : Expr} {pos np apos pp : Pos} {es : List Expr} {sy sy' : Int → Option Str} {wd : Int → Bool} {at_ limit c i p count : Int} {rest : List Stmt} {r : BOut} {J' : JM} {codes : List Int} {neg : Bool}
noncomputable abbrev st_forward_by : Stmt := topS 46
theorem D_forward_by : DefIs 390 (fdO st_forward_by (u "forward_by") .none (.str (u "emacs.words") 731) (.ref 389)) (sigO st_forward_by (u "forward_by") (.ref 389)) (bodyOf st_forward_by) := defIs_of (fun _ => by kernel_rfl!) (by kernel_rfl!) (fun _ => by kernel_rfl!)
theorem c_forward_by (hz : codes.length ≤ 2 ^ 16) (A : Alpha sy wd codes) (h1 : p ≤ at_) (h2 : at_ ≤ p + codes.length) : CallOk S d (k + 6) J 390 [isRow codes p, isTable S sy, isInt at_, isInt count, isStr (u "w")] (.val (isTup [isInt (wordBy codes p wd at_ count).1, isBool (wordBy codes p wd at_ count).2])) J := by
  refine CallOk.def (xs := [u "view", u "table", u "at", u "count", u "kinds"]) (DPs := []) (dvs := []) D_forward_by (by kernel_rfl!) (fun s vs hl _ => ?_) (by kernel_rfl!) (by decide) (fun _ => .nil) .val ?_
  · obtain ⟨v0, v1, v2, v3, v4, rfl⟩ := len5 hl
    exact BindsTo.of_eq rfl
  show Blk S d _ _ J _ [(u "view", isRow codes p), (u "table", isTable S sy), (u "at", isInt at_), (u "count", isInt count), (u "kinds", isStr (u "w"))] _ _
  apply Blk.whileB
  by_cases c0 : 0 < count
  · unfold wordBy
    rw [if_pos c0]
    suffices H : ∀ (n : Nat) (i c : Int), c = n → p ≤ i → i ≤ p + codes.length → ∀ {ρ : Rho}, ρ.lookup (u "view") = some (isRow codes p) → ρ.lookup (u "table") = some (isTable S sy) → ρ.lookup (u "at") = some (isInt i) → ρ.lookup (u "count") = some (isInt c) → ρ.lookup (u "kinds") = some (isStr (u "w")) → LoopB S d _ (k + 5) J _ _ _ ρ (.ret (isTup [isInt (wF codes p wd n i).1, isBool (wF codes p wd n i).2])) J from H _ at_ count (by lia) h1 h2 (by walk_at "lk") (by walk_at "lk") (by walk_at "lk") (by walk_at "lk") (by walk_at "lk")
    intro n
    induction n with
    | zero =>
      intro i c hc hp hp' ρ l1 l2 l3 l4 l5
      subst hc
      apply LoopB.exit
      · walk_at "te"
      · rfl
      · apply Blk.whileB
        apply LoopB.exit
        · walk_at "te"
        · rfl
        · walk_at "ret"
          rfl
    | succ n ih =>
      intro i c hc hp hp' ρ l1 l2 l3 l4 l5
      have q := skipF_in (codes := codes) (p := p) (wd := wd) (neg := true) hp'
      unfold wF
      by_cases c1 : p + codes.length ≤ skipF codes p wd true i (p + codes.length)
      · rw [if_pos c1]
        apply LoopB.leave
        · walk_at "te"
        · simp; lia
        · walk_at "asg"
          walk_at "if1"
          · simpa using c1
          · walk_at "ret"
            rfl
      · rw [if_neg c1]
        have q2 := skipF_in (codes := codes) (p := p) (wd := wd) (neg := false) q.2
        apply LoopB.turn
        · walk_at "te"
        · simp; lia
        · walk_at "asg"
          walk_at "if0"
          · simpa using c1
          · exact Blk.nil
          · walk_at "asg"
            walk_at "asg"
            exact Blk.nil
        · exact ih _ (c - 1) (by lia) (by lia) (by lia) (by walk_at "lk") (by walk_at "lk") (by walk_at "lk") (by walk_at "lk") (by walk_at "lk")
  · unfold wordBy
    rw [if_neg c0]
    apply LoopB.exit
    · walk_at "te"
    · simpa using c0
    apply Blk.whileB
    suffices H : ∀ (n : Nat) (i c : Int), c = -(n : Int) → p ≤ i → i ≤ p + codes.length → ∀ {ρ : Rho}, ρ.lookup (u "view") = some (isRow codes p) → ρ.lookup (u "table") = some (isTable S sy) → ρ.lookup (u "at") = some (isInt i) → ρ.lookup (u "count") = some (isInt c) → ρ.lookup (u "kinds") = some (isStr (u "w")) → LoopB S d _ (k + 5) J _ _ _ ρ (.ret (isTup [isInt (wB codes p wd n i).1, isBool (wB codes p wd n i).2])) J from H _ at_ count (by lia) h1 h2 (by walk_at "lk") (by walk_at "lk") (by walk_at "lk") (by walk_at "lk") (by walk_at "lk")
    intro n
    induction n with
    | zero =>
      intro i c hc hp hp' ρ l1 l2 l3 l4 l5
      subst hc
      apply LoopB.exit
      · walk_at "te"
      · rfl
      · walk_at "ret"
        rfl
    | succ n ih =>
      intro i c hc hp hp' ρ l1 l2 l3 l4 l5
      have q := skipB_in (codes := codes) (p := p) (wd := wd) (neg := true) hp
      unfold wB
      by_cases c1 : skipB codes p wd true i p ≤ p
      · rw [if_pos c1]
        apply LoopB.leave
        · walk_at "te"
        · simp; lia
        · walk_at "asg"
          walk_at "if1"
          · simpa using c1
          · walk_at "ret"
            rfl
      · rw [if_neg c1]
        have q2 := skipB_in (codes := codes) (p := p) (wd := wd) (neg := false) q.1
        apply LoopB.turn
        · walk_at "te"
        · simp; lia
        · walk_at "asg"
          walk_at "if0"
          · simpa using c1
          · exact Blk.nil
          · walk_at "asg"
            walk_at "asg"
            exact Blk.nil
        · exact ih _ (c + 1) (by lia) (by lia) (by lia) (by walk_at "lk") (by walk_at "lk") (by walk_at "lk") (by walk_at "lk") (by walk_at "lk")
theorem e_forward_by {es : List Expr} {np pos : Pos} {ρ : Rho} {σ : Sig} (hk : σ.scope.names.lookup (u "forward_by") = some .globalImplicit) (hs : PlainArgs es) (ha : ArgsOk S d σ (k + 6) J es ρ [isRow codes p, isTable S sy, isInt at_, isInt count, isStr (u "w")]) (hz : codes.length ≤ 2 ^ 16) (A : Alpha sy wd codes) (h1 : p ≤ at_) (h2 : at_ ≤ p + codes.length) : EvOk S d σ (k + 6) J (.Call (.Name (u "forward_by") np) es [] pos) ρ (.val (isTup [isInt (wordBy codes p wd at_ count).1, isBool (wordBy codes p wd at_ count).2])) :=
  EvOk.callF D_forward_by.d (c_forward_by hz A h1 h2) hk (fun _ => by kernel_rfl!) (by kernel_rfl!) hs ha
end
local macro_rules | `(tactic| walk_at "ev") => `(tactic| ((with_reducible apply e_forward_by); walk_at "K"; walk_at "R"; walk_at "A"; walk_at "D"; walk_at "D"; walk_at "D"; walk_at "D"))
section
variable {S : St} {d : Mut} {k : Nat} {J : JM} {a rb : Addr} {ρ : Rho} {σ : Sig} {e e₁ e₂ o : Expr} {pos np apos pp : Pos} {es : List Expr} {sy sy' : Int → Option Str} {wd : Int → Bool} {at_ limit c i p count : Int} {rest : List Stmt} {r : BOut} {J' : JM} {codes : List Int} {neg : Bool}
noncomputable abbrev st_forward_word : Stmt := topS 47
theorem D_forward_word : DefIs 397 (fdO st_forward_word (u "forward_word") .none (.str (u "emacs.words") 731) (.ref 396)) (sigO st_forward_word (u "forward_word") (.ref 396)) (bodyOf st_forward_word) := defIs_of (fun _ => by kernel_rfl!) (by kernel_rfl!) (fun _ => by kernel_rfl!)
theorem c_forward_word (hz : codes.length ≤ 2 ^ 16) (A : Alpha sy wd codes) (h1 : p ≤ at_) (h2 : at_ ≤ p + codes.length) : CallOk S d (k + 7) J 397 [isRow codes p, isTable S sy, isInt at_, isInt count] (.val (isTup [isInt (wordBy codes p wd at_ count).1, isBool (wordBy codes p wd at_ count).2])) J := by
  refine CallOk.def (xs := [u "view", u "table", u "at", u "count"]) (DPs := []) (dvs := []) D_forward_word (by kernel_rfl!) (fun s vs hl _ => ?_) (by kernel_rfl!) (by decide) (fun _ => .nil) .val ?_
  · obtain ⟨v0, v1, v2, v3, rfl⟩ := len4 hl
    exact BindsTo.of_eq rfl
  show Blk S d _ _ J _ [(u "view", isRow codes p), (u "table", isTable S sy), (u "at", isInt at_), (u "count", isInt count)] _ _
  walk_at "ret"
  rfl
theorem e_forward_word {es : List Expr} {np pos : Pos} {ρ : Rho} {σ : Sig} (hk : σ.scope.names.lookup (u "forward_word") = some .globalImplicit) (hs : PlainArgs es) (ha : ArgsOk S d σ (k + 7) J es ρ [isRow codes p, isTable S sy, isInt at_, isInt count]) (hz : codes.length ≤ 2 ^ 16) (A : Alpha sy wd codes) (h1 : p ≤ at_) (h2 : at_ ≤ p + codes.length) : EvOk S d σ (k + 7) J (.Call (.Name (u "forward_word") np) es [] pos) ρ (.val (isTup [isInt (wordBy codes p wd at_ count).1, isBool (wordBy codes p wd at_ count).2])) :=
  EvOk.callF D_forward_word.d (c_forward_word hz A h1 h2) hk (fun _ => by kernel_rfl!) (by kernel_rfl!) hs ha
end
local macro_rules | `(tactic| walk_at "ev") => `(tactic| ((with_reducible apply e_forward_word); walk_at "K"; walk_at "R"; walk_at "A"; walk_at "D"; walk_at "D"; walk_at "D"; walk_at "D"))
section
variable {S : St} {d : Mut} {k : Nat} {J : JM} {a rb : Addr} {ρ : Rho} {σ : Sig} {e e₁ e₂ o : Expr} {pos np apos pp : Pos} {es : List Expr} {sy sy' : Int → Option Str} {wd : Int → Bool} {at_ limit c i p count : Int} {rest : List Stmt} {r : BOut} {J' : JM} {codes : List Int} {neg : Bool}
end
section
variable {S : St} {d : Mut} {k : Nat} {J : JM} {a rb : Addr} {ρ : Rho} {σ : Sig} {e e₁ e₂ o : Expr} {pos np apos pp sp : Pos} {es : List Expr} {codes xs : List Int} {p i n y : Int}
theorem EvOk.upto (h₁ : EvOk S d σ k J e₁ ρ (.val (isList xs))) (h₂ : EvOk S d σ k J e₂ ρ (.val (isInt y))) (hs : ∀ o n, subscripted (.Slice none (some e₂) none sp) false (.ref o) (.ref n) = operate [.ref n, .ref o] (getItem (.ref o) (.ref n))) (ht : ∀ o r, letTemporaryGo e₁ (.ref o) r = pure ()) (hy : 0 ≤ y) (hz : xs.length ≤ 2 ^ 20) : EvOk S d σ k J (.Subscript e₁ (.Slice none (some e₂) none sp) pos) ρ (.val (isList (xs.take y.toNat))) :=
  EvOk.sliceL h₁ PartOk.none (PartOk.some h₂) hz (fun _ h => kmk_upto h hy) hs ht
theorem EvOk.since (h₁ : EvOk S d σ k J e₁ ρ (.val (isList xs))) (h₂ : EvOk S d σ k J e₂ ρ (.val (isInt y))) (hs : ∀ o n, subscripted (.Slice (some e₂) none none sp) false (.ref o) (.ref n) = operate [.ref n, .ref o] (getItem (.ref o) (.ref n))) (ht : ∀ o r, letTemporaryGo e₁ (.ref o) r = pure ()) (hy : 0 ≤ y) (hz : xs.length ≤ 2 ^ 20) : EvOk S d σ k J (.Subscript e₁ (.Slice (some e₂) none none sp) pos) ρ (.val (isList (xs.drop y.toNat))) :=
  EvOk.sliceL h₁ (PartOk.some h₂) PartOk.none hz (fun _ h => kmk_from h hy) hs ht
end
local macro_rules | `(tactic| walk_at "ev") => `(tactic| first | ((with_reducible apply EvOk.upto); walk_at "E"; walk_at "E"; walk_at "RR"; walk_at "RR"; walk_at "D"; walk_at "D") | ((with_reducible apply EvOk.since); walk_at "E"; walk_at "E"; walk_at "RR"; walk_at "RR"; walk_at "D"; walk_at "D"))
section
variable {S : St} {d : Mut} {k : Nat} {J : JM} {a rb : Addr} {ρ : Rho} {σ : Sig} {e e₁ e₂ o : Expr} {pos np apos pp sp : Pos} {es : List Expr} {codes xs : List Int} {p i n y : Int}
/-- what an edit makes of the text -/
noncomputable def applyE (codes : List Int) (p : Int) (e : (Int × Int × List Int) × Int) : List Int × Int := (codes.take (e.1.1 - p).toNat ++ e.1.2.2 ++ codes.drop (e.1.2.1 - p).toNat, e.2)
noncomputable def resP : Option (List Int × Int) → VP
  | some x => isTup [isList x.1, isInt x.2]
  | none => isNone
noncomputable def outE : Option ((Int × Int × List Int) × Int) → Out
  | some e => .val (isTup [isEdit e.1, isInt e.2])
  | none => .exc
noncomputable abbrev st__law_done : Stmt := topS 53
theorem D__law_done : DefIs 428 (fdO st__law_done (u "_law_done") .none (.str (u "law_pq0280_01") 756) (.ref 427)) (sigO st__law_done (u "_law_done") (.ref 427)) (bodyOf st__law_done) := defIs_of (fun _ => by kernel_rfl!) (by kernel_rfl!) (fun _ => by kernel_rfl!)
theorem c__law_done {oe : Option ((Int × Int × List Int) × Int)} (hz : codes.length ≤ 64) (he : ∀ e, oe = some e → p ≤ e.1.1 ∧ p ≤ e.1.2.1 ∧ e.1.2.2.length ≤ 256) : CallOk S d (k + 18) J 428 [isList codes, isInt p, fnV S d (k + 17) J [isRow codes p] (outE oe)] (.val (resP (oe.map (applyE codes p)))) J := by
  refine CallOk.def (xs := [u "_law_codes", u "_law_first", u "_law_call"]) (DPs := []) (dvs := []) D__law_done (by kernel_rfl!) (fun s vs hl _ => ?_) (by kernel_rfl!) (by decide) (fun _ => .nil) .val ?_
  · obtain ⟨v0, v1, v2, rfl⟩ := len3 hl
    exact BindsTo.of_eq rfl
  show Blk S d _ _ J _ [(u "_law_codes", isList codes), (u "_law_first", isInt p), (u "_law_call", fnV S d (k + 17) J [isRow codes p] (outE oe))] _ _
  cases oe with
  | none =>
    refine Blk.tryExc ?_ (by kernel_rfl!) (fun _ => rfl) (fun _ => rfl)
    exact EvOk.callV (k' := k + 17) (Ps := [isRow codes p]) (r := outE none) (by walk_at "ev") (Nat.le_refl _) (fun _ => rfl) (by walk_at "args")
  | some e =>
    obtain ⟨q1, q2, q3⟩ := he e rfl
    refine Blk.tryOk (J₁ := J) (ρ' := (u "_law_place", isInt e.2) :: (u "_law_edit", isEdit e.1) :: [(u "_law_codes", isList codes), (u "_law_first", isInt p), (u "_law_call", fnV S d (k + 17) J [isRow codes p] (outE (some e)))]) ?_ ?_
    · refine Blk.unpack2 (P₁ := isEdit e.1) (P₂ := isInt e.2) ?_ (by kernel_rfl!) (by kernel_rfl!) (fun _ => rfl) (fun _ => rfl) Blk.nil
      exact EvOk.callV (k' := k + 17) (Ps := [isRow codes p]) (r := outE (some e)) (by walk_at "ev") (Nat.le_refl _) (fun _ => rfl) (by walk_at "args")
    · walk_at "ret"
      rfl
end
section
variable {S : St} {d : Mut} {k k' : Nat} {J : JM} {a rb : Addr} {ρ ρ₁ : Rho} {σ : Sig} {e₁ e₂ o body : Expr} {pos np apos pp sp : Pos} {es : List Expr} {codes xs : List Int} {p i n y : Int} {e : (Int × Int × List Int) × Int} {r : Out}
theorem e_done0 (hk : σ.scope.names.lookup (u "_law_done") = some .globalImplicit) (hs : PlainArgs es) (ha : ArgsOk S d σ (k + 18) J es ρ [isList codes, isInt p, fnV S d (k + 17) J [isRow codes p] .exc]) (hz : codes.length ≤ 64) : EvOk S d σ (k + 18) J (.Call (.Name (u "_law_done") np) es [] pos) ρ (.val isNone) :=
  EvOk.callF D__law_done.d (c__law_done (oe := none) hz (fun _ h => by cases h)) hk (fun _ => by kernel_rfl!) (by kernel_rfl!) hs ha
theorem e_done1 (hk : σ.scope.names.lookup (u "_law_done") = some .globalImplicit) (hs : PlainArgs es) (ha : ArgsOk S d σ (k + 18) J es ρ [isList codes, isInt p, fnV S d (k + 17) J [isRow codes p] (.val (isTup [isEdit e.1, isInt e.2]))]) (hz : codes.length ≤ 64) (he : p ≤ e.1.1 ∧ p ≤ e.1.2.1 ∧ e.1.2.2.length ≤ 256) : EvOk S d σ (k + 18) J (.Call (.Name (u "_law_done") np) es [] pos) ρ (.val (isTup [isList (applyE codes p e).1, isInt (applyE codes p e).2])) :=
  EvOk.callF D__law_done.d (c__law_done (oe := some e) hz (fun _ h => by cases h; exact he)) hk (fun _ => by kernel_rfl!) (by kernel_rfl!) hs ha
/-- a lambda, a function with this contract -/
theorem EvOk.lam {params : Arguments} {scope : Scope} {cA tA : Addr} {xs : List Str} {Ps : List VP} (hT : (σ.qual, cA, tA) ∈ tabsL) (hcd : σ.cd = .ref cA) (hdef : ∀ env, defaultsOf params env = ([], [])) (hf : FreeOk σ scope ρ ρ₁) (hall : (scope.names.all fun y => y.2 != .free || ρ₁.any (·.1 == y.1)) = true)
    (hb : ∀ cl pm cdv ct (vs : List Value), vs.length = Ps.length → bindArgs (PySem.W.kla_fn "<lambda>" (lamQ σ.qual) params body scope cl pm cdv ct) ⟨vs, []⟩ = pure (xs.zip vs))
    (hx : (xs.all fun y => scope.names.lookup y == some .local) = true) (hn : xs.Nodup) (hs : (scope.kind == .function && !scope.isCoroutine && !scope.isGenerator && scope.names.all (fun y => y.2 != .cell)) = true)
    (hρ : (ρ₁.all fun y => scope.names.lookup y.1 == some .free) = true) (b : ∀ cd, EvOk S d ⟨lamQ σ.qual, scope, cd, []⟩ k' J body (xs.zip Ps ++ ρ₁) r) : EvOk S d σ k J (.Lambda params body scope pos) ρ (.val (fnV S d (k' + 1) J Ps r)) :=
  EvOk.conv (fun I v h => let ⟨x, y⟩ := lam_call h hb hx hn hs hρ b; ⟨x, y⟩) (EvOk.lamRaw hT hcd hdef hf hall)
/-- a place in a text -/
noncomputable def Fit (c : List Int) (p i : Int) : Prop := c.length ≤ 64 ∧ (0 ≤ p ∧ p ≤ 64) ∧ p ≤ i ∧ i ≤ p + c.length
/-- a function that gives an edit, or raises -/
noncomputable def EditAt (S : St) (p : Int) (ed : List Int → Int → Option ((Int × Int × List Int) × Int)) (I : IM) (v : Value) : Prop :=
  (∃ f o fd, v = .ref f ∧ (I f = some o ∨ S.G.get? f = some o) ∧ o.data = .func fd) ∧ ∀ (d : Mut) (J : JM) c i, Fit c p i → CallS S d 16 J v I [isRow c p, isInt i, isInt 1] (outE (ed c i)) J
theorem EditAt.mono {S : St} {p : Int} {ed : List Int → Int → Option ((Int × Int × List Int) × Int)} {I I' : IM} {v : Value} (l : Le I I') (h : EditAt S p ed I v) : EditAt S p ed I' v :=
  ⟨let ⟨f, o, fd, a, b, c⟩ := h.1; ⟨f, o, fd, a, b.imp_left (l _ _), c⟩, fun d J c i q => ⟨fun l' => (h.2 d J c i q).run (l.trans l')⟩⟩
noncomputable def editV (S : St) (p : Int) (ed : List Int → Int → Option ((Int × Int × List Int) × Int)) : VP := ⟨EditAt S p ed, fun k h => h.mono k⟩
noncomputable def stepN (ed : List Int → Int → Option ((Int × Int × List Int) × Int)) (p : Int) : Nat → List Int → Int → Option (List Int × Int)
  | 0, c, i => some (c, i)
  | n + 1, c, i => match ed c i with
    | none => none
    | some e => stepN ed p n (applyE c p e).1 (applyE c p e).2
noncomputable def StepsOk (ed : List Int → Int → Option ((Int × Int × List Int) × Int)) (p : Int) : Nat → List Int → Int → Prop
  | 0, _, _ => True
  | n + 1, c, i => Fit c p i ∧ ∀ e, ed c i = some e → (p ≤ e.1.1 ∧ p ≤ e.1.2.1 ∧ e.1.2.2.length ≤ 256) ∧ StepsOk ed p n (applyE c p e).1 (applyE c p e).2
noncomputable def anyO : OP := ⟨fun _ _ => True, fun _ h => h⟩
noncomputable def looseJ (J : JM) (cs : List Addr) : JM := fun b => open Classical in if b ∈ cs then anyO else J b
theorem EvOk.editCall {x : Str} {ed : List Int → Int → Option ((Int × Int × List Int) × Int)} (hn : EvOk S d σ (k + 16) J (.Name x np) ρ (.val (editV S p ed))) (hs : PlainArgs es) (ha : ArgsOk S d σ (k + 16) J es ρ [isRow codes p, isInt i, isInt 1]) (h1 : Fit codes p i) : EvOk S d σ (k + 16) J (.Call (.Name x np) es [] pos) ρ (outE (ed codes i)) :=
  EvOk.callLoc (o := fun _ _ => True) hn hs ha fun I v hv => ⟨hv.1, CallV.le (Nat.le_add_left 16 k) (CallS.run (hv.2 d J codes i h1))⟩
theorem loose_upd {c b : Addr} {O : OP} {I : IM} {o : Obj} (hj : (upd J c O b).p I o) : (looseJ J [c] b).p I o := by
  unfold looseJ
  by_cases q : b = c
  · rw [if_pos (by simp [q])]; trivial
  · rw [if_neg (by simp [q])]
    rw [upd_off q] at hj; exact hj
theorem loose_pin {c b It : Addr} {O : OP} {I : IM} {o oI : Obj} (hj : (pin (upd J c O) It oI b).p I o) : (pin (looseJ J [c]) It oI b).p I o := by
  by_cases q : b = It
  · subst q
    rw [pin_at] at hj ⊢; exact hj
  · rw [pin_off q] at hj ⊢
    exact loose_upd hj
noncomputable abbrev st__law_stepped : Stmt := topS 54
theorem D__law_stepped : DefIs 435 (fdO st__law_stepped (u "_law_stepped") .none (.str (u "law_pq0280_01") 756) (.ref 434)) (sigO st__law_stepped (u "_law_stepped") (.ref 434)) (bodyOf st__law_stepped) := defIs_of (fun _ => by kernel_rfl!) (by kernel_rfl!) (fun _ => by kernel_rfl!)
theorem c__law_stepped {ed : List Int → Int → Option ((Int × Int × List Int) × Int)} (h0 : 0 ≤ n ∧ n ≤ 64) (hg : StepsOk ed p n.toNat codes i) : CallOk S d (k + 19) J 435 [isList codes, isInt p, isInt i, isInt n, editV S p ed] (.val (resP (stepN ed p n.toNat codes i))) J := by
  refine CallOk.defO (xs := [u "_law_codes", u "_law_first", u "_law_place", u "_law_many", u "_law_edit_of"]) (DPs := []) (dvs := []) (os := [(u "_law_place", cellO (isInt i))]) (P' := fun _ => resP (stepN ed p n.toNat codes i)) (J' := looseJ J) D__law_stepped (fun vs hl => ?_) (fun _ => by kernel_rfl!) (by decide) (fun _ => .nil) (fun _ => by kernel_rfl!) (by show [u "_law_place"].Nodup; decide) (fun y O h => ?_) (fun cs hl hn hd => ?_) (fun cs l I' h' v hl hn hd ok hv => ?_)
  · obtain ⟨v0, v1, v2, v3, v4, rfl⟩ := len5 hl
    rfl
  · simp only [List.mem_singleton, Prod.mk.injEq] at h
    obtain ⟨rfl, rfl⟩ := h
    exact .inl ⟨isInt i, (by show List.lookup (u "_law_place") [(u "_law_codes", isList codes), (u "_law_first", isInt p), (u "_law_place", isInt i), (u "_law_many", isInt n), (u "_law_edit_of", editV S p ed)] = _; walk_at "lk"), rfl⟩
  · match cs, hl with
    | [c], _ =>
    have hdc : ¬ d c := hd c (.head _)
    show Blk S (plus d c) { sigO st__law_stepped (u "_law_stepped") (.ref 434) with own := [(u "_law_place", c)] } (k + 18) (upd J c (cellO (isInt i))) _ [(u "_law_codes", isList codes), (u "_law_first", isInt p), (u "_law_place", isInt i), (u "_law_many", isInt n), (u "_law_edit_of", editV S p ed)] _ _
    refine Blk.forB (its := (List.range (n - 0).toNat).map fun (i : Nat) => isInt (0 + i)) ?_ (fun _ _ => rfl) ?_
    · walk_at "ev"
    suffices H : ∀ (m : Nat) (its : List VP) (codes : List Int) (i : Int) {ρ : Rho}, its.length = m → StepsOk ed p m codes i → ρ.lookup (u "_law_codes") = some (isList codes) → ρ.lookup (u "_law_first") = some (isInt p) → ρ.lookup (u "_law_place") = some (isInt i) → ρ.lookup (u "_law_edit_of") = some (editV S p ed) → ForB S (plus d c) _ (k + 18) _ _ _ (.ret (resP (stepN ed p m codes i))) (looseJ J [c]) (upd J c (cellO (isInt i))) ρ its from H _ _ codes i (by simp) hg (by walk_at "lk") (by walk_at "lk") (by walk_at "lk") (by walk_at "lk")
    intro m
    induction m with
    | zero =>
      intro its codes i ρ hl _ l1 l2 l3 l4
      cases List.length_eq_zero_iff.mp hl
      refine ForB.done (Blk.weak (J' := upd J c (cellO (isInt i))) ?_ rfl fun b I o hb hj => loose_upd hj)
      walk_at "ret"
      rfl
    | succ m ih =>
      intro its codes i ρ hl hg l1 l2 l3 l4
      match its, hl with
      | P :: its, hl =>
      obtain ⟨hfit, hst⟩ := hg
      unfold stepN
      cases he : ed codes i with
      | none =>
        refine ForB.leave rfl (TgtOk.name (by kernel_rfl!)) fun It oI hI _ => ?_
        refine Blk.assign (P := isNone) (e_done0 (codes := codes) (p := p) (by kernel_rfl!) (fun _ => rfl) (ArgsOk.cons (by walk_at "ev") (ArgsOk.cons (by walk_at "ev") (ArgsOk.cons ?_ ArgsOk.nil (fun _ => rfl)) (fun _ => rfl)) (fun _ => rfl)) hfit.1) (by kernel_rfl!) (fun _ => rfl) ?_
        · refine EvOk.lam (xs := [u "_law_view"]) (cA := 434) (tA := 430) (ρ₁ := [(u "_law_place", isInt i), (u "_law_edit_of", editV S p ed)]) ?_ rfl (fun _ => rfl) ?_ (by kernel_rfl!) (fun _ _ _ _ vs hl => by obtain ⟨v, rfl⟩ := len1 hl; rfl) (by kernel_rfl!) (by decide) (by kernel_rfl!) (by kernel_rfl!) (fun cd => ?_)
          · show (u "_law_stepped", 434, 430) ∈ tabsL; decide +kernel
          · refine FreeOk.cons ?_ ?_ ?_
            · walk_at "lk"
            · kernel_rfl!
            · refine FreeOk.cons ?_ ?_ ?_
              · walk_at "lk"
              · kernel_rfl!
              · exact FreeOk.nil
          · show EvOk S _ _ (k + 16) _ _ [(u "_law_view", isRow codes p), (u "_law_place", isInt i), (u "_law_edit_of", editV S p ed)] (outE none)
            rw [← he]
            exact EvOk.editCall (by walk_at "ev") (fun _ => rfl) (by walk_at "args") hfit
        · walk_at "if1"
          · rfl
          · refine Blk.weak (J' := pin (upd J c (cellO (isInt i))) It oI) ?_ rfl fun b I o _ hj => loose_pin hj
            walk_at "ret"
            rfl
      | some e =>
        obtain ⟨hb, hst⟩ := hst e he
        refine ForB.turn (J₁ := upd J c (cellO (isInt (applyE codes p e).2))) (ρ₁ := (u "_law_place", isInt (applyE codes p e).2) :: (u "_law_codes", isList (applyE codes p e).1) :: (u "_law_found", isTup [isList (applyE codes p e).1, isInt (applyE codes p e).2]) :: (u "_law_turn", P) :: ρ) (TgtOk.name (by kernel_rfl!)) (fun It oI hI _ => ?_) (ih its _ _ (by simpa using hl) hst (by walk_at "lk") (by walk_at "lk") (by walk_at "lk") (by walk_at "lk"))
        have hne : c ≠ It := fun q => hI (.inr q.symm)
        refine Blk.assign (P := isTup [isList (applyE codes p e).1, isInt (applyE codes p e).2]) (e_done1 (e := e) (codes := codes) (p := p) (by kernel_rfl!) (fun _ => rfl) (ArgsOk.cons (by walk_at "ev") (ArgsOk.cons (by walk_at "ev") (ArgsOk.cons ?_ ArgsOk.nil (fun _ => rfl)) (fun _ => rfl)) (fun _ => rfl)) hfit.1 hb) (by kernel_rfl!) (fun _ => rfl) ?_
        · refine EvOk.lam (xs := [u "_law_view"]) (cA := 434) (tA := 430) (ρ₁ := [(u "_law_place", isInt i), (u "_law_edit_of", editV S p ed)]) ?_ rfl (fun _ => rfl) ?_ (by kernel_rfl!) (fun _ _ _ _ vs hl => by obtain ⟨v, rfl⟩ := len1 hl; rfl) (by kernel_rfl!) (by decide) (by kernel_rfl!) (by kernel_rfl!) (fun cd => ?_)
          · show (u "_law_stepped", 434, 430) ∈ tabsL; decide +kernel
          · refine FreeOk.cons ?_ ?_ ?_
            · walk_at "lk"
            · kernel_rfl!
            · refine FreeOk.cons ?_ ?_ ?_
              · walk_at "lk"
              · kernel_rfl!
              · exact FreeOk.nil
          · show EvOk S _ _ (k + 16) _ _ [(u "_law_view", isRow codes p), (u "_law_place", isInt i), (u "_law_edit_of", editV S p ed)] (outE (some e))
            rw [← he]
            exact EvOk.editCall (by walk_at "ev") (fun _ => rfl) (by walk_at "args") hfit
        · walk_at "if0"
          · rfl
          · exact Blk.nil
          · refine Blk.unpackC (c := c) (by walk_at "ev") (by kernel_rfl!) ⟨by kernel_rfl!, by kernel_rfl!, .inl (.inr rfl), fun I o h => ?_⟩ (fun _ => rfl) (fun _ => rfl) ?_
            · rw [pin_off hne, upd_at] at h
              obtain ⟨v, hv, _⟩ := h
              exact ⟨_, hv⟩
            · dsimp only [pin]
              rw [upd_comm (Ne.symm hne), upd_upd]
              exact Blk.nil
  · refine ⟨I', Le.refl _, ok.less' (fun b hb => plusL_in.mpr (.inl hb)) (fun b hb => ?_), hv⟩
    unfold looseJ
    rw [if_neg fun q => hd b q hb]
variable {ed : List Int → Int → Option ((Int × Int × List Int) × Int)}
theorem e__law_stepped {es : List Expr} {np pos : Pos} {ρ : Rho} {σ : Sig} (hk : σ.scope.names.lookup (u "_law_stepped") = some .globalImplicit) (hs : PlainArgs es) (ha : ArgsOk S d σ (k + 19) J es ρ [isList codes, isInt p, isInt i, isInt n, editV S p ed]) (h0 : 0 ≤ n ∧ n ≤ 64) (hg : StepsOk ed p n.toNat codes i) : EvOk S d σ (k + 19) J (.Call (.Name (u "_law_stepped") np) es [] pos) ρ (.val (resP (stepN ed p n.toNat codes i))) :=
  EvOk.callF D__law_stepped.d (c__law_stepped h0 hg) hk (fun _ => by kernel_rfl!) (by kernel_rfl!) hs ha
end
local macro_rules | `(tactic| walk_at "ev") => `(tactic| ((with_reducible apply e__law_stepped); walk_at "K"; walk_at "R"; walk_at "A"; walk_at "D"; walk_at "D"))
section
variable {S : St} {d : Mut} {k k' : Nat} {J : JM} {a rb : Addr} {ρ ρ₁ : Rho} {σ : Sig} {e₁ e₂ o body : Expr} {pos np apos pp sp : Pos} {es : List Expr} {codes xs : List Int} {p i n y : Int} {e : (Int × Int × List Int) × Int} {r : Out}
variable {ed : List Int → Int → Option ((Int × Int × List Int) × Int)}
end
section
variable {S : St} {d : Mut} {k k' : Nat} {J : JM} {a rb : Addr} {ρ ρ₁ : Rho} {σ : Sig} {e₁ e₂ o body : Expr} {pos np apos pp sp : Pos} {es : List Expr} {codes xs : List Int} {p i n y : Int} {e : (Int × Int × List Int) × Int} {r : Out} {wd : Int → Bool}
/-- the mover over words -/
noncomputable def wordsV (S : St) (wd : Int → Bool) : VP := ⟨fun I v => ∀ codes p, codes.length ≤ 2 ^ 16 → Alpha stdSp wd codes → MoverAt S codes p (fun i n => some (wordBy codes p wd i n).1) I v, fun k h codes p a b => (h codes p a b).mono k⟩
theorem e_standard_table {es : List Expr} {np pos : Pos} {ρ : Rho} {σ : Sig} (hk : σ.scope.names.lookup (u "standard_table") = some .globalImplicit) (hs : PlainArgs es) (ha : ArgsOk S d σ (k + 5) J es ρ [])  : EvOk S d σ (k + 5) J (.Call (.Name (u "standard_table") np) es [] pos) ρ (.val (isTable S stdSp)) :=
  EvOk.callF D_standard_table.d (c_standard_table ) hk (fun _ => by kernel_rfl!) (by kernel_rfl!) hs ha
end
local macro_rules | `(tactic| walk_at "ev") => `(tactic| ((with_reducible apply e_standard_table); walk_at "K"; walk_at "R"; walk_at "A"))
section
variable {S : St} {d : Mut} {k k' : Nat} {J : JM} {a rb : Addr} {ρ ρ₁ : Rho} {σ : Sig} {e₁ e₂ o body : Expr} {pos np apos pp sp : Pos} {es : List Expr} {codes xs : List Int} {p i n y : Int} {e : (Int × Int × List Int) × Int} {r : Out} {wd : Int → Bool}
noncomputable abbrev st__law_mover_of : Stmt := topS 55
theorem D__law_mover_of : DefIs 442 (fdO st__law_mover_of (u "_law_mover_of") .none (.str (u "law_pq0280_01") 756) (.ref 441)) (sigO st__law_mover_of (u "_law_mover_of") (.ref 441)) (bodyOf st__law_mover_of) := defIs_of (fun _ => by kernel_rfl!) (by kernel_rfl!) (fun _ => by kernel_rfl!)
noncomputable def lamOf (st : Stmt) : Arguments × Expr × Scope := match bodyOf st with
  | [_, .Return (some (.Lambda a b s _)) _] => (a, b, s)
  | _ => default
theorem c__law_mover_of : CallOk S d (k + 6) J 442 [] (.val (wordsV S wd)) J := by
  refine CallOk.defO (xs := []) (Ps := []) (DPs := []) (dvs := []) (os := [(u "_law_table", emptyO)]) (P' := fun cs => lamV (plusL d cs) (updL J (cs.map fun c => (c, cellO (isTable S stdSp)))) ([u "_law_table"].zip cs) [(u "_law_table", isTable S stdSp)] (lamQ (u "_law_mover_of")) (lamOf st__law_mover_of).1 (lamOf st__law_mover_of).2.1 (lamOf st__law_mover_of).2.2) (J' := fun cs => updL J (cs.map fun c => (c, cellO (isTable S stdSp)))) D__law_mover_of (fun vs hl => ?_) (fun _ => by kernel_rfl!) (by decide) (fun _ => .nil) (fun _ => by kernel_rfl!) (by show [u "_law_table"].Nodup; decide) (fun y O h => ?_) (fun cs hl hn hd => ?_) (fun cs l I' h' v hl hn hd ok hv => ?_)
  · obtain rfl := len0 hl
    rfl
  · simp only [List.mem_singleton, Prod.mk.injEq] at h
    obtain ⟨rfl, rfl⟩ := h
    exact .inr ⟨by simp, rfl⟩
  · match cs, hl with
    | [c], _ =>
    have hdc : ¬ d c := hd c (.head _)
    show Blk S (plus d c) { sigO st__law_mover_of (u "_law_mover_of") (.ref 441) with own := [(u "_law_table", c)] } (k + 5) (upd J c emptyO) _ [] _ (upd J c (cellO (isTable S stdSp)))
    refine Blk.assignC (c := c) (P := isTable S stdSp) (by walk_at "ev") ⟨by kernel_rfl!, by kernel_rfl!, .inr rfl, fun I o h => ?_⟩ (fun _ => rfl) ?_
    · rw [upd_at] at h
      exact ⟨_, h⟩
    · rw [upd_upd]
      refine Blk.ret (P := lamV _ _ _ _ _ _ _ _) (EvOk.lamRaw (cA := 441) (tA := 437) ?_ rfl (fun _ => rfl) ?_ (by kernel_rfl!))
      · show (u "_law_mover_of", 441, 437) ∈ tabsL; decide +kernel
      · refine FreeOk.cons ?_ ?_ FreeOk.nil
        · walk_at "lk"
        · kernel_rfl!
  · match cs, hl with
    | [c], _ =>
    replace ok : Ok S (plus d c) I' (upd J c (cellO (isTable S stdSp))) l h' := ok
    obtain ⟨o, ho, hj⟩ := ok.dk c (.inr rfl)
    rw [upd_at] at hj
    have hdc : ¬ d c := hd c (.head _)
    have okd : Ok S d I' J l h' := ok.less' (fun b hb => .inl hb) (fun b hb => upd_off (dx := c) fun q => hdc (q ▸ hb))
    have hi := ok.dI c (.inr rfl)
    refine ⟨I'.put c o, Le.put hi, okd.put hi ho hdc (ok.dT c (.inr rfl)) (fun env he q => ?_), ?_⟩
    · obtain ⟨_, L', _, _, _, hL', _, z, _⟩ := ok.fr env he
      rw [hL'] at q
      exact z (.inr (Option.some.inj q))
    · obtain ⟨cl, raw, _, own⟩ := hv
      have hcl := own (u "_law_table") c (by show List.lookup (u "_law_table") [(u "_law_table", c)] = _; walk_at "lk") (by kernel_rfl!)
      obtain ⟨v', hv', ht⟩ := hj
      have key : ∀ (d₂ : Mut) (J₂ : JM), (lamV d₂ J₂ [] [(u "_law_table", isTable S stdSp)] (lamQ (u "_law_mover_of")) (lamOf st__law_mover_of).1 (lamOf st__law_mover_of).2.1 (lamOf st__law_mover_of).2.2).p (I'.put c o) v := fun d₂ J₂ =>
        ⟨cl, raw.mono (Le.put hi), (fun x P e => by
          rw [List.lookup_cons] at e
          split at e
          · rename_i hx
            cases e
            have hx : x = u "_law_table" := by simpa using hx
            exact ⟨c, hx ▸ hcl, .inl ⟨o, v', IM.put_self _ _ _, hv', (isTable S stdSp).mono (Le.put hi) ht⟩⟩
          · cases e), fun x c e _ => by cases e⟩
      intro codes p hz hA
      have call : ∀ (d₂ : Mut) (J₂ : JM) (i n : Int), p ≤ i → i ≤ p + codes.length → _ := fun d₂ J₂ i n h1 h2 =>
        lam_call (S := S) (k := 11) (xs := [u "_law_view", u "_law_at", u "_law_many"]) (Ps := [isRow codes p, isInt i, isInt n]) (r := .val (isInt (wordBy codes p wd i n).1)) (key d₂ J₂) (fun _ _ _ _ vs hl => by obtain ⟨v0, v1, v2, rfl⟩ := len3 hl; rfl) (by kernel_rfl!) (by decide) (by kernel_rfl!) (by kernel_rfl!) (fun cd => by
          show EvOk S d₂ _ 11 J₂ (.Subscript (.Call (.Name _ _) [.Name _ _, .Name _ _, .Name _ _, .Name _ _] [] _) (.Constant _ _ _) _) [(u "_law_view", isRow codes p), (u "_law_at", isInt i), (u "_law_many", isInt n), (u "_law_table", isTable S stdSp)] _
          have hz' := hz
          walk_at "ev")
      exact ⟨(call d J p 0 (Int.le_refl _) (by lia)).1, fun d₂ J₂ i n h1 h2 _ _ => ⟨(call d₂ J₂ i n h1 h2).2⟩⟩
end
theorem codeAt_at {A B : List Int} {x : Int} {p i : Int} (hi : i = p + A.length) : codeAt (A ++ x :: B) p i = x := by
  subst hi
  unfold codeAt
  rw [if_pos (by simp; lia)]
  have : (p + (A.length : Int) - p).toNat = A.length := by lia
  rw [this]
  simp
theorem between_mid {A X B : List Int} {p a b : Int} (ha : a = p + A.length) (hb : b = a + X.length) : between (A ++ X ++ B) p a b = X := by
  unfold between
  subst ha hb
  have e : (p + (A.length : Int) + X.length - (p + A.length)).toNat = X.length := by lia
  rw [e]
  apply List.ext_getElem
  · simp
  · intro n h1 h2
    simp only [List.getElem_map, List.getElem_range]
    have h2 : n < X.length := h2
    unfold codeAt
    rw [if_pos (by simp; lia)]
    have : (p + (A.length : Int) + (n : Int) - p).toNat = A.length + n := by lia
    rw [this, List.getD_eq_getElem?_getD, List.append_assoc, List.getElem?_append_right (by lia)]
    simp [List.getElem?_append_left h2, List.getElem?_eq_getElem h2]
theorem between_nil {codes : List Int} {p a b : Int} (h : b ≤ a) : between codes p a b = [] := by
  unfold between
  have : (b - a).toNat = 0 := by lia
  rw [this]; rfl
/-- two stretches exchanged -/
theorem regions_swap {A X M Y C : List Int} {p : Int} {one other : Int × Int} (h1 : one.1 = p + A.length) (h2 : one.2 = one.1 + X.length) (h3 : other.1 = one.2 + M.length) (h4 : other.2 = other.1 + Y.length) :
    regionsEdit (A ++ X ++ M ++ Y ++ C) p one other = some (one.1, other.2, Y ++ M ++ X) := by
  obtain ⟨a, b⟩ := one
  obtain ⟨c, e⟩ := other
  dsimp only at h1 h2 h3 h4 ⊢
  unfold regionsEdit inOrder
  dsimp only
  rw [if_pos (by lia), if_neg (by lia)]
  simp only [Option.map_some, Option.some.injEq, Prod.mk.injEq, true_and]
  rw [between_mid (A := A ++ X ++ M) (X := Y) (B := C) (by simp; lia) (by lia)]
  rw [show A ++ X ++ M ++ Y ++ C = (A ++ X) ++ M ++ (Y ++ C) by simp, between_mid (A := A ++ X) (X := M) (by simp; lia) (by lia)]
  rw [show (A ++ X) ++ M ++ (Y ++ C) = A ++ X ++ (M ++ (Y ++ C)) by simp, between_mid (A := A) (X := X) (by lia) (by lia)]
/-- the same, told the other way around -/
theorem regions_swap' {A X M Y C : List Int} {p : Int} {one other : Int × Int} (h1 : one.1 = p + A.length) (h2 : one.2 = one.1 + X.length) (h3 : other.1 = one.2 + M.length) (h4 : other.2 = other.1 + Y.length) (hne : one.1 < other.1) :
    regionsEdit (A ++ X ++ M ++ Y ++ C) p other one = some (one.1, other.2, Y ++ M ++ X) := by
  obtain ⟨a, b⟩ := one
  obtain ⟨c, e⟩ := other
  dsimp only at h1 h2 h3 h4 hne ⊢
  unfold regionsEdit inOrder
  dsimp only
  rw [if_neg (by lia), if_neg (by lia)]
  simp only [Option.map_some, Option.some.injEq, Prod.mk.injEq, true_and]
  rw [between_mid (A := A ++ X ++ M) (X := Y) (B := C) (by simp; lia) (by lia)]
  rw [show A ++ X ++ M ++ Y ++ C = (A ++ X) ++ M ++ (Y ++ C) by simp, between_mid (A := A ++ X) (X := M) (by simp; lia) (by lia)]
  rw [show (A ++ X) ++ M ++ (Y ++ C) = A ++ X ++ (M ++ (Y ++ C)) by simp, between_mid (A := A) (X := X) (by lia) (by lia)]
theorem apply_mid {A Z C N : List Int} {p : Int} {e : (Int × Int × List Int) × Int} (h1 : e.1.1 = p + A.length) (h2 : e.1.2.1 = e.1.1 + Z.length) (h3 : e.1.2.2 = N) : applyE (A ++ Z ++ C) p e = (A ++ N ++ C, e.2) := by
  unfold applyE
  rw [h3]
  have e1 : (e.1.1 - p).toNat = A.length := by lia
  have e2 : (e.1.2.1 - p).toNat = (A ++ Z).length := by simp; lia
  rw [e1, e2]
  congr 1
  rw [List.drop_left, List.append_assoc A Z C, List.take_left]
noncomputable def Bnd (p : Int) (e : (Int × Int × List Int) × Int) : Prop := p ≤ e.1.1 ∧ p ≤ e.1.2.1 ∧ e.1.2.2.length ≤ 256
theorem byChars_some {codes : List Int} {p i n : Int} (h1 : p ≤ i + n) (h2 : i + n ≤ p + codes.length) : byChars codes p i n = some (i + n) := by
  unfold byChars; rw [if_neg (by lia), if_neg (by lia)]
theorem around_chars {codes : List Int} {p i n : Int} (h1 : p ≤ i + n) (h2 : i + n ≤ p + codes.length) (h3 : p ≤ i) (h4 : i ≤ p + codes.length) : unitAround (byChars codes p) i n = some ((min (i + n) i, max (i + n) i), i) := by
  have e : i + n + (0 - n) = i := by lia
  unfold unitAround
  rw [byChars_some h1 h2]
  simp only [Option.bind_some]
  rw [byChars_some (by rw [e]; exact h3) (by rw [e]; exact h4), e]
  rfl
theorem around_one {codes : List Int} {p i : Int} (h1 : p ≤ i - 1) (h4 : i ≤ p + codes.length) : unitAround (byChars codes p) i (-1) = some ((i - 1, i), i) := by
  rw [around_chars (by lia) (by lia) (by lia) h4, show min (i + -1) i = i - 1 by lia, show max (i + -1) i = i by lia]
/-- a character taken over those behind it -/
theorem chars_on {A B C : List Int} {x : Int} {p i n : Int} (hi : i = p + A.length + 1) (hn : n = B.length) (h0 : 0 < n) :
    charsEdit (A ++ x :: (B ++ C)) p i n = some ((i - 1, i + n, B ++ [x]), i + n) := by
  have hl : ((A ++ x :: (B ++ C)).length : Int) = A.length + 1 + B.length + C.length := by simp; lia
  have u1 := around_one (codes := A ++ x :: (B ++ C)) (p := p) (i := i) (by lia) (by lia)
  have u2 := around_chars (codes := A ++ x :: (B ++ C)) (p := p) (i := i) (n := n) (by lia) (by lia) (by lia) (by lia)
  rw [show min (i + n) i = i by lia, show max (i + n) i = i + n by lia] at u2
  clear hl
  unfold charsEdit unitsEdit unitsRegions
  rw [u1]
  simp only [Option.bind_some]
  rw [if_pos h0, u2]
  simp only [Option.map_some, Option.bind_some]
  have := regions_swap (A := A) (X := [x]) (M := []) (Y := B) (C := C) (p := p) (one := (i - 1, i)) (other := (i, i + n)) (by simp; lia) (by simp) (by simp) (by simp; lia)
  simp only [List.append_nil, List.append_assoc, List.singleton_append, List.cons_append, List.nil_append] at this
  rw [this]
  simp
/-- and back -/
theorem chars_back {A B C : List Int} {x : Int} {p i n : Int} (hi : i = p + A.length + B.length + 1) (hn : n = B.length) (h0 : 0 < n) :
    charsEdit (A ++ (B ++ x :: C)) p i (0 - n) = some ((i - 1 - n, i, x :: B), i - n) := by
  have hl : ((A ++ (B ++ x :: C)).length : Int) = A.length + 1 + B.length + C.length := by simp; lia
  have u1 := around_one (codes := A ++ (B ++ x :: C)) (p := p) (i := i) (by lia) (by lia)
  have u2 := around_chars (codes := A ++ (B ++ x :: C)) (p := p) (i := i - 1) (n := 0 - n) (by lia) (by lia) (by lia) (by lia)
  rw [show min (i - 1 + (0 - n)) (i - 1) = i - 1 - n by lia, show max (i - 1 + (0 - n)) (i - 1) = i - 1 by lia] at u2
  clear hl
  unfold charsEdit unitsEdit unitsRegions
  rw [u1]
  simp only [Option.bind_some]
  rw [if_neg (by lia), u2]
  simp only [Option.map_some, Option.bind_some]
  have := regions_swap' (A := A) (X := B) (M := []) (Y := [x]) (C := C) (p := p) (one := (i - 1 - n, i - 1)) (other := (i - 1, i)) (by dsimp only; lia) (by dsimp only; lia) (by simp) (by simp) (by dsimp only; lia)
  simp only [List.append_nil, List.append_assoc, List.singleton_append, List.cons_append, List.nil_append] at this
  rw [this]
  simp only [Option.map_some]
  congr 2
  lia
/-- where it can be taken, it stands so -/
theorem chars_some {codes : List Int} {p i n : Int} {e : (Int × Int × List Int) × Int} (h1 : p ≤ i ∧ i ≤ p + codes.length) (h0 : 0 < n) (h : charsEdit codes p i n = some e) : ∃ A B C x, codes = A ++ x :: (B ++ C) ∧ i = p + A.length + 1 ∧ n = B.length := by
  by_cases c1 : i = p
  · exfalso
    unfold charsEdit unitsEdit unitsRegions unitAround byChars at h
    rw [if_neg (by lia), if_pos (by lia)] at h
    simp at h
  by_cases c2 : p + codes.length < i + n
  · exfalso
    have u1 := around_one (codes := codes) (p := p) (i := i) (by lia) (by lia)
    have b3 : byChars codes p i n = none := by unfold byChars; rw [if_pos c2]
    unfold charsEdit unitsEdit unitsRegions at h
    rw [u1] at h
    simp only [Option.bind_some] at h
    unfold unitAround at h
    rw [if_pos h0, b3] at h
    simp at h
  · obtain ⟨j, hj⟩ : ∃ j : Nat, i = p + j + 1 := ⟨(i - p - 1).toNat, by lia⟩
    have hjl : j < codes.length := by lia
    refine ⟨codes.take j, (codes.drop (j + 1)).take n.toNat, (codes.drop (j + 1)).drop n.toNat, codes[j], ?_, ?_, ?_⟩
    · rw [List.take_append_drop, ← List.drop_eq_getElem_cons hjl, List.take_append_drop]
    · rw [List.length_take]; lia
    · rw [List.length_take, List.length_drop]; lia
theorem stepN_some {ed : List Int → Int → Option ((Int × Int × List Int) × Int)} {c : List Int} {i p : Int} {e : (Int × Int × List Int) × Int} {n : Nat} (h : ed c i = some e) : stepN ed p (n + 1) c i = stepN ed p n (applyE c p e).1 (applyE c p e).2 := by
  show (match ed c i with | none => none | some e => stepN ed p n (applyE c p e).1 (applyE c p e).2) = _
  rw [h]
theorem stepsOk_some {ed : List Int → Int → Option ((Int × Int × List Int) × Int)} {c : List Int} {i p : Int} {e : (Int × Int × List Int) × Int} {n : Nat} (h : ed c i = some e) (f : Fit c p i) (b : Bnd p e) (s : StepsOk ed p n (applyE c p e).1 (applyE c p e).2) : StepsOk ed p (n + 1) c i := by
  refine ⟨f, fun e' he => ?_⟩
  rw [h] at he
  cases he
  exact ⟨b, s⟩
theorem chars_steps {C : List Int} {x : Int} {p : Int} (hp : 0 ≤ p ∧ p ≤ 64) : ∀ (B : List Int) {A : List Int} {i : Int}, i = p + A.length + 1 → (A ++ x :: (B ++ C)).length ≤ 64 →
    StepsOk (fun c i => charsEdit c p i 1) p B.length (A ++ x :: (B ++ C)) i ∧ stepN (fun c i => charsEdit c p i 1) p B.length (A ++ x :: (B ++ C)) i = some (A ++ B ++ x :: C, i + B.length)
  | [], A, i, hi, hz => by
    unfold StepsOk stepN
    exact ⟨trivial, by simp⟩
  | y :: B, A, i, hi, hz => by
    have on := chars_on (A := A) (B := [y]) (C := B ++ C) (x := x) (p := p) (i := i) (n := 1) hi rfl (by decide)
    simp only [List.singleton_append, List.cons_append, List.nil_append] at on
    have ap := apply_mid (A := A) (Z := [x, y]) (C := B ++ C) (N := [y, x]) (p := p) (e := ((i - 1, i + 1, [y, x]), i + 1)) (by dsimp only; lia) (by simp; lia) rfl
    have ih := chars_steps (C := C) (x := x) hp B (A := A ++ [y]) (i := i + 1) (by simp; lia) (by simp at hz ⊢; lia)
    simp only [List.append_assoc, List.singleton_append, List.cons_append, List.nil_append] at ap ih
    simp only [List.cons_append, List.length_cons]
    refine ⟨stepsOk_some on ⟨by simpa using hz, hp, by lia, by simp; lia⟩ ⟨by dsimp only; lia, by dsimp only; lia, by simp⟩ (by rw [ap]; exact ih.1), ?_⟩
    rw [stepN_some on, ap]
    dsimp only
    rw [ih.2]
    simp; lia
/-- the first law, of characters -/
theorem chars_law {codes : List Int} {p i n : Int} {e : (Int × Int × List Int) × Int} (hp : 0 ≤ p ∧ p ≤ 64) (hz : codes.length ≤ 64) (h1 : p ≤ i ∧ i ≤ p + codes.length) (h0 : 0 < n) (h : charsEdit codes p i n = some e) :
    Bnd p e ∧ StepsOk (fun c i => charsEdit c p i 1) p n.toNat codes i ∧ stepN (fun c i => charsEdit c p i 1) p n.toNat codes i = some (applyE codes p e) ∧ (applyE codes p e).2 = i + n ∧ Fit (applyE codes p e).1 p (applyE codes p e).2 ∧
      ∃ e', charsEdit (applyE codes p e).1 p (applyE codes p e).2 (0 - n) = some e' ∧ Bnd p e' ∧ applyE (applyE codes p e).1 p e' = (codes, i) := by
  obtain ⟨A, B, C, x, rfl, hi, hn⟩ := chars_some h1 h0 h
  have on := chars_on (A := A) (B := B) (C := C) (x := x) hi hn h0
  rw [on] at h
  cases h
  have ap := apply_mid (A := A) (Z := x :: B) (C := C) (N := B ++ [x]) (p := p) (e := ((i - 1, i + n, B ++ [x]), i + n)) (by dsimp only; lia) (by simp; lia) rfl
  simp only [List.append_assoc, List.singleton_append, List.cons_append, List.nil_append] at ap
  rw [ap]
  dsimp only
  have st := chars_steps (C := C) (x := x) hp B (A := A) (i := i) hi hz
  have en : n.toNat = B.length := by lia
  have bk := chars_back (A := A) (B := B) (C := C) (x := x) (p := p) (i := i + n) (n := n) (by lia) hn h0
  have ap' := apply_mid (A := A) (Z := B ++ [x]) (C := C) (N := x :: B) (p := p) (e := ((i + n - 1 - n, i + n, x :: B), i + n - n)) (by dsimp only; lia) (by simp; lia) rfl
  simp only [List.append_assoc, List.singleton_append, List.cons_append, List.nil_append] at ap' bk st
  have hl : ((A ++ x :: (B ++ C)).length : Int) = A.length + 1 + B.length + C.length := by simp; lia
  have hl' : ((A ++ (B ++ x :: C)).length : Int) = A.length + 1 + B.length + C.length := by simp; lia
  refine ⟨⟨by dsimp only; lia, by dsimp only; lia, by simp at hz ⊢; lia⟩, by rw [en]; exact st.1, by rw [en, st.2, hn], rfl, ⟨by lia, hp, by lia, by lia⟩, _, bk, ⟨by dsimp only; lia, by dsimp only; lia, by simp at hz ⊢; lia⟩, ?_⟩
  rw [ap']
  simp
section
variable {wd : Int → Bool}
noncomputable abbrev NW (wd : Int → Bool) (s : List Int) : Prop := ∀ c ∈ s, wd c = false
noncomputable abbrev AW (wd : Int → Bool) (s : List Int) : Prop := ∀ c ∈ s, wd c = true
/-- no word goes on here -/
noncomputable def Edge (wd : Int → Bool) (r : List Int) : Prop := ∀ c t, r = c :: t → wd c = false
theorem NW.edge {r t : List Int} (h : NW wd r) (hn : r ≠ []) : Edge wd (r ++ t) := fun c t' e => by
  cases r with
  | nil => exact absurd rfl hn
  | cons a r => cases e; exact h _ (.head _)
theorem Edge.nil : Edge wd [] := fun _ _ e => by cases e
noncomputable def adv (wd : Int → Bool) : Nat → List Int → Nat
  | 0, _ => 0
  | n + 1, l =>
    let s := (l.takeWhile fun c => wd c != true).length
    if l.length ≤ s then l.length else
      let w := ((l.drop s).takeWhile fun c => wd c != false).length
      s + w + adv wd n (l.drop (s + w))
theorem adv_succ (n : Nat) (l : List Int) : adv wd (n + 1) l = if l.length ≤ (l.takeWhile fun c => wd c != true).length then l.length else (l.takeWhile fun c => wd c != true).length + ((l.drop (l.takeWhile fun c => wd c != true).length).takeWhile fun c => wd c != false).length + adv wd n (l.drop ((l.takeWhile fun c => wd c != true).length + ((l.drop (l.takeWhile fun c => wd c != true).length).takeWhile fun c => wd c != false).length)) := rfl
theorem tw_all {f : Int → Bool} : ∀ {s r : List Int}, (∀ c ∈ s, f c = true) → (∀ c t, r = c :: t → f c = false) → (s ++ r).takeWhile f = s
  | [], r, _, hr => by
    cases r with
    | nil => rfl
    | cons c t => simp [List.takeWhile_cons, hr c t rfl]
  | a :: s, r, hs, hr => by
    rw [List.cons_append, List.takeWhile_cons, hs a (.head _)]
    simp only [if_true]
    rw [tw_all (fun c hc => hs c (.tail _ hc)) hr]
theorem adv_word {S w R : List Int} {n : Nat} (hS : NW wd S) (hw : AW wd w) (hn : w ≠ []) (hR : Edge wd R) : adv wd (n + 1) (S ++ w ++ R) = S.length + w.length + adv wd n R := by
  have e1 : (S ++ w ++ R).takeWhile (fun c => wd c != true) = S := by
    rw [List.append_assoc]
    refine tw_all (fun c hc => by rw [hS c hc]; rfl) fun c t e => ?_
    cases w with
    | nil => exact absurd rfl hn
    | cons a w => cases e; rw [hw _ (.head _)]; rfl
  have e2 : ((S ++ w ++ R).drop S.length).takeWhile (fun c => wd c != false) = w := by
    rw [List.append_assoc, List.drop_left]
    exact tw_all (fun c hc => by rw [hw c hc]; rfl) fun c t e => by rw [hR c t e]; rfl
  rw [adv_succ, e1, e2]
  have hl : w.length ≠ 0 := fun q => hn (List.length_eq_zero_iff.mp q)
  rw [if_neg (by simp; lia)]
  have : S.length + w.length = (S ++ w).length := by simp
  rw [this, List.drop_left]
theorem adv_none {l : List Int} {n : Nat} (h : NW wd l) : adv wd (n + 1) l = l.length := by
  have e1 : l.takeWhile (fun c => wd c != true) = l := by
    have := tw_all (f := fun c => wd c != true) (s := l) (r := []) (fun c hc => by rw [h c hc]; rfl) (fun _ _ e => by cases e)
    simpa using this
  rw [adv_succ, e1, if_pos (Nat.le_refl _)]
theorem tw_split (f : Int → Bool) : ∀ l : List Int, ∃ s r, l = s ++ r ∧ (∀ c ∈ s, f c = true) ∧ ∀ c t, r = c :: t → f c = false
  | [] => ⟨[], [], rfl, fun _ h => (by cases h), fun _ _ e => (by cases e)⟩
  | a :: l => by
    by_cases h : f a = true
    · obtain ⟨s, r, e, h1, h2⟩ := tw_split f l
      refine ⟨a :: s, r, by rw [e]; rfl, fun c hc => ?_, h2⟩
      rcases List.mem_cons.mp hc with rfl | hc
      · exact h
      · exact h1 c hc
    · exact ⟨[], a :: l, rfl, fun _ h => (by cases h), fun c t e => by cases e; simpa using h⟩
/-- a text is blanks, or blanks and a word and more -/
theorem first_word (l : List Int) : NW wd l ∨ ∃ S w R, l = S ++ w ++ R ∧ NW wd S ∧ AW wd w ∧ w ≠ [] ∧ Edge wd R := by
  obtain ⟨S, r, e, hS, hr⟩ := tw_split (fun c => !wd c) l
  have hS' : NW wd S := fun c hc => by simpa using hS c hc
  cases r with
  | nil => exact .inl (by rw [e, List.append_nil]; exact hS')
  | cons a r =>
    have ha : wd a = true := by simpa using hr a r rfl
    obtain ⟨w, R, e2, hw, hR⟩ := tw_split wd (a :: r)
    refine .inr ⟨S, w, R, by rw [e, e2, List.append_assoc], hS', hw, fun q => ?_, hR⟩
    subst q
    have := hR a r (by rw [e2]; rfl)
    rw [ha] at this; cases this
theorem adv_le : ∀ (n : Nat) (l : List Int), adv wd n l ≤ adv wd (n + 1) l
  | 0, l => Nat.zero_le _
  | n + 1, l => by
    rcases first_word (wd := wd) l with h | ⟨S, w, R, rfl, hS, hw, hn, hR⟩
    · rw [adv_none h, adv_none h]; exact Nat.le_refl _
    · rw [adv_word hS hw hn hR, adv_word hS hw hn hR]
      have := adv_le n R
      lia
theorem adv_mono {m n : Nat} (h : m ≤ n) (l : List Int) : adv wd m l ≤ adv wd n l := by
  induction h with
  | refl => exact Nat.le_refl _
  | step _ ih => exact Nat.le_trans ih (adv_le _ l)
/-- so many words, and what stands between them -/
inductive Wds (wd : Int → Bool) : Nat → List Int → Prop
  | one {w : List Int} : w ≠ [] → AW wd w → Wds wd 1 w
  | more {w s X : List Int} {n : Nat} : w ≠ [] → AW wd w → s ≠ [] → NW wd s → Wds wd n X → Wds wd (n + 1) (w ++ s ++ X)
theorem Wds.snoc {w s X : List Int} {n : Nat} (hw : w ≠ []) (aw : AW wd w) (hs : s ≠ []) (ns : NW wd s) (h : Wds wd n X) : Wds wd (n + 1) (X ++ s ++ w) := by
  induction h with
  | one h a => exact .more h a hs ns (.one hw aw)
  | more h a h' a' _ ih => rw [List.append_assoc, List.append_assoc, ← List.append_assoc _ s w]; exact .more h a h' a' ih
theorem Wds.rev {X : List Int} {n : Nat} (h : Wds wd n X) : Wds wd n X.reverse := by
  induction h with
  | one h a => exact .one (by simpa using h) fun c hc => a c (List.mem_reverse.mp hc)
  | more h a h' a' _ ih =>
    rw [List.reverse_append, List.reverse_append, ← List.append_assoc]
    exact .snoc (by simpa using h) (fun c hc => a c (List.mem_reverse.mp hc)) (by simpa using h') (fun c hc => a' c (List.mem_reverse.mp hc)) ih
theorem Wds.ne {X : List Int} {n : Nat} (h : Wds wd n X) : ∃ c t, X = c :: t ∧ wd c = true := by
  cases h with
  | one h a =>
    cases X with
    | nil => exact absurd rfl h
    | cons c t => exact ⟨c, t, rfl, a _ (.head _)⟩
  | @more w s X n h a _ _ _ =>
    cases w with
    | nil => exact absurd rfl h
    | cons c t => exact ⟨c, _, rfl, a _ (.head _)⟩
theorem Wds.adv {X : List Int} {n : Nat} (h : Wds wd n X) : ∀ {S R : List Int}, NW wd S → Edge wd R → adv wd n (S ++ X ++ R) = S.length + X.length := by
  induction h with
  | one h a => intro S R hS hR; rw [adv_word hS a h hR]; rfl
  | @more w s X n h a h' a' _ ih =>
    intro S R hS hR
    have e : S ++ (w ++ s ++ X) ++ R = S ++ w ++ (s ++ X ++ R) := by simp
    rw [e, adv_word hS a h (by rw [List.append_assoc]; exact NW.edge a' h'), ih a' hR]
    simp; lia
theorem Wds.pos {X : List Int} {n : Nat} (h : Wds wd n X) : 0 < n := by cases h <;> lia
theorem edge_blank {S X R : List Int} {n : Nat} (h : Wds wd n X) (hE : Edge wd (S ++ X ++ R)) : S ≠ [] := fun q => by
  obtain ⟨c, t, e, hc⟩ := h.ne
  subst q e
  have := hE c (t ++ R) rfl
  rw [hc] at this; cases this
/-- n + 1 words ahead, or fewer -/
theorem words_ahead : ∀ (n : Nat) (l : List Int), (∃ S X R, l = S ++ X ++ R ∧ NW wd S ∧ Wds wd (n + 1) X ∧ Edge wd R) ∨ (adv wd (n + 1) l = l.length ∧ (NW wd l ∨ ∃ m S X R, m ≤ n ∧ l = S ++ X ++ R ∧ NW wd S ∧ Wds wd m X ∧ NW wd R))
  | 0, l => by
    rcases first_word (wd := wd) l with h | ⟨S, w, R, rfl, hS, hw, hn, hR⟩
    · exact .inr ⟨adv_none h, .inl h⟩
    · exact .inl ⟨S, w, R, rfl, hS, .one hn hw, hR⟩
  | n + 1, l => by
    rcases first_word (wd := wd) l with h | ⟨S, w, R, rfl, hS, hw, hn, hR⟩
    · exact .inr ⟨adv_none h, .inl h⟩
    · rcases words_ahead n R with ⟨S', X, R', rfl, hS', hX, hR'⟩ | ⟨ha, hf⟩
      · refine .inl ⟨S, w ++ S' ++ X, R', by simp, hS, .more hn hw (edge_blank hX hR) hS' hX, hR'⟩
      · refine .inr ⟨by rw [adv_word hS hw hn hR, ha]; simp; lia, .inr ?_⟩
        rcases hf with hf | ⟨m, S', X, R', hm, rfl, hS', hX, hR'⟩
        · exact ⟨1, S, w, R, by lia, rfl, hS, .one hn hw, hf⟩
        · exact ⟨m + 1, S, w ++ S' ++ X, R', by lia, by simp, hS, .more hn hw (edge_blank hX hR) hS' hX, hR'⟩
-- what the code computes
theorem skF_at {p : Int} {neg : Bool} : ∀ (B : List Int) {A : List Int} {a : Int}, a = p + A.length → skF (A ++ B) p wd neg B.length a = a + (B.takeWhile fun c => wd c != neg).length
  | [], A, a, h => by simp [skF]
  | x :: B, A, a, h => by
    unfold skF
    rw [List.length_cons]
    dsimp only
    rw [codeAt_at h, List.takeWhile_cons]
    by_cases q : (wd x != neg) = true
    · rw [if_pos q, if_pos q]
      have := skF_at (p := p) (neg := neg) B (A := A ++ [x]) (a := a + 1) (by simp; lia)
      rw [List.append_assoc, List.singleton_append] at this
      rw [this, List.length_cons]; lia
    · rw [if_neg q, if_neg q]; simp
theorem skipF_at {p : Int} {neg : Bool} {A B : List Int} {a : Int} (h : a = p + A.length) : skipF (A ++ B) p wd neg a (p + (A ++ B).length) = a + (B.takeWhile fun c => wd c != neg).length := by
  unfold skipF
  rw [show (p + ((A ++ B).length : Int) - a).toNat = B.length by rw [List.length_append]; lia]
  exact skF_at B h
theorem skB_at {p : Int} {neg : Bool} : ∀ (A : List Int) {B : List Int} {a : Int}, a = p + A.length → skB (A.reverse ++ B) p wd neg A.length a = a - (A.takeWhile fun c => wd c != neg).length
  | [], B, a, h => by simp [skB]
  | x :: A, B, a, h => by
    unfold skB
    rw [List.length_cons]
    dsimp only
    rw [List.reverse_cons, List.append_assoc, List.singleton_append, codeAt_at (A := A.reverse) (x := x) (B := B) (by simp at h ⊢; lia), List.takeWhile_cons]
    by_cases q : (wd x != neg) = true
    · rw [if_pos q, if_pos q]
      rw [skB_at A (B := x :: B) (a := a - 1) (by simp at h; lia), List.length_cons]; lia
    · rw [if_neg q, if_neg q]; simp
theorem skipB_at {p : Int} {neg : Bool} {A B : List Int} {a : Int} (h : a = p + A.length) : skipB (A ++ B) p wd neg a p = a - (A.reverse.takeWhile fun c => wd c != neg).length := by
  unfold skipB
  rw [show (a - p).toNat = A.reverse.length by simp; lia]
  have := skB_at (wd := wd) (neg := neg) (p := p) A.reverse (B := B) (a := a) (by simpa using h)
  rw [List.reverse_reverse] at this
  exact this
theorem wF_at {p : Int} : ∀ (n : Nat) {A B : List Int} {a : Int}, a = p + A.length → (wF (A ++ B) p wd n a).1 = a + adv wd n B
  | 0, A, B, a, h => by simp [wF, adv]
  | n + 1, A, B, a, h => by
    unfold wF
    rw [adv_succ, skipF_at h]
    generalize hs : (B.takeWhile fun c => wd c != true).length = s
    have hsl : s ≤ B.length := by rw [← hs]; exact (List.takeWhile_prefix _).length_le
    rw [List.length_append]
    by_cases q : B.length ≤ s
    · rw [if_pos (by push_cast; lia), if_pos q]; push_cast; lia
    · rw [if_neg (by push_cast; lia), if_neg q]
      have e1 : A ++ B = (A ++ B.take s) ++ B.drop s := by rw [List.append_assoc, List.take_append_drop]
      have k1 := skipF_at (wd := wd) (neg := false) (p := p) (A := A ++ B.take s) (B := B.drop s) (a := a + s) (by simp; lia)
      rw [← e1, List.length_append] at k1
      rw [k1]
      generalize hw : ((B.drop s).takeWhile fun c => wd c != false).length = w
      have hwl : w ≤ B.length - s := by rw [← hw, ← List.length_drop]; exact (List.takeWhile_prefix _).length_le
      have e2 : A ++ B = (A ++ B.take (s + w)) ++ B.drop (s + w) := by rw [List.append_assoc, List.take_append_drop]
      rw [e2, wF_at n (by simp; lia)]
      push_cast; lia
theorem wB_at {p : Int} : ∀ (n : Nat) {A B : List Int} {a : Int}, a = p + A.length → (wB (A ++ B) p wd n a).1 = a - adv wd n A.reverse
  | 0, A, B, a, h => by simp [wB, adv]
  | n + 1, A, B, a, h => by
    unfold wB
    rw [adv_succ, skipB_at h]
    obtain ⟨R, rfl⟩ : ∃ R : List Int, A = R.reverse := ⟨A.reverse, by simp⟩
    rw [List.reverse_reverse]
    generalize hs : (R.takeWhile fun c => wd c != true).length = s
    have hsl : s ≤ R.length := by rw [← hs]; exact (List.takeWhile_prefix _).length_le
    rw [List.length_reverse] at h
    by_cases q : R.length ≤ s
    · rw [if_pos (by lia), if_pos q]; dsimp only; lia
    · rw [if_neg (by lia), if_neg q]
      have e1 : R.reverse ++ B = (R.drop s).reverse ++ ((R.take s).reverse ++ B) := by rw [← List.append_assoc, ← List.reverse_append, List.take_append_drop]
      have k1 := skipB_at (wd := wd) (neg := false) (p := p) (A := (R.drop s).reverse) (B := (R.take s).reverse ++ B) (a := a - s) (by simp; lia)
      rw [← e1, List.reverse_reverse] at k1
      rw [k1]
      generalize hw : ((R.drop s).takeWhile fun c => wd c != false).length = w
      have hwl : w ≤ R.length - s := by rw [← hw, ← List.length_drop]; exact (List.takeWhile_prefix _).length_le
      have e2 : R.reverse ++ B = (R.drop (s + w)).reverse ++ ((R.take (s + w)).reverse ++ B) := by rw [← List.append_assoc, ← List.reverse_append, List.take_append_drop]
      rw [e2, wB_at n (by simp; lia), List.reverse_reverse]
      push_cast; lia
theorem by_on {p : Int} {A B : List Int} {a n : Int} (h : a = p + A.length) (hn : 0 < n) : (wordBy (A ++ B) p wd a n).1 = a + adv wd n.toNat B := by
  unfold wordBy
  rw [if_pos hn]; exact wF_at _ h
theorem by_back {p : Int} {A B : List Int} {a n : Int} (h : a = p + A.length) (hn : 0 < n) : (wordBy (A ++ B) p wd a (0 - n)).1 = a - adv wd n.toNat A.reverse := by
  unfold wordBy
  rw [if_neg (by lia), show (-(0 - n)).toNat = n.toNat by congr 1; lia]; exact wB_at _ h
theorem by_stays {codes : List Int} {p : Int} : Stays codes p (fun i n => some (wordBy codes p wd i n).1) := fun i n j h h' e => by
  cases e
  unfold wordBy
  split
  · have := wF_in (codes := codes) (wd := wd) n.toNat i h h'; lia
  · have := wB_in (codes := codes) (wd := wd) (-n).toNat i h; lia
end
section
variable {wd : Int → Bool}
noncomputable abbrev byW (wd : Int → Bool) (codes : List Int) (p : Int) : Int → Int → Option Int := fun i n => some (wordBy codes p wd i n).1
theorem around_back {codes A D : List Int} {p i : Int} {w : Nat} (h : codes = A ++ D) (hb : (wordBy codes p wd i (-1)).1 = p + A.length) (hf : adv wd 1 D = w) : unitAround (byW wd codes p) i (-1) = some ((p + A.length, p + A.length + w), p + A.length + w) := by
  unfold unitAround
  simp only [Option.bind_some, Option.map_some]
  rw [hb]
  subst h
  have := by_on (wd := wd) (p := p) (A := A) (B := D) (a := p + A.length) (n := 0 - -1) rfl (by decide)
  rw [this, show Int.toNat (0 - -1) = 1 from rfl, hf]
  rw [show min (p + (A.length : Int)) (p + A.length + w) = p + A.length by lia, show max (p + (A.length : Int)) (p + A.length + w) = p + A.length + w by lia]
theorem nw_rev {s : List Int} (h : NW wd s) : NW wd s.reverse := fun c hc => h c (List.mem_reverse.mp hc)
theorem words_back {A W S X C : List Int} {p n : Int} {m : Nat} (hEA : Edge wd A.reverse) (hW : AW wd W) (hWn : W ≠ []) (hS : NW wd S) (hSn : S ≠ []) (hX : Wds wd (m + 1) X) (hC : Edge wd C) (hm : n.toNat = m + 1) (h0 : 0 < n) :
    ∃ q, unitsEdit (A ++ (X ++ S ++ W) ++ C) p (byW wd (A ++ (X ++ S ++ W) ++ C) p) (p + A.length + W.length + S.length + X.length) (0 - n) = some ((p + A.length, p + (A ++ X ++ S).length + W.length, W ++ S ++ X), q) := by
  have hXp := hX.ne
  -- and back
  have f1 : (wordBy (A ++ (X ++ S ++ W) ++ C) p wd (p + A.length + W.length + S.length + X.length) (-1)).1 = p + (A ++ X ++ S).length := by
    have := by_back (wd := wd) (p := p) (A := A ++ X ++ S ++ W) (B := C) (a := p + A.length + W.length + S.length + X.length) (n := 1) (by simp; lia) (by decide)
    have hb : adv wd 1 (A ++ X ++ S ++ W).reverse = W.length := by
      have := (Wds.one (wd := wd) hWn hW).rev.adv (S := []) (R := (A ++ X ++ S).reverse) (fun _ h => by cases h) (by rw [List.reverse_append]; exact (nw_rev hS).edge (by simpa using hSn))
      simpa using this
    rw [show Int.toNat 1 = 1 from rfl, hb] at this
    rw [show A ++ (X ++ S ++ W) ++ C = A ++ X ++ S ++ W ++ C by simp, show (-1 : Int) = 0 - 1 from rfl, this]
    simp; lia
  have f2 : adv wd 1 (W ++ C) = W.length := by
    have := adv_word (wd := wd) (S := []) (w := W) (R := C) (n := 0) (fun _ h => by cases h) hW hWn hC
    simpa [adv] using this
  have v1 := around_back (wd := wd) (codes := A ++ (X ++ S ++ W) ++ C) (A := A ++ X ++ S) (D := W ++ C) (p := p) (by simp) f1 f2
  have g1 := by_back (wd := wd) (p := p) (A := A ++ X ++ S) (B := W ++ C) (a := p + (A ++ X ++ S).length) (n := n) rfl h0
  have g1' : adv wd (m + 1) (A ++ X ++ S).reverse = S.length + X.length := by
    have := hX.rev.adv (S := S.reverse) (R := A.reverse) (nw_rev hS) hEA
    simpa using this
  rw [hm, g1', show A ++ X ++ S ++ (W ++ C) = A ++ (X ++ S ++ W) ++ C by simp] at g1
  have g1 : (wordBy (A ++ (X ++ S ++ W) ++ C) p wd (p + (A ++ X ++ S).length) (0 - n)).1 = p + A.length := by
    rw [g1]; simp; lia
  have g2 := by_on (wd := wd) (p := p) (A := A) (B := X ++ S ++ W ++ C) (a := p + A.length) (n := n) rfl h0
  have g2' : adv wd (m + 1) (X ++ S ++ W ++ C) = X.length := by
    have := hX.adv (S := []) (R := S ++ (W ++ C)) (fun _ h => by cases h) (hS.edge hSn)
    simpa using this
  rw [hm, g2', show A ++ (X ++ S ++ W ++ C) = A ++ (X ++ S ++ W) ++ C by simp] at g2
  have v2 : unitAround (byW wd (A ++ (X ++ S ++ W) ++ C) p) (p + (A ++ X ++ S).length) (0 - n) = some ((p + A.length, p + A.length + X.length), p + A.length + X.length) := by
    unfold unitAround
    simp only [Option.bind_some, Option.map_some]
    rw [g1, show 0 - (0 - n) = n by lia, g2]
    rw [show min (p + (A.length : Int)) (p + A.length + X.length) = p + A.length by lia, show max (p + (A.length : Int)) (p + A.length + X.length) = p + A.length + X.length by lia]
  have sw' := regions_swap' (A := A) (X := X) (M := S) (Y := W) (C := C) (p := p) (one := (p + A.length, p + A.length + X.length)) (other := (p + (A ++ X ++ S).length, p + (A ++ X ++ S).length + W.length)) rfl rfl (by simp; lia) rfl (by
    obtain ⟨c, t, ec, _⟩ := hXp
    dsimp only
    rw [ec]; simp; lia)
  rw [show A ++ X ++ S ++ W ++ C = A ++ (X ++ S ++ W) ++ C by simp] at sw'
  unfold unitsEdit unitsRegions
  rw [v1]
  simp only [Option.bind_some]
  rw [if_neg (by lia), v2]
  simp only [Option.map_some, Option.bind_some]
  rw [sw']
  exact ⟨_, rfl⟩
theorem words_few {codes A W Rst : List Int} {p : Int} {m : Nat} (eC : codes = (A ++ W) ++ Rst) (hEA : Edge wd A.reverse) (hRst : Edge wd Rst) (hW : AW wd W) (hWn : W ≠ []) (hfew : NW wd Rst ∨ ∃ k S X R, k ≤ m ∧ Rst = S ++ X ++ R ∧ NW wd S ∧ Wds wd k X ∧ NW wd R) :
    regionsEdit codes p (p + A.length, p + A.length + W.length) (min (p + (A.length : Int) + W.length + Rst.length) (p + A.length + W.length + Rst.length - adv wd (m + 1) codes.reverse), max (p + (A.length : Int) + W.length + Rst.length) (p + A.length + W.length + Rst.length - adv wd (m + 1) codes.reverse)) = none := by
  have key : W.length + Rst.length ≤ adv wd (m + 1) codes.reverse := by
    rcases hfew with hf | ⟨k, S, X, R, hk, rfl, hS, hX, hR⟩
    · refine Nat.le_trans (Nat.le_of_eq ?_) (adv_mono (m := 1) (by lia) _)
      have := (Wds.one (wd := wd) hWn hW).rev.adv (S := Rst.reverse) (R := A.reverse) (nw_rev hf) hEA
      rw [show codes.reverse = Rst.reverse ++ W.reverse ++ A.reverse by rw [eC]; simp, this]
      simp; lia
    · refine Nat.le_trans (Nat.le_of_eq ?_) (adv_mono (m := k + 1) (by lia) _)
      have := (Wds.more (wd := wd) hWn hW (edge_blank hX hRst) hS hX).rev.adv (S := R.reverse) (R := A.reverse) (nw_rev hR) hEA
      rw [show codes.reverse = R.reverse ++ (W ++ S ++ X).reverse ++ A.reverse by rw [eC]; simp, this]
      simp; lia
  have hWp : 0 < W.length := List.length_pos_iff.mpr hWn
  unfold regionsEdit inOrder
  dsimp only
  split
  · rw [if_pos (by lia)]; rfl
  · rw [if_pos (by lia)]; rfl
theorem words_left {codes A W S X C : List Int} {p i n : Int} {m : Nat} {e : (Int × Int × List Int) × Int} (eC2 : codes = (A ++ W ++ S ++ X) ++ C) (hEA : Edge wd A.reverse) (hW : AW wd W) (hWn : W ≠ []) (hS : NW wd S) (hSn : S ≠ []) (hX : Wds wd (m + 1) X) (hC : Edge wd C) (hm : n.toNat = m + 1) (h0 : 0 < n) (hp : 0 ≤ p ∧ p ≤ 64) (hz : codes.length ≤ 64)
    (u1 : unitAround (byW wd codes p) i (-1) = some ((p + A.length, p + A.length + W.length), p + A.length + W.length)) (h : unitsEdit codes p (byW wd codes p) i n = some e) : Bnd p e ∧ Fit (applyE codes p e).1 p (applyE codes p e).2 ∧ (∀ c ∈ (applyE codes p e).1, c ∈ codes) ∧
      ∃ e', unitsEdit (applyE codes p e).1 p (byW wd (applyE codes p e).1 p) (applyE codes p e).2 (0 - n) = some e' ∧ Bnd p e' ∧ (applyE (applyE codes p e).1 p e').1 = codes := by
  have far := by_on (wd := wd) (p := p) (A := A ++ W) (B := S ++ X ++ C) (a := p + A.length + W.length) (n := n) (by simp; lia) h0
  rw [show A ++ W ++ (S ++ X ++ C) = codes by rw [eC2]; simp, hm, hX.adv hS hC] at far
  unfold unitsEdit unitsRegions at h
  rw [u1] at h
  simp only [Option.bind_some] at h
  rw [if_pos h0] at h
  unfold unitAround at h
  simp only [Option.bind_some, Option.map_some] at h
  rw [far] at h
  clear u1 far
  have near := by_back (wd := wd) (p := p) (A := A ++ W ++ S ++ X) (B := C) (a := p + A.length + W.length + (S.length + X.length : Nat)) (n := n) (by simp; lia) h0
  have hbk : adv wd (m + 1) (A ++ W ++ S ++ X).reverse = X.length := by
    have := (hX.rev).adv (S := []) (R := (A ++ W ++ S).reverse) (fun _ h => by cases h) (by rw [List.reverse_append]; exact (nw_rev hS).edge (by simpa using hSn))
    simpa using this
  rw [← eC2, hm, hbk] at near
  rw [near] at h
  have hXp := hX.ne
  have e1 : min (p + (A.length : Int) + W.length + (S.length + X.length : Nat)) (p + A.length + W.length + (S.length + X.length : Nat) - X.length) = p + A.length + W.length + S.length := by push_cast; lia
  have e2 : max (p + (A.length : Int) + W.length + (S.length + X.length : Nat)) (p + A.length + W.length + (S.length + X.length : Nat) - X.length) = p + A.length + W.length + S.length + X.length := by push_cast; lia
  rw [e1, e2] at h
  have sw := regions_swap (A := A) (X := W) (M := S) (Y := X) (C := C) (p := p) (one := (p + A.length, p + A.length + W.length)) (other := (p + A.length + W.length + S.length, p + A.length + W.length + S.length + X.length)) rfl rfl rfl rfl
  rw [← eC2] at sw
  rw [sw] at h
  simp only [Option.map_some] at h
  cases h
  have ap := apply_mid (A := A) (Z := W ++ S ++ X) (C := C) (N := X ++ S ++ W) (p := p) (e := ((p + A.length, p + A.length + W.length + S.length + X.length, X ++ S ++ W), p + A.length + W.length + S.length + X.length)) rfl (by simp; lia) rfl
  rw [show A ++ (W ++ S ++ X) ++ C = codes by rw [eC2]; simp] at ap
  rw [ap]
  dsimp only
  have hlen : codes.length = A.length + (W.length + (S.length + (X.length + C.length))) := by rw [eC2]; simp [Nat.add_assoc]
  have hlen' : (A ++ (X ++ S ++ W) ++ C).length = codes.length := by rw [hlen]; simp; lia
  obtain ⟨q, back⟩ := words_back (p := p) (n := n) hEA hW hWn hS hSn hX hC hm h0
  have ap' := apply_mid (A := A) (Z := X ++ S ++ W) (C := C) (N := W ++ S ++ X) (p := p) (e := ((p + A.length, p + (A ++ X ++ S).length + W.length, W ++ S ++ X), q)) rfl (by simp; lia) rfl
  refine ⟨⟨by dsimp only; lia, by dsimp only; lia, by simp; lia⟩, ⟨by lia, hp, by lia, by rw [hlen']; lia⟩, fun c hc => ?_, _, back, ⟨by dsimp only; lia, by dsimp only; lia, by simp; lia⟩, ?_⟩
  · rw [eC2]
    simp only [List.mem_append] at hc ⊢
    rcases hc with (hc | (hc | hc) | hc) | hc <;> simp [hc]
  · rw [ap', eC2]; simp
/-- the second law, of words -/
theorem words_law {codes : List Int} {p i n : Int} {e : (Int × Int × List Int) × Int} (hp : 0 ≤ p ∧ p ≤ 64) (hz : codes.length ≤ 64) (h1 : p ≤ i ∧ i ≤ p + codes.length) (h0 : 0 < n) (hlow : wd (codeAt codes p (wordBy codes p wd i (-1)).1) = true) (hin : (wordBy codes p wd i (-1)).1 < p + codes.length)
    (h : unitsEdit codes p (byW wd codes p) i n = some e) : Bnd p e ∧ Fit (applyE codes p e).1 p (applyE codes p e).2 ∧ (∀ c ∈ (applyE codes p e).1, c ∈ codes) ∧
      ∃ e', unitsEdit (applyE codes p e).1 p (byW wd (applyE codes p e).1 p) (applyE codes p e).2 (0 - n) = some e' ∧ Bnd p e' ∧ (applyE (applyE codes p e).1 p e').1 = codes := by
  -- the word at or ahead of the place
  obtain ⟨A₀, B₀, e0, ei⟩ : ∃ A₀ B₀, codes = A₀ ++ B₀ ∧ i = p + A₀.length := ⟨codes.take (i - p).toNat, codes.drop (i - p).toNat, by rw [List.take_append_drop], by rw [List.length_take]; lia⟩
  have hlw : (wordBy codes p wd i (-1)).1 = i - adv wd 1 A₀.reverse := by
    rw [e0]; exact by_back (n := 1) ei (by decide)
  obtain ⟨A, D, eA, elow, hEA⟩ : ∃ A D, codes = A ++ D ∧ (wordBy codes p wd i (-1)).1 = p + A.length ∧ Edge wd A.reverse := by
    rcases first_word (wd := wd) A₀.reverse with hn | ⟨S, w, R, hs, hS, hw, hne, hR⟩
    · refine ⟨[], codes, rfl, ?_, Edge.nil⟩
      rw [hlw, adv_none hn]; simp; lia
    · have hA : A₀ = R.reverse ++ (w.reverse ++ S.reverse) := by
        have := congrArg List.reverse hs
        simpa using this
      refine ⟨R.reverse, w.reverse ++ S.reverse ++ B₀, by rw [e0, hA]; simp, ?_, by simpa using hR⟩
      rw [hlw, hs, adv_word hS hw hne hR]
      have hl : A₀.length = R.length + (w.length + S.length) := by rw [hA]; simp
      simp [adv]; lia
  rw [elow] at hlow hin
  have hD : ∃ c t, D = c :: t ∧ wd c = true := by
    cases D with
    | nil => rw [eA] at hin; simp at hin
    | cons c t =>
      rw [eA, codeAt_at rfl] at hlow
      exact ⟨c, t, rfl, hlow⟩
  obtain ⟨W, Rst, eD, hW, hRst'⟩ := tw_split wd D
  have hRst : Edge wd Rst := hRst'
  have hWn : W ≠ [] := fun q => by
    obtain ⟨c, t, ec, hc⟩ := hD
    subst q
    have := hRst c t (by rw [← ec, eD]; rfl)
    rw [hc] at this; cases this
  have hadD : adv wd 1 D = W.length := by
    have := adv_word (wd := wd) (S := []) (w := W) (R := Rst) (n := 0) (fun _ h => by cases h) hW hWn hRst
    rw [eD]; simpa [adv] using this
  have u1 := around_back (wd := wd) (i := i) eA elow hadD
  subst eD
  obtain ⟨m, hm⟩ : ∃ m : Nat, n.toNat = m + 1 := ⟨n.toNat - 1, by lia⟩
  have eC : codes = (A ++ W) ++ Rst := by rw [eA, List.append_assoc]
  rcases words_ahead (wd := wd) m Rst with ⟨S, X, C, rfl, hS, hX, hC⟩ | ⟨had, hfew⟩
  · exact words_left (m := m) (by rw [eC]; simp) hEA hW hWn hS (edge_blank hX hRst) hX hC hm h0 hp hz u1 h
  · exfalso
    have far := by_on (wd := wd) (p := p) (A := A ++ W) (B := Rst) (a := p + A.length + W.length) (n := n) (by simp; lia) h0
    rw [← eC] at far
    unfold unitsEdit unitsRegions at h
    rw [u1] at h
    simp only [Option.bind_some] at h
    rw [if_pos h0] at h
    unfold unitAround at h
    simp only [Option.bind_some, Option.map_some] at h
    rw [far, hm] at h
    rw [had] at h
    have near := by_back (wd := wd) (p := p) (A := codes) (B := []) (a := p + A.length + W.length + Rst.length) (n := n) (by rw [eC]; simp; lia) h0
    rw [List.append_nil, hm] at near
    rw [near] at h
    rw [words_few (wd := wd) (p := p) eC hEA hRst hW hWn hfew] at h
    simp at h
end
theorem rev_ind {α : Type} {P : List α → Prop} (h0 : P []) (h1 : ∀ l a, P l → P (l ++ [a])) (l : List α) : P l := by
  have : ∀ r : List α, P r.reverse := by
    intro r
    induction r with
    | nil => exact h0
    | cons a r ih => rw [List.reverse_cons]; exact h1 _ _ ih
  have := this l.reverse
  rwa [List.reverse_reverse] at this
theorem snoc_of {α : Type} {l : List α} (h : l ≠ []) : ∃ l' a, l = l' ++ [a] := by
  cases e : l.reverse with
  | nil => exact absurd (by simpa using e) h
  | cons a r => exact ⟨r.reverse, a, by have := congrArg List.reverse e; simpa using this⟩
noncomputable abbrev N10 (s : List Int) : Prop := ∀ c ∈ s, c ≠ 10
/-- a line, its newline with it -/
noncomputable def Line (l : List Int) : Prop := ∃ w, l = w ++ [10] ∧ N10 w
noncomputable abbrev Lines (ls : List (List Int)) : Prop := ∀ l ∈ ls, Line l
/-- a line begins behind it -/
noncomputable def EndL (A : List Int) : Prop := A = [] ∨ ∃ B, A = B ++ [10]
theorem Line.len {l : List Int} (h : Line l) : 0 < l.length := by obtain ⟨w, rfl, _⟩ := h; simp
theorem Line.endL {l A : List Int} (h : Line l) : EndL (A ++ l) := by obtain ⟨w, rfl, _⟩ := h; exact .inr ⟨A ++ w, by simp⟩
theorem lines_endL {A : List Int} (hA : EndL A) : ∀ {ls : List (List Int)}, Lines ls → EndL (A ++ ls.flatten) := by
  intro ls
  induction ls generalizing A with
  | nil => intro _; simpa using hA
  | cons l ls ih =>
    intro h
    have := ih (A := A ++ l) (h l (.head _)).endL fun x hx => h x (.tail _ hx)
    simpa using this
theorem lsO_at {A : List Int} (hA : EndL A) : ∀ (w : List Int) {R : List Int}, N10 w → lsO (A ++ w ++ R) (A.length + w.length) = A.length := by
  refine rev_ind ?_ fun w c ih => ?_
  · intro R _
    rcases hA with rfl | ⟨B, rfl⟩
    · rfl
    · simp only [List.append_nil, List.length_nil, Nat.add_zero, List.length_append, List.length_singleton]
      show (if ((B ++ [10]) ++ R).getD B.length 0 = 10 then B.length + 1 else _) = _
      rw [if_pos (by simp)]
  · intro R hw
    rw [List.length_append, List.length_singleton, ← Nat.add_assoc]
    show (if (A ++ (w ++ [c]) ++ R).getD (A.length + w.length) 0 = 10 then _ else lsO _ (A.length + w.length)) = _
    have e : A ++ (w ++ [c]) ++ R = A ++ w ++ ([c] ++ R) := by simp
    have g : (A ++ (w ++ [c]) ++ R).getD (A.length + w.length) 0 = c := by
      rw [e, List.getD_eq_getElem?_getD, List.getElem?_append_right (by simp)]
      simp
    rw [g, if_neg (hw c (by simp)), e]
    exact ih fun x hx => hw x (by simp [hx])
theorem lineStart_at {A w R : List Int} {p i : Int} (hA : EndL A) (hw : N10 w) (hi : i = p + A.length + w.length) : lineStart (A ++ w ++ R) p i = p + A.length := by
  unfold lineStart
  split
  · lia
  · rw [show (i - p).toNat = A.length + w.length by lia, lsO_at hA w hw]
theorem nextStart_at {A l R : List Int} {p i : Int} (hp : 0 ≤ p) (hl : Line l) (hi : i = p + A.length) : nextStart (A ++ l ++ R) p i = p + A.length + l.length := by
  obtain ⟨w, rfl, hw⟩ := hl
  have e : lineEnd (A ++ (w ++ [10]) ++ R) p i = p + A.length + w.length := by
    unfold lineEnd
    rw [if_neg (by simp; lia), show (i - p).toNat = A.length by lia]
    unfold leO
    have : List.takeWhile (fun c => c != 10) (List.drop A.length (A ++ (w ++ [10]) ++ R)) = w := by
      rw [List.append_assoc, List.drop_left, List.append_assoc]
      exact tw_all (fun c hc => by simpa using hw c hc) fun c t e => by
        simp at e; simp [← e.1]
    rw [this]; push_cast; lia
  unfold nextStart
  rw [e, if_pos (by simp; lia)]
  simp; lia
/-- so many lines on -/
theorem fwd_at {p : Int} (hp : 0 ≤ p) : ∀ (ls : List (List Int)) {A R : List Int} {i : Int}, Lines ls → i = p + A.length → fwd (A ++ ls.flatten ++ R) p i ls.length = (p + A.length + ls.flatten.length, 0)
  | [], A, R, i, _, hi => by simp [fwd, hi]
  | l :: ls, A, R, i, h, hi => by
    have e : A ++ (l :: ls).flatten ++ R = A ++ l ++ (ls.flatten ++ R) := by simp
    rw [e]
    unfold fwd
    rw [List.length_cons]
    dsimp only
    rw [nextStart_at hp (h l (.head _)) hi, if_neg (by lia)]
    have := fwd_at hp ls (A := A ++ l) (R := R) (i := p + A.length + l.length) (fun x hx => h x (.tail _ hx)) (by simp; lia)
    rw [show A ++ l ++ (ls.flatten ++ R) = A ++ l ++ ls.flatten ++ R by simp, this]
    simp; lia
/-- so many lines back -/
theorem back_at {p : Int} {A : List Int} (hA : EndL A) : ∀ (ls : List (List Int)) {R : List Int} {i : Int}, Lines ls → i = p + A.length + ls.flatten.length → back (A ++ ls.flatten ++ R) p i ls.length = (p + A.length, 0) := by
  refine rev_ind ?_ fun ls l ih => ?_
  · intro R i _ hi; simp at hi; simp [back, hi]
  · intro R i h hi
    obtain ⟨w, rfl, hw⟩ := h l (by simp)
    have hls : Lines ls := fun x hx => h x (by simp [hx])
    rw [List.length_append, List.length_singleton]
    show (if p < i then back _ p (lineStart _ p (i - 1)) ls.length else _) = _
    simp at hi
    rw [if_pos (by lia)]
    have e : A ++ (ls ++ [w ++ [10]]).flatten ++ R = (A ++ ls.flatten) ++ w ++ ([10] ++ R) := by simp
    rw [e, lineStart_at (lines_endL hA hls) hw (by simp; lia)]
    have := ih (R := w ++ ([10] ++ R)) (i := p + (A ++ ls.flatten).length) hls (by simp; lia)
    rw [show A ++ ls.flatten ++ w ++ ([10] ++ R) = A ++ ls.flatten ++ (w ++ ([10] ++ R)) by simp]
    exact this
/-- the line ahead of a place -/
theorem target_back {A l v R : List Int} {p i : Int} (hA : EndL A) (hl : Line l) (hv : N10 v) (hi : i = p + A.length + l.length + v.length) : (linesTarget (A ++ l ++ v ++ R) p i (-1)).1 = p + A.length := by
  unfold linesTarget
  rw [if_pos (by decide), lineStart_at (A := A ++ l) (w := v) hl.endL hv (by simp; lia)]
  have := back_at (p := p) hA [l] (R := v ++ R) (i := p + (A ++ l).length) (fun x hx => by simp at hx; subst hx; exact hl) (by simp; lia)
  simp only [List.flatten_cons, List.flatten_nil, List.append_nil, List.length_singleton] at this
  rw [show Int.toNat (- -1) = 1 from rfl, show A ++ l ++ v ++ R = A ++ l ++ (v ++ R) by simp, this]
theorem target_first {v R : List Int} {p i : Int} (hv : N10 v) (hi : i = p + v.length) : (linesTarget (v ++ R) p i (-1)).1 = p := by
  unfold linesTarget
  have := lineStart_at (A := []) (w := v) (R := R) (p := p) (i := i) (.inl rfl) hv (by simp; lia)
  rw [List.nil_append] at this
  rw [if_pos (by decide), this]
  show (if p < p + ((0 : Nat) : Int) then _ else _ : Int × Int).1 = p
  rw [if_neg (by lia)]
  simp
theorem ahead_at {ls : List (List Int)} {A R : List Int} {p i n : Int} (hp : 0 ≤ p) (h : Lines ls) (hi : i = p + A.length) (hn : n = ls.length) (h0 : 0 < n) : linesAhead (A ++ ls.flatten ++ R) p i n = (p + A.length + ls.flatten.length, 0) := by
  have t : linesTarget (A ++ ls.flatten ++ R) p i n = (p + A.length + ls.flatten.length, 0) := by
    unfold linesTarget
    rw [if_neg (by lia), show n.toNat = ls.length by lia, fwd_at hp ls h hi]
  unfold linesAhead
  rw [t]
  dsimp only
  have hne : ls ≠ [] := fun q => by subst q; simp at hn; lia
  obtain ⟨ls', l, rfl⟩ := snoc_of hne
  obtain ⟨w, rfl, hw⟩ := h l (by simp)
  have c : codeAt (A ++ (ls' ++ [w ++ [10]]).flatten ++ R) p (p + A.length + (ls' ++ [w ++ [10]]).flatten.length - 1) = 10 := by
    have e : A ++ (ls' ++ [w ++ [10]]).flatten ++ R = (A ++ ls'.flatten ++ w) ++ 10 :: R := by simp
    rw [e]
    exact codeAt_at (by simp; lia)
  rw [c, if_neg (by simp)]
  simp
theorem nls0 : nls 0 = [] := rfl
/-- a line taken over others -/
theorem lines_on {ms : List (List Int)} {A l R : List Int} {p i n : Int} (hp : 0 ≤ p) (hl : Line l) (hm : Lines ms) (hs : (linesTarget (A ++ l ++ ms.flatten ++ R) p i (-1)).1 = p + A.length) (hn : n = ms.length) (h0 : 0 < n) :
    linesEdit (A ++ l ++ ms.flatten ++ R) p i n = ((p + A.length, p + A.length + l.length + ms.flatten.length, ms.flatten ++ l), p + A.length + ms.flatten.length + l.length) := by
  have a1 := ahead_at (ls := [l]) (A := A) (R := ms.flatten ++ R) (p := p) (i := p + A.length) (n := 1) hp (fun x hx => by simp at hx; subst hx; exact hl) rfl rfl (by decide)
  simp only [List.flatten_cons, List.flatten_nil, List.append_nil] at a1
  rw [show A ++ l ++ (ms.flatten ++ R) = A ++ l ++ ms.flatten ++ R by simp] at a1
  have a2 := ahead_at (ls := ms) (A := A ++ l) (R := R) (p := p) (i := p + A.length + l.length) (n := n) hp hm (by simp; lia) hn h0
  unfold linesEdit
  rw [hs]
  dsimp only
  rw [a1]
  dsimp only
  rw [a2]
  dsimp only
  have b1 := between_mid (A := A) (X := l) (B := ms.flatten ++ R) (p := p) (a := p + A.length) (b := p + A.length + l.length) rfl rfl
  rw [show A ++ l ++ (ms.flatten ++ R) = A ++ l ++ ms.flatten ++ R by simp] at b1
  have b2 := between_mid (A := A ++ l) (X := ms.flatten) (B := R) (p := p) (a := p + A.length + l.length) (b := p + (A ++ l).length + ms.flatten.length) (by simp; lia) (by simp; lia)
  rw [b1, b2, nls0, List.append_nil, List.append_nil]
  simp; lia
noncomputable abbrev stepL (p : Int) : List Int → Int → Option ((Int × Int × List Int) × Int) := fun c i => some (linesEdit c p i 1)
theorem lines_steps {p : Int} (hp : 0 ≤ p ∧ p ≤ 64) {l R : List Int} (hl : Line l) : ∀ (ms : List (List Int)) {A v : List Int} {i : Int}, EndL A → Lines ms → N10 v → (∀ m t, ms = m :: t → ∃ v', m = v ++ v') → i = p + A.length + l.length + v.length → (ms = [] → v = []) → (A ++ l ++ ms.flatten ++ R).length ≤ 64 →
    StepsOk (stepL p) p ms.length (A ++ l ++ ms.flatten ++ R) i ∧ stepN (stepL p) p ms.length (A ++ l ++ ms.flatten ++ R) i = some (A ++ ms.flatten ++ l ++ R, p + A.length + ms.flatten.length + l.length)
  | [], A, v, i, hA, _, hv, _, hi, h0, hz => by
    have := h0 rfl
    subst this
    unfold StepsOk stepN
    exact ⟨trivial, by simp at hi ⊢; lia⟩
  | m :: ms, A, v, i, hA, hm, hv, hv', hi, h0, hz => by
    obtain ⟨v', rfl⟩ := hv' m ms rfl
    have tb := target_back (A := A) (l := l) (v := v) (R := v' ++ ms.flatten ++ R) (p := p) (i := i) hA hl hv hi
    have on := lines_on (ms := [v ++ v']) (A := A) (l := l) (R := ms.flatten ++ R) (p := p) (i := i) (n := 1) hp.1 hl (fun x hx => by simp at hx; subst hx; exact hm _ (.head _)) (by simpa using tb) rfl (by decide)
    have ap := apply_mid (A := A) (Z := l ++ (v ++ v')) (C := ms.flatten ++ R) (N := (v ++ v') ++ l) (p := p) (e := ((p + A.length, p + A.length + l.length + (v ++ v').length, (v ++ v') ++ l), p + A.length + (v ++ v').length + l.length)) rfl (by simp; lia) rfl
    have ih := lines_steps hp (R := R) hl ms (A := A ++ (v ++ v')) (v := []) (i := p + A.length + (v ++ v').length + l.length) (hm _ (.head _)).endL (fun x hx => hm x (.tail _ hx)) (fun _ h => by cases h) (fun m t _ => ⟨m, rfl⟩) (by simp; lia) (fun _ => rfl) (by simp at hz ⊢; lia)
    simp only [List.flatten_cons, List.flatten_nil, List.append_nil, List.append_assoc] at on ap ih hz ⊢
    have ed : stepL p (A ++ (l ++ (v ++ (v' ++ (ms.flatten ++ R))))) i = some ((p + A.length, p + A.length + l.length + (v ++ v').length, v ++ (v' ++ l)), p + A.length + (v ++ v').length + l.length) := congrArg some on
    rw [List.length_cons]
    refine ⟨stepsOk_some ed ⟨hz, hp, by lia, by rw [hi]; simp; lia⟩ ⟨by dsimp only; lia, by dsimp only; lia, by simp at hz ⊢; lia⟩ (by rw [ap]; exact ih.1), ?_⟩
    rw [stepN_some ed, ap]
    dsimp only
    rw [ih.2]
    simp; lia
/-- what the third law asks of a text -/
structure LinesOk (T : List Int) (p i i' n : Int) : Prop where
  bnd : Bnd p (linesEdit T p i n)
  ok : StepsOk (stepL p) p n.toNat T i'
  step : stepN (stepL p) p n.toNat T i' = some (applyE T p (linesEdit T p i n))
  fit : Fit (applyE T p (linesEdit T p i n)).1 p (applyE T p (linesEdit T p i n)).2
  len : (applyE T p (linesEdit T p i n)).1.length = T.length
  back : ∃ e, regionsEdit (applyE T p (linesEdit T p i n)).1 p (linesBackRegions (applyE T p (linesEdit T p i n)).1 p (applyE T p (linesEdit T p i n)).2 n).1 (linesBackRegions (applyE T p (linesEdit T p i n)).1 p (applyE T p (linesEdit T p i n)).2 n).2.1 = some e ∧ (p ≤ e.1 ∧ p ≤ e.2.1 ∧ e.2.2.length ≤ 256) ∧ ∀ x, (applyE (applyE T p (linesEdit T p i n)).1 p (e, x)).1 = T
theorem lines_core {A l R v : List Int} {ms : List (List Int)} {T : List Int} {p i i' n : Int} (hp : 0 ≤ p ∧ p ≤ 64) (hA : EndL A) (hl : Line l) (hm : Lines ms) (hT : T = A ++ l ++ ms.flatten ++ R) (hz : T.length ≤ 64) (hs : (linesTarget T p i (-1)).1 = p + A.length) (hn : n = ms.length) (h0 : 0 < n)
    (hv : N10 v) (hv' : ∀ m t, ms = m :: t → ∃ v', m = v ++ v') (hi : i' = p + A.length + l.length + v.length) : LinesOk T p i i' n := by
  subst hT
  have on := lines_on hp.1 hl hm hs hn h0
  have en : n.toNat = ms.length := by lia
  have st := lines_steps hp (R := R) hl ms (i := i') hA hm hv hv' hi (fun q => by subst q; simp at hn; lia) hz
  have ap := apply_mid (A := A) (Z := l ++ ms.flatten) (C := R) (N := ms.flatten ++ l) (p := p) (e := ((p + A.length, p + A.length + l.length + ms.flatten.length, ms.flatten ++ l), p + A.length + ms.flatten.length + l.length)) rfl (by simp; lia) rfl
  rw [show A ++ (l ++ ms.flatten) ++ R = A ++ l ++ ms.flatten ++ R by simp, show A ++ (ms.flatten ++ l) ++ R = A ++ ms.flatten ++ l ++ R by simp] at ap
  have hlen : (A ++ ms.flatten ++ l ++ R).length = (A ++ l ++ ms.flatten ++ R).length := by simp; lia
  have hAm := lines_endL hA hm
  -- back
  have tb : (linesTarget (A ++ ms.flatten ++ l ++ R) p (p + A.length + ms.flatten.length + l.length) (-1)).1 = p + A.length + ms.flatten.length := by
    have := target_back (A := A ++ ms.flatten) (l := l) (v := []) (R := R) (p := p) (i := p + A.length + ms.flatten.length + l.length) hAm hl (fun _ h => by cases h) (by simp; lia)
    rw [List.append_nil] at this
    rw [this]; simp; lia
  have tm : (linesTarget (A ++ ms.flatten ++ l ++ R) p (p + A.length + ms.flatten.length) 1).1 = p + A.length + ms.flatten.length + l.length := by
    have := fwd_at hp.1 [l] (A := A ++ ms.flatten) (R := R) (i := p + A.length + ms.flatten.length) (fun x hx => by simp at hx; subst hx; exact hl) (by simp; lia)
    unfold linesTarget
    rw [if_neg (by decide), show Int.toNat 1 = [l].length from rfl]
    rw [show [l].flatten = l by simp] at this
    rw [this]; simp; lia
  have tf : (linesTarget (A ++ ms.flatten ++ l ++ R) p (p + A.length + ms.flatten.length) (0 - n)).1 = p + A.length := by
    unfold linesTarget
    have e1 := lineStart_at (A := A ++ ms.flatten) (w := []) (R := l ++ R) (p := p) (i := p + A.length + ms.flatten.length) hAm (fun _ h => by cases h) (by simp; lia)
    have e2 := back_at (p := p) hA ms (R := l ++ R) (i := p + (A ++ ms.flatten).length) hm (by simp; lia)
    rw [List.append_nil, ← List.append_assoc] at e1
    rw [← List.append_assoc] at e2
    rw [if_pos (by lia), e1, show (-(0 - n)).toNat = ms.length by lia, e2]
  have sw := regions_swap (A := A) (X := ms.flatten) (M := []) (Y := l) (C := R) (p := p) (one := (p + A.length, p + A.length + ms.flatten.length)) (other := (p + A.length + ms.flatten.length, p + A.length + ms.flatten.length + l.length)) rfl rfl (by simp) rfl
  rw [List.append_nil, List.append_nil] at sw
  have ap' : ∀ x, applyE (A ++ ms.flatten ++ l ++ R) p ((p + A.length, p + A.length + ms.flatten.length + l.length, l ++ ms.flatten), x) = (A ++ (l ++ ms.flatten) ++ R, x) := fun x => by
    have := apply_mid (A := A) (Z := ms.flatten ++ l) (C := R) (N := l ++ ms.flatten) (p := p) (e := ((p + A.length, p + A.length + ms.flatten.length + l.length, l ++ ms.flatten), x)) rfl (by simp; lia) rfl
    rw [show A ++ (ms.flatten ++ l) ++ R = A ++ ms.flatten ++ l ++ R by simp] at this
    exact this
  have br : linesBackRegions (A ++ ms.flatten ++ l ++ R) p (p + A.length + ms.flatten.length + l.length) n = ((p + A.length, p + A.length + ms.flatten.length), (p + A.length + ms.flatten.length, p + A.length + ms.flatten.length + l.length), p + A.length + (p + A.length + ms.flatten.length + l.length) - (p + A.length + ms.flatten.length)) := by
    unfold linesBackRegions
    rw [tb]
    dsimp only
    rw [tm, tf]
  have hz' := hz
  simp only [List.length_append] at hz'
  refine ⟨?_, by rw [en]; exact st.1, ?_, ?_, ?_, ?_⟩
  · rw [on]; exact ⟨by dsimp only; lia, by dsimp only; lia, by simp only [List.length_append]; lia⟩
  · rw [en, st.2, on, ap]
  · rw [on, ap]
    exact ⟨by rw [hlen]; exact hz, hp, by dsimp only; lia, by simp; lia⟩
  · rw [on, ap]; exact hlen
  · rw [on, ap]
    dsimp only
    rw [br]
    exact ⟨_, sw, ⟨by dsimp only; lia, by dsimp only; lia, by simp only [List.length_append]; lia⟩, fun x => by rw [ap']; simp⟩
/-- how many newlines -/
noncomputable def nl10 (T : List Int) : Nat := (T.filter fun c => decide (c = 10)).length
theorem nl10_none {w : List Int} (h : N10 w) : nl10 w = 0 := by
  unfold nl10
  rw [List.filter_eq_nil_iff.mpr fun c hc => by simpa using h c hc]; rfl
theorem nl10_app (a b : List Int) : nl10 (a ++ b) = nl10 a + nl10 b := by unfold nl10; simp
theorem nl10_lines : ∀ {ls : List (List Int)}, Lines ls → nl10 ls.flatten = ls.length
  | [], _ => rfl
  | l :: ls, h => by
    obtain ⟨w, rfl, hw⟩ := h l (.head _)
    rw [List.flatten_cons, nl10_app, nl10_app, nl10_none hw, nl10_lines fun x hx => h x (.tail _ hx)]
    simp [nl10]; lia
theorem split_lines : ∀ T : List Int, ∃ ls w, Lines ls ∧ N10 w ∧ T = ls.flatten ++ w
  | [] => ⟨[], [], fun _ h => (by cases h), fun _ h => (by cases h), rfl⟩
  | a :: T => by
    obtain ⟨ls, w, h1, h2, rfl⟩ := split_lines T
    by_cases q : a = 10
    · subst q
      refine ⟨[10] :: ls, w, fun x hx => ?_, h2, rfl⟩
      rcases List.mem_cons.mp hx with rfl | hx
      · exact ⟨[], rfl, fun _ h => by cases h⟩
      · exact h1 x hx
    · cases ls with
      | nil => exact ⟨[], a :: w, h1, fun c hc => (by
          rcases List.mem_cons.mp hc with rfl | hc
          · exact q
          · exact h2 c hc), rfl⟩
      | cons l ls =>
        refine ⟨(a :: l) :: ls, w, fun x hx => ?_, h2, rfl⟩
        rcases List.mem_cons.mp hx with rfl | hx
        · obtain ⟨w', rfl, hw'⟩ := h1 l (.head _)
          refine ⟨a :: w', rfl, fun c hc => ?_⟩
          rcases List.mem_cons.mp hc with rfl | hc
          · exact q
          · exact hw' c hc
        · exact h1 x (.tail _ hx)
theorem ended_lines {B : List Int} : ∃ ls, Lines ls ∧ B ++ [10] = ls.flatten := by
  obtain ⟨ls, w, h1, h2, e⟩ := split_lines (B ++ [10])
  rcases Classical.em (w = []) with q | q
  · subst q; exact ⟨ls, h1, by rw [e, List.append_nil]⟩
  · obtain ⟨w', c, rfl⟩ := snoc_of q
    rw [← List.append_assoc] at e
    have := (List.append_inj' e rfl).2
    simp at this
    exact absurd this.symm (h2 c (by simp))
theorem idx_first {w R : List Int} (h : N10 w) : (w ++ 10 :: R).idxOf 10 = w.length := by
  induction w with
  | nil => simp
  | cons a w ih =>
    rw [List.cons_append, List.idxOf_cons]
    have : (a == 10) = false := by simpa using h a (.head _)
    rw [this]
    simp only [cond_false]
    rw [ih fun c hc => h c (.tail _ hc)]; rfl
/-- the third law, of lines -/
theorem lines_law {codes : List Int} {p i n : Int} (hp : 0 ≤ p ∧ p ≤ 64) (hz : codes.length ≤ 63) (h1 : p ≤ i ∧ i ≤ p + codes.length) (h0 : 0 < n) (hg : ¬ (nl10 (codes ++ [10]) : Int) ≤ max 0 ((nl10 (codes.take (i - p).toNat) : Int) - 1) + n) :
    LinesOk (codes ++ [10]) p i (max i (p + ((codes ++ [10]).idxOf 10 : Nat) + 1)) n := by
  obtain ⟨ls₁, v, hls₁, hv, et⟩ := split_lines (codes.take (i - p).toNat)
  have ei : i = p + ls₁.flatten.length + v.length := by
    have := congrArg List.length et
    rw [List.length_take, List.length_append] at this
    lia
  obtain ⟨ls₂, hls₂, ed⟩ := ended_lines (B := codes.drop (i - p).toNat)
  have eT : codes ++ [10] = ls₁.flatten ++ (v ++ ls₂.flatten) := by
    rw [← ed, ← List.append_assoc, ← et, ← List.append_assoc, List.take_append_drop]
  cases ls₂ with
  | nil => simp at ed
  | cons l₀ ls₂ =>
  have hl₀ : Line (v ++ l₀) := by
    obtain ⟨w, rfl, hw⟩ := hls₂ l₀ (.head _)
    refine ⟨v ++ w, by simp, fun c hc => ?_⟩
    rcases List.mem_append.mp hc with hc | hc
    · exact hv c hc
    · exact hw c hc
  have hls₂' : Lines ls₂ := fun x hx => hls₂ x (.tail _ hx)
  have own : nl10 (codes.take (i - p).toNat) = ls₁.length := by rw [et, nl10_app, nl10_lines hls₁, nl10_none hv]; lia
  have rows : nl10 (codes ++ [10]) = ls₁.length + 1 + ls₂.length := by
    have e : codes ++ [10] = (ls₁ ++ (v ++ l₀) :: ls₂).flatten := by rw [eT]; simp
    rw [e, nl10_lines (fun x hx => by
      simp only [List.mem_append, List.mem_cons] at hx
      rcases hx with hx | rfl | hx
      · exact hls₁ x hx
      · exact hl₀
      · exact hls₂' x hx)]
    simp; lia
  rw [own, rows] at hg
  have hz' : (codes ++ [10]).length ≤ 64 := by simp; lia
  by_cases hk : ls₁ = []
  · subst hk
    simp only [List.length_nil] at hg
    simp only [List.flatten_nil, List.length_nil, List.nil_append] at ei eT
    have hn : n.toNat ≤ ls₂.length := by simp at hg; lia
    have eT' : codes ++ [10] = [] ++ (v ++ l₀) ++ (ls₂.take n.toNat).flatten ++ (ls₂.drop n.toNat).flatten := by
      rw [eT, List.append_assoc, ← List.flatten_append, List.take_append_drop]; simp
    have hidx : ((codes ++ [10]).idxOf 10 : Int) + 1 = (v ++ l₀).length := by
      obtain ⟨w, ew, hw⟩ := hl₀
      have : codes ++ [10] = w ++ 10 :: ls₂.flatten := by
        rw [eT, List.flatten_cons, ← List.append_assoc, ew]; simp
      rw [this, idx_first hw, ew]; simp
    have hvl : v.length < (v ++ l₀).length := by
      have := (hls₂ l₀ (.head _)).len
      simp; lia
    have hmax : max i (p + ((codes ++ [10]).idxOf 10 : Nat) + 1) = p + ([] : List Int).length + (v ++ l₀).length + ([] : List Int).length := by
      simp only [List.length_nil] at hidx ⊢
      lia
    rw [hmax]
    refine lines_core (A := []) (l := v ++ l₀) (ms := ls₂.take n.toNat) (R := (ls₂.drop n.toNat).flatten) (v := []) hp (.inl rfl) hl₀ (fun x hx => hls₂' x (List.mem_of_mem_take hx)) eT' hz' ?_ (by rw [List.length_take]; lia) h0 (fun _ h => by cases h) (fun m t _ => ⟨m, rfl⟩) rfl
    rw [eT, target_first hv (by lia)]; simp
  · obtain ⟨ls, l, rfl⟩ := snoc_of hk
    have hl : Line l := hls₁ l (by simp)
    have hls : Lines ls := fun x hx => hls₁ x (by simp [hx])
    simp only [List.length_append, List.length_singleton] at hg
    have hn : n.toNat ≤ ls₂.length + 1 := by lia
    have ef : (ls ++ [l]).flatten = ls.flatten ++ l := by simp
    rw [ef] at ei eT
    have eT' : codes ++ [10] = ls.flatten ++ l ++ (((v ++ l₀) :: ls₂).take n.toNat).flatten ++ (((v ++ l₀) :: ls₂).drop n.toNat).flatten := by
      rw [eT, List.append_assoc _ _ (List.flatten (List.drop _ _)), ← List.flatten_append, List.take_append_drop]; simp
    obtain ⟨w, f, ew, hw⟩ : ∃ w f : List Int, (ls ++ [l]).flatten = w ++ 10 :: f ∧ N10 w := by
      cases ls with
      | nil =>
        obtain ⟨w, rfl, hw⟩ := hl
        exact ⟨w, [], by simp, hw⟩
      | cons m ls =>
        obtain ⟨w, rfl, hw⟩ := hls m (.head _)
        exact ⟨w, ls.flatten ++ l, by simp, hw⟩
    rw [ef] at ew
    have hidx : (codes ++ [10]).idxOf 10 = w.length := by
      rw [eT, ew, List.append_assoc, List.cons_append, idx_first hw]
    have hwl : w.length + 1 ≤ (ls.flatten ++ l).length := by rw [ew]; simp
    have hmax : max i (p + ((codes ++ [10]).idxOf 10 : Nat) + 1) = i := by rw [hidx]; lia
    rw [hmax]
    simp only [List.length_append] at ei hwl
    refine lines_core (A := ls.flatten) (l := l) (ms := ((v ++ l₀) :: ls₂).take n.toNat) (R := (((v ++ l₀) :: ls₂).drop n.toNat).flatten) (v := v) hp ?_ hl (fun x hx => ?_) eT' hz' ?_ (by rw [List.length_take]; simp; lia) h0 hv (fun m t e => ?_) (by lia)
    · simpa using lines_endL (A := []) (.inl rfl) hls
    · rcases List.mem_cons.mp (List.mem_of_mem_take hx) with rfl | hx
      · exact hl₀
      · exact hls₂' x hx
    · have := target_back (A := ls.flatten) (l := l) (v := v) (R := (l₀ :: ls₂).flatten) (p := p) (i := i) (by simpa using lines_endL (A := []) (.inl rfl) hls) hl hv (by lia)
      rw [← this, eT]; simp
    · obtain ⟨k, hk⟩ : ∃ k, n.toNat = k + 1 := ⟨n.toNat - 1, by lia⟩
      rw [hk, List.take_succ_cons] at e
      cases e
      exact ⟨l₀, rfl⟩
section
variable {S : St} {d : Mut} {k k' : Nat} {J : JM} {a rb : Addr} {ρ ρ₁ : Rho} {σ : Sig} {e₁ e₂ o body : Expr} {pos np apos pp sp : Pos} {es : List Expr} {codes xs : List Int} {p i n y : Int} {r : Out} {wd : Int → Bool}
theorem e_chars (hk : σ.scope.names.lookup (u "chars_edit") = some .globalImplicit) (hs : PlainArgs es) (ha : ArgsOk S d σ (k + 16) J es ρ [isRow codes p, isInt i, isInt n]) (hf : Fit codes p i) (h2 : -64 ≤ n ∧ n ≤ 64) : EvOk S d σ (k + 16) J (.Call (.Name (u "chars_edit") np) es [] pos) ρ (outE (charsEdit codes p i n)) := by
  cases h : charsEdit codes p i n with
  | none => exact EvOk.callF D_chars_edit.d (x_chars_edit hf.1 hf.2.1 hf.2.2 h2 h) hk (fun _ => by kernel_rfl!) (by kernel_rfl!) hs ha
  | some e => exact EvOk.callF D_chars_edit.d (c_chars_edit hf.1 hf.2.1 hf.2.2 h2 h) hk (fun _ => by kernel_rfl!) (by kernel_rfl!) hs ha
theorem g_chars (hk : σ.scope.names.lookup (u "chars_edit") = some .globalImplicit) : EvOk S d σ k J (.Name (u "chars_edit") pos) ρ (.val (editV S p fun c i => charsEdit c p i 1)) :=
  EvOk.conv (fun I v h => by
    cases h
    obtain ⟨c, dd, sl, e⟩ := D_chars_edit.d.at_ S.w.params
    refine ⟨⟨137, _, _, rfl, .inr (S.kin _ _ e), rfl⟩, fun d J cs j hf => ?_⟩
    show CallS S d 16 J _ _ _ (outE (charsEdit cs p j 1)) J
    cases q : charsEdit cs p j 1 with
    | none => exact ⟨fun _ => x_chars_edit (k := 0) hf.1 hf.2.1 hf.2.2 (by lia) q (fun _ _ e => by cases e)⟩
    | some e => exact ⟨fun _ => c_chars_edit (k := 0) hf.1 hf.2.1 hf.2.2 (by lia) q (fun _ _ e => by cases e)⟩) (EvOk.glob (v := .ref 137) hk (fun _ => by kernel_rfl!) (by kernel_rfl!))
end
local macro_rules | `(tactic| walk_at "ev") => `(tactic| ((with_reducible apply g_chars); walk_at "K"))
section
variable {S : St} {d : Mut} {k k' : Nat} {J : JM} {a rb : Addr} {ρ ρ₁ : Rho} {σ : Sig} {e₁ e₂ o body : Expr} {pos np apos pp sp : Pos} {es : List Expr} {codes xs : List Int} {p i n y : Int} {r : Out} {wd : Int → Bool}
/-- the arguments of _law_done -/
theorem done_args {e₁ e₂ e₃ : Expr} {P₁ P₂ P₃ : VP} (h₁ : EvOk S d σ k J e₁ ρ (.val P₁)) (h₂ : EvOk S d σ k J e₂ ρ (.val P₂)) (h₃ : EvOk S d σ k J e₃ ρ (.val P₃)) (s₁ : ∀ env, starEach [e₁, e₂, e₃] env = (false, eval e₁ env) :: starEach [e₂, e₃] env) (s₂ : ∀ env, starEach [e₂, e₃] env = (false, eval e₂ env) :: starEach [e₃] env) (s₃ : ∀ env, starEach [e₃] env = (false, eval e₃ env) :: starEach [] env) : ArgsOk S d σ k J [e₁, e₂, e₃] ρ [P₁, P₂, P₃] :=
  .cons h₁ (.cons h₂ (.cons h₃ .nil s₃) s₂) s₁
noncomputable abbrev st__law_are_chars_right : Stmt := topS 56
theorem D__law_are_chars_right : DefIs 449 (fdO st__law_are_chars_right (u "_law_are_chars_right") .none (.str (u "law_pq0280_01") 756) (.ref 448)) (sigO st__law_are_chars_right (u "_law_are_chars_right") (.ref 448)) (bodyOf st__law_are_chars_right) := defIs_of (fun _ => by kernel_rfl!) (by kernel_rfl!) (fun _ => by kernel_rfl!)
theorem c__law_are_chars_right (hz : codes.length ≤ 63) (hp : 0 ≤ p ∧ p ≤ 64) (h1 : p ≤ i ∧ i ≤ p + codes.length) (h2 : 0 < n ∧ n ≤ 32) : CallOk S d (k + 20) J 449 [isList codes, isInt p, isInt i, isInt n] (.val (isBool true)) J := by
  refine CallOk.defO (xs := [u "_law_codes", u "_law_first", u "_law_place", u "_law_many"]) (DPs := []) (dvs := []) (os := [(u "_law_once", emptyO)]) (P' := fun _ => isBool true) (J' := looseJ J) D__law_are_chars_right (fun vs hl => ?_) (fun _ => by kernel_rfl!) (by decide) (fun _ => .nil) (fun _ => by kernel_rfl!) (by show [u "_law_once"].Nodup; decide) (fun y O h => ?_) (fun cs hl hn hd => ?_) (fun cs l I' h' v hl hn hd ok hv => ?_)
  · obtain ⟨v0, v1, v2, v3, rfl⟩ := len4 hl
    rfl
  · simp only [List.mem_singleton, Prod.mk.injEq] at h
    obtain ⟨rfl, rfl⟩ := h
    exact .inr ⟨by decide, rfl⟩
  · match cs, hl with
    | [c], _ =>
    have hdc : ¬ d c := hd c (.head _)
    show Blk S (plus d c) { sigO st__law_are_chars_right (u "_law_are_chars_right") (.ref 448) with own := [(u "_law_once", c)] } (k + 19) (upd J c emptyO) _ [(u "_law_codes", isList codes), (u "_law_first", isInt p), (u "_law_place", isInt i), (u "_law_many", isInt n)] _ _
    have hfit : Fit codes p i := ⟨by lia, hp, h1⟩
    cases he : charsEdit codes p i n with
    | none =>
      refine Blk.assignC (c := c) (P := isNone) (e_done0 (k := k + 1) (codes := codes) (p := p) (by kernel_rfl!) (fun _ => rfl) (done_args (by walk_at "ev") (by walk_at "ev") ?_ (fun _ => rfl) (fun _ => rfl) (fun _ => rfl)) (by lia)) ⟨by kernel_rfl!, by kernel_rfl!, .inr rfl, fun I o h => by rw [upd_at] at h; exact ⟨_, h⟩⟩ (fun _ => rfl) ?_
      · refine EvOk.lam (xs := [u "_law_view"]) (cA := 448) (tA := 444) (ρ₁ := [(u "_law_place", isInt i), (u "_law_many", isInt n)]) ?_ rfl (fun _ => rfl) (by walk_at "fr") (by kernel_rfl!) (fun _ _ _ _ vs hl => by obtain ⟨v, rfl⟩ := len1 hl; rfl) (by kernel_rfl!) (by decide) (by kernel_rfl!) (by kernel_rfl!) (fun cd => ?_)
        · show (u "_law_are_chars_right", 448, 444) ∈ tabsL; decide +kernel
        · show EvOk S _ _ (k + 1 + 16) _ _ [(u "_law_view", isRow codes p), (u "_law_place", isInt i), (u "_law_many", isInt n)] (outE none)
          rw [← he]
          exact e_chars (by kernel_rfl!) (fun _ => rfl) (by walk_at "args") hfit (by lia)
      · rw [upd_upd]
        refine Blk.weak (J' := upd J c (cellO isNone)) ?_ rfl fun b I o _ hj => loose_upd hj
        walk_at "if1"
        · rfl
        · walk_at "ret"
          rfl
    | some e =>
      obtain ⟨q1, q2, q3, q4, q5, e', q6, q7, q8⟩ := chars_law hp (by lia) h1 h2.1 he
      refine Blk.assignC (c := c) (P := isTup [isList (applyE codes p e).1, isInt (applyE codes p e).2]) (e_done1 (k := k + 1) (e := e) (codes := codes) (p := p) (by kernel_rfl!) (fun _ => rfl) (done_args (by walk_at "ev") (by walk_at "ev") ?_ (fun _ => rfl) (fun _ => rfl) (fun _ => rfl)) (by lia) q1) ⟨by kernel_rfl!, by kernel_rfl!, .inr rfl, fun I o h => by rw [upd_at] at h; exact ⟨_, h⟩⟩ (fun _ => rfl) ?_
      · refine EvOk.lam (xs := [u "_law_view"]) (cA := 448) (tA := 444) (ρ₁ := [(u "_law_place", isInt i), (u "_law_many", isInt n)]) ?_ rfl (fun _ => rfl) (by walk_at "fr") (by kernel_rfl!) (fun _ _ _ _ vs hl => by obtain ⟨v, rfl⟩ := len1 hl; rfl) (by kernel_rfl!) (by decide) (by kernel_rfl!) (by kernel_rfl!) (fun cd => ?_)
        · show (u "_law_are_chars_right", 448, 444) ∈ tabsL; decide +kernel
        · show EvOk S _ _ (k + 1 + 16) _ _ [(u "_law_view", isRow codes p), (u "_law_place", isInt i), (u "_law_many", isInt n)] (outE (some e))
          rw [← he]
          exact e_chars (by kernel_rfl!) (fun _ => rfl) (by walk_at "args") hfit (by lia)
      · rw [upd_upd]
        refine Blk.weak (J' := upd J c (cellO (isTup [isList (applyE codes p e).1, isInt (applyE codes p e).2]))) ?_ rfl fun b I o _ hj => loose_upd hj
        walk_at "if0"
        · rfl
        · exact Blk.nil
        · refine Blk.ifFe (b := false || (!decide ((applyE codes p e).2 = i + n) || false)) (TestOk.or (b := false) (TestOk.neD (Rd.tup2 (Rd.list (xs := (applyE codes p e).1)) (Rd.int (i := (applyE codes p e).2))) (Rd.tup2 (Rd.list (xs := (applyE codes p e).1)) (Rd.int (i := (applyE codes p e).2))) (sh_pair _ _) (sh_pair _ _) (by rw [eqv_pair, decide_eq_true rfl]; rfl) (EvOk.to (e__law_stepped (k := k) (codes := codes) (p := p) (i := i) (n := n) (ed := fun c i => charsEdit c p i 1) (by kernel_rfl!) (fun _ => rfl) (by walk_at "args") ⟨by lia, by lia⟩ q2) (by rw [q3]; rfl)) (by walk_at "ev") rfl) fun _ => ?_) (by rw [q4]; simp) Blk.nil ?_
          · walk_at "te"
          · refine Blk.ret (EvOk.eqD (Rd.tup2 (Rd.list (xs := codes)) (Rd.int (i := i))) (Rd.tup2 (Rd.list (xs := codes)) (Rd.int (i := i))) (sh_pair _ _) (sh_pair _ _) (by rw [eqv_pair, decide_eq_true rfl]) (EvOk.to (e_done1 (k := k + 1) (e := e') (codes := (applyE codes p e).1) (p := p) (by kernel_rfl!) (fun _ => rfl) (done_args (by walk_at "ev") (by walk_at "ev") ?_ (fun _ => rfl) (fun _ => rfl) (fun _ => rfl)) q5.1 q7) (by rw [q8])) (by walk_at "ev") rfl)
            refine EvOk.lam (xs := [u "_law_view"]) (cA := 448) (tA := 444) (ρ₁ := [(u "_law_once", isTup [isList (applyE codes p e).1, isInt (applyE codes p e).2]), (u "_law_many", isInt n)]) ?_ rfl (fun _ => rfl) (by walk_at "fr") (by kernel_rfl!) (fun _ _ _ _ vs hl => by obtain ⟨v, rfl⟩ := len1 hl; rfl) (by kernel_rfl!) (by decide) (by kernel_rfl!) (by kernel_rfl!) (fun cd => ?_)
            · show (u "_law_are_chars_right", 448, 444) ∈ tabsL; decide +kernel
            · show EvOk S _ _ (k + 1 + 16) _ _ [(u "_law_view", isRow (applyE codes p e).1 p), (u "_law_once", isTup [isList (applyE codes p e).1, isInt (applyE codes p e).2]), (u "_law_many", isInt n)] (outE (some e'))
              rw [← q6]
              exact e_chars (by kernel_rfl!) (fun _ => rfl) (by walk_at "args") q5 (by lia)
  · refine ⟨I', Le.refl _, ok.less' (fun b hb => plusL_in.mpr (.inl hb)) (fun b hb => ?_), hv⟩
    unfold looseJ
    rw [if_neg fun q => hd b q hb]
end
/-- the letters of a text -/
noncomputable def letter (c : Int) : Bool := decide (97 ≤ c ∧ c ≤ 122)
theorem letter_test (c : Int) : (!(decide (97 ≤ c) && decide (c ≤ 122))) = !letter c := by unfold letter; rw [Bool.decide_and]
theorem loose_of {J J₂ : JM} {cs : List Addr} (h : ∀ b, b ∉ cs → J₂ b = J b) {b : Addr} {I : IM} {o : Obj} (hj : (J₂ b).p I o) : (looseJ J cs b).p I o := by
  unfold looseJ
  by_cases q : b ∈ cs
  · rw [if_pos q]; trivial
  · rw [if_neg q, ← h b q]; exact hj
theorem words_in {wd : Int → Bool} {codes : List Int} {p i x : Int} (h1 : p ≤ i ∧ i ≤ p + codes.length) (hx : codes.getLast? = some x) (hw : wd x = true) : (wordBy codes p wd i (-1)).1 < p + codes.length := by
  obtain ⟨B, rfl⟩ : ∃ B, codes = B ++ [x] := by
    obtain ⟨B, c, rfl⟩ := snoc_of (l := codes) (fun q => by subst q; simp at hx)
    simp at hx; subst hx; exact ⟨B, rfl⟩
  by_cases q : i = p + (B ++ [x]).length
  · have := by_back (wd := wd) (p := p) (A := B ++ [x]) (B := []) (a := i) (n := 1) q (by decide)
    rw [List.append_nil] at this
    rw [show (-1 : Int) = 0 - 1 from rfl, this]
    rcases first_word (wd := wd) (B ++ [x]).reverse with hn | ⟨S, w, R, hs, hS, hw', hne, hR⟩
    · have := hn x (by simp)
      rw [hw] at this; cases this
    · rw [show Int.toNat 1 = 0 + 1 from rfl, hs, adv_word hS hw' hne hR]
      have := List.length_pos_iff.mpr hne
      lia
  · have : (wordBy (B ++ [x]) p wd i (-1)).1 ≤ i := by
      unfold wordBy
      rw [if_neg (by decide)]
      exact (wB_in _ i h1.1).2
    lia
theorem codeAt_get {codes : List Int} {p j : Int} (h : p ≤ j ∧ j < p + codes.length) : codes[(j - p).toNat]? = some (codeAt codes p j) := by
  unfold codeAt
  rw [if_pos h, List.getD_eq_getElem?_getD, List.getElem?_eq_getElem (by lia)]
  rfl
section
variable {S : St} {d : Mut} {k k' : Nat} {J : JM} {a rb : Addr} {ρ ρ₁ : Rho} {σ : Sig} {e₁ e₂ o body : Expr} {pos np apos pp sp : Pos} {es : List Expr} {codes xs : List Int} {p i n y : Int} {r : Out} {wd : Int → Bool}
theorem e_units {mv : Int → Int → Option Int} (hk : σ.scope.names.lookup (u "units_edit") = some .globalImplicit) (hs : PlainArgs es) (ha : ArgsOk S d σ (k + 15) J es ρ [isMover S codes p mv, isRow codes p, isInt i, isInt n]) (hf : Fit codes p i) (h2 : -64 ≤ n ∧ n ≤ 64) (st : Stays codes p mv) : EvOk S d σ (k + 15) J (.Call (.Name (u "units_edit") np) es [] pos) ρ (outE (unitsEdit codes p mv i n)) := by
  cases h : unitsEdit codes p mv i n with
  | none => exact EvOk.callF D_units_edit.d (x_units_edit hf.1 hf.2.1 hf.2.2 h2 st h) hk (fun _ => by kernel_rfl!) (by kernel_rfl!) hs ha
  | some e => exact EvOk.callF D_units_edit.d (c_units_edit hf.1 hf.2.1 hf.2.2 h2 st h) hk (fun _ => by kernel_rfl!) (by kernel_rfl!) hs ha
theorem EvOk.asMover {e : Expr} (h : EvOk S d σ k J e ρ (.val (wordsV S wd))) (hz : codes.length ≤ 2 ^ 16) (A : Alpha stdSp wd codes) : EvOk S d σ k J e ρ (.val (isMover S codes p (byW wd codes p))) := EvOk.conv (fun I v hv => (show ∀ codes p, codes.length ≤ 2 ^ 16 → Alpha stdSp wd codes → MoverAt S codes p (fun i n => some (wordBy codes p wd i n).1) I v from hv) codes p hz A) h
theorem e__law_mover_of {es : List Expr} {np pos : Pos} {ρ : Rho} {σ : Sig} (hk : σ.scope.names.lookup (u "_law_mover_of") = some .globalImplicit) (hs : PlainArgs es) (ha : ArgsOk S d σ (k + 6) J es ρ [])  : EvOk S d σ (k + 6) J (.Call (.Name (u "_law_mover_of") np) es [] pos) ρ (.val (wordsV S wd)) :=
  EvOk.callF D__law_mover_of.d (c__law_mover_of ) hk (fun _ => by kernel_rfl!) (by kernel_rfl!) hs ha
end
local macro_rules | `(tactic| walk_at "ev") => `(tactic| ((with_reducible apply e__law_mover_of); walk_at "K"; walk_at "R"; walk_at "A"))
section
variable {S : St} {d : Mut} {k k' : Nat} {J : JM} {a rb : Addr} {ρ ρ₁ : Rho} {σ : Sig} {e₁ e₂ o body : Expr} {pos np apos pp sp : Pos} {es : List Expr} {codes xs : List Int} {p i n y : Int} {r : Out} {wd : Int → Bool}
noncomputable abbrev st__law_are_words_right : Stmt := topS 57
theorem D__law_are_words_right : DefIs 456 (fdO st__law_are_words_right (u "_law_are_words_right") .none (.str (u "law_pq0280_01") 756) (.ref 455)) (sigO st__law_are_words_right (u "_law_are_words_right") (.ref 455)) (bodyOf st__law_are_words_right) := defIs_of (fun _ => by kernel_rfl!) (by kernel_rfl!) (fun _ => by kernel_rfl!)
theorem c__law_are_words_right (hz : codes.length ≤ 63) (hp : 0 ≤ p ∧ p ≤ 64) (h1 : p ≤ i ∧ i ≤ p + codes.length) (h2 : 0 < n ∧ n ≤ 32) (hA : Alpha stdSp letter codes) (hin : (wordBy codes p letter i (-1)).1 < p + codes.length) : CallOk S d (k + 20) J 456 [isList codes, isInt p, isInt i, isInt n] (.val (isBool true)) J := by
  refine CallOk.defO (xs := [u "_law_codes", u "_law_first", u "_law_place", u "_law_many"]) (DPs := []) (dvs := []) (os := [(u "_law_mover", emptyO), (u "_law_once", emptyO)]) (P' := fun _ => isBool true) (J' := looseJ J) D__law_are_words_right (fun vs hl => ?_) (fun _ => by kernel_rfl!) (by decide) (fun _ => .nil) (fun _ => by kernel_rfl!) (by show [u "_law_mover", u "_law_once"].Nodup; decide) (fun y O h => ?_) (fun cs hl hn hd => ?_) (fun cs l I' h' v hl hn hd ok hv => ?_)
  · obtain ⟨v0, v1, v2, v3, rfl⟩ := len4 hl
    rfl
  · simp only [List.mem_cons, List.not_mem_nil, or_false, Prod.mk.injEq] at h
    rcases h with ⟨rfl, rfl⟩ | ⟨rfl, rfl⟩
    · exact .inr ⟨by decide, rfl⟩
    · exact .inr ⟨by decide, rfl⟩
  · match cs, hl with
    | [c₁, c₂], _ =>
    have hd1 : ¬ d c₁ := hd c₁ (.head _)
    have hd2 : ¬ d c₂ := hd c₂ (.tail _ (.head _))
    have hne : c₁ ≠ c₂ := fun q => by
      subst q
      simp at hn
    have hlo : p ≤ (wordBy codes p letter i (-1)).1 := by
      unfold wordBy
      rw [if_neg (by decide)]
      exact (wB_in _ i h1.1).1
    have hzz : codes.length ≤ 2 ^ 16 := by lia
    show Blk S (plus (plus d c₁) c₂) { sigO st__law_are_words_right (u "_law_are_words_right") (.ref 455) with own := [(u "_law_mover", c₁), (u "_law_once", c₂)] } (k + 19) (upd (upd J c₁ emptyO) c₂ emptyO) _ [(u "_law_codes", isList codes), (u "_law_first", isInt p), (u "_law_place", isInt i), (u "_law_many", isInt n)] _ _
    have hfit : Fit codes p i := ⟨by lia, hp, h1⟩
    refine Blk.assignC (c := c₁) (P := wordsV S letter) (e__law_mover_of (k := k + 13) (by kernel_rfl!) (fun _ => rfl) ArgsOk.nil) ⟨by kernel_rfl!, by kernel_rfl!, .inl (.inr rfl), fun I o h => by rw [upd_off hne, upd_at] at h; exact ⟨_, h⟩⟩ (fun _ => rfl) ?_
    have j1 : ∀ b, b ∉ [c₁, c₂] → upd (upd (upd J c₁ emptyO) c₂ emptyO) c₁ (cellO (wordsV S letter)) b = J b := fun b hb => by
      simp only [List.mem_cons, List.not_mem_nil, or_false, not_or] at hb
      rw [upd_off hb.1, upd_off hb.2, upd_off hb.1]
    have j2 : ∀ P b, b ∉ [c₁, c₂] → upd (upd (upd (upd J c₁ emptyO) c₂ emptyO) c₁ (cellO (wordsV S letter))) c₂ (cellO P) b = J b := fun P b hb => by
      have := j1 b hb
      simp only [List.mem_cons, List.not_mem_nil, or_false, not_or] at hb
      rw [upd_off hb.2, this]
    have j3 : upd (upd (upd J c₁ emptyO) c₂ emptyO) c₁ (cellO (wordsV S letter)) c₂ = emptyO := by rw [upd_off (Ne.symm hne), upd_at]
    generalize upd (upd (upd J c₁ emptyO) c₂ emptyO) c₁ (cellO (wordsV S letter)) = J₁ at j1 j2 j3 ⊢
    refine Blk.assign (P := isInt ((wordBy codes p letter i (-1)).1 - p)) (EvOk.sub (EvOk.mover (k := k + 7) (mv := byW letter codes p) (i := i) (n := -1) (EvOk.asMover (by walk_at "ev") hzz hA) (fun _ => rfl) (by walk_at "args") ⟨h1.1, h1.2, by decide, by decide⟩ rfl) (by walk_at "ev")) (by kernel_rfl!) (fun _ => rfl) ?_
    by_cases hl : letter (codeAt codes p (wordBy codes p letter i (-1)).1) = true
    · refine Blk.ifFe (b := !(decide (97 ≤ codeAt codes p (wordBy codes p letter i (-1)).1) && decide (codeAt codes p (wordBy codes p letter i (-1)).1 ≤ 122))) (TestOk.not (TestOk.chain' (by walk_at "ev") (EvOk.item (fun _ _ => rfl) (by lia) (codeAt_get ⟨hlo, hin⟩) (by lia) (by walk_at "ev") (by walk_at "ev")) (by walk_at "ev") rfl cmp_le cmp_le)) ?_ Blk.nil ?_
      · rw [letter_test, hl]; rfl
      · cases he : unitsEdit codes p (byW letter codes p) i n with
        | none =>
          refine Blk.assignC (c := c₂) (P := isNone) (e_done0 (k := k + 1) (codes := codes) (p := p) (by kernel_rfl!) (fun _ => rfl) (done_args (by walk_at "ev") (by walk_at "ev") ?_ (fun _ => rfl) (fun _ => rfl) (fun _ => rfl)) (by lia)) ⟨by kernel_rfl!, by kernel_rfl!, .inr rfl, fun I o h => by rw [j3] at h; exact ⟨_, h⟩⟩ (fun _ => rfl) ?_
          · refine EvOk.lam (xs := [u "_law_view"]) (cA := 455) (tA := 451) (ρ₁ := [(u "_law_mover", wordsV S letter), (u "_law_place", isInt i), (u "_law_many", isInt n)]) ?_ rfl (fun _ => rfl) (by walk_at "fr") (by kernel_rfl!) (fun _ _ _ _ vs hl => by obtain ⟨v, rfl⟩ := len1 hl; rfl) (by kernel_rfl!) (by decide) (by kernel_rfl!) (by kernel_rfl!) (fun cd => ?_)
            · show (u "_law_are_words_right", 455, 451) ∈ tabsL; decide +kernel
            · show EvOk S _ _ (k + 2 + 15) _ _ ((u "_law_view", isRow codes p) :: [(u "_law_mover", wordsV S letter), (u "_law_place", isInt i), (u "_law_many", isInt n)]) (outE none)
              rw [← he]
              exact e_units (by kernel_rfl!) (fun _ => rfl) (ArgsOk.cons (EvOk.asMover (by walk_at "ev") hzz hA) (by walk_at "args") (fun _ => rfl)) hfit (by lia) by_stays
          · refine Blk.weak (J' := upd J₁ c₂ (cellO isNone)) ?_ rfl fun b I o _ hj => loose_of (j2 _) hj
            walk_at "if1"
            · rfl
            · walk_at "ret"
              rfl
        | some e =>
          obtain ⟨q1, q2, q3, e', q4, q5, q6⟩ := words_law hp (by lia) h1 h2.1 hl hin he
          refine Blk.assignC (c := c₂) (P := isTup [isList (applyE codes p e).1, isInt (applyE codes p e).2]) (e_done1 (k := k + 1) (e := e) (codes := codes) (p := p) (by kernel_rfl!) (fun _ => rfl) (done_args (by walk_at "ev") (by walk_at "ev") ?_ (fun _ => rfl) (fun _ => rfl) (fun _ => rfl)) (by lia) q1) ⟨by kernel_rfl!, by kernel_rfl!, .inr rfl, fun I o h => by rw [j3] at h; exact ⟨_, h⟩⟩ (fun _ => rfl) ?_
          · refine EvOk.lam (xs := [u "_law_view"]) (cA := 455) (tA := 451) (ρ₁ := [(u "_law_mover", wordsV S letter), (u "_law_place", isInt i), (u "_law_many", isInt n)]) ?_ rfl (fun _ => rfl) (by walk_at "fr") (by kernel_rfl!) (fun _ _ _ _ vs hl => by obtain ⟨v, rfl⟩ := len1 hl; rfl) (by kernel_rfl!) (by decide) (by kernel_rfl!) (by kernel_rfl!) (fun cd => ?_)
            · show (u "_law_are_words_right", 455, 451) ∈ tabsL; decide +kernel
            · show EvOk S _ _ (k + 2 + 15) _ _ ((u "_law_view", isRow codes p) :: [(u "_law_mover", wordsV S letter), (u "_law_place", isInt i), (u "_law_many", isInt n)]) (outE (some e))
              rw [← he]
              exact e_units (by kernel_rfl!) (fun _ => rfl) (ArgsOk.cons (EvOk.asMover (by walk_at "ev") hzz hA) (by walk_at "args") (fun _ => rfl)) hfit (by lia) by_stays
          · refine Blk.weak (J' := upd J₁ c₂ (cellO (isTup [isList (applyE codes p e).1, isInt (applyE codes p e).2]))) ?_ rfl fun b I o _ hj => loose_of (j2 _) hj
            have hA' : Alpha stdSp letter (applyE codes p e).1 := fun c hc => hA c (q3 c hc)
            walk_at "if0"
            · rfl
            · exact Blk.nil
            refine Blk.assign (P := isTup [isList codes, isInt (applyE (applyE codes p e).1 p e').2]) (EvOk.to (e_done1 (k := k + 1) (e := e') (codes := (applyE codes p e).1) (p := p) (by kernel_rfl!) (fun _ => rfl) (done_args (by walk_at "ev") (by walk_at "ev") ?_ (fun _ => rfl) (fun _ => rfl) (fun _ => rfl)) q2.1 q5) (by rw [q6])) (by kernel_rfl!) (fun _ => rfl) ?_
            · refine EvOk.lam (xs := [u "_law_view"]) (cA := 455) (tA := 451) (ρ₁ := [(u "_law_mover", wordsV S letter), (u "_law_once", isTup [isList (applyE codes p e).1, isInt (applyE codes p e).2]), (u "_law_many", isInt n)]) ?_ rfl (fun _ => rfl) (by walk_at "fr") (by kernel_rfl!) (fun _ _ _ _ vs hl => by obtain ⟨v, rfl⟩ := len1 hl; rfl) (by kernel_rfl!) (by decide) (by kernel_rfl!) (by kernel_rfl!) (fun cd => ?_)
              · show (u "_law_are_words_right", 455, 451) ∈ tabsL; decide +kernel
              · show EvOk S _ _ (k + 2 + 15) _ _ ((u "_law_view", isRow (applyE codes p e).1 p) :: [(u "_law_mover", wordsV S letter), (u "_law_once", isTup [isList (applyE codes p e).1, isInt (applyE codes p e).2]), (u "_law_many", isInt n)]) (outE (some e'))
                rw [← q4]
                exact e_units (by kernel_rfl!) (fun _ => rfl) (ArgsOk.cons (EvOk.asMover (by walk_at "ev") (by have := q2.1; lia) hA') (by walk_at "args") (fun _ => rfl)) q2 (by lia) by_stays
            · refine Blk.ret (EvOk.andT (by walk_at "ev") (EvOk.bool1 (EvOk.eqD (Rd.list (xs := codes)) (Rd.list (xs := codes)) (sh_list _) (sh_list _) (by rw [eqv_list, decide_eq_true rfl]) (by walk_at "ev") (by walk_at "ev") rfl)))
    · refine Blk.weak (J' := J₁) ?_ rfl fun b I o _ hj => loose_of j1 hj
      refine Blk.ifRe (b := !(decide (97 ≤ codeAt codes p (wordBy codes p letter i (-1)).1) && decide (codeAt codes p (wordBy codes p letter i (-1)).1 ≤ 122))) (TestOk.not (TestOk.chain' (by walk_at "ev") (EvOk.item (fun _ _ => rfl) (by lia) (codeAt_get ⟨hlo, hin⟩) (by lia) (by walk_at "ev") (by walk_at "ev")) (by walk_at "ev") rfl cmp_le cmp_le)) ?_ ?_
      · rw [letter_test, (Bool.not_eq_true _).mp hl]; rfl
      · walk_at "ret"
        rfl
  · refine ⟨I', Le.refl _, ok.less' (fun b hb => plusL_in.mpr (.inl hb)) (fun b hb => ?_), hv⟩
    unfold looseJ
    rw [if_neg fun q => hd b q hb]
end
theorem tens_filter : ∀ xs : List Int, (xs.map fun c => if c = 10 then some c else none).filterMap id = xs.filter fun c => decide (c = 10)
  | [] => rfl
  | c :: xs => by
    rw [List.map_cons, List.filterMap_cons, List.filter_cons, tens_filter xs]
    by_cases h : c = 10
    · rw [if_pos h]; simp [h]
    · rw [if_neg h]; simp [h]
theorem nl10_le (xs : List Int) : nl10 xs ≤ xs.length := List.length_filter_le _ _
theorem weight_small {xs : List Int} (h : ∀ c ∈ xs, 0 ≤ c ∧ c < 128) : PyData.weightAll (xs.map .int) ≤ 8 * xs.length := by
  induction xs with
  | nil => simp [PyData.weightAll]
  | cons c xs ih =>
    have hc := h c (.head _)
    have := ih fun x hx => h x (.tail _ hx)
    have hw : (PyData.int c).weight ≤ 7 := by
      simp only [PyData.weight]
      split
      · lia
      · rename_i q
        have h0 : c.natAbs ≠ 0 := by
          simp at q; lia
        have := (Nat.log2_lt h0 (k := 7)).mpr (by lia)
        lia
    rw [List.map_cons, List.length_cons]
    simp only [PyData.weightAll]
    lia
theorem lay_small {xs : List Int} (h : ∀ c ∈ xs, 0 ≤ c ∧ c < 128) (hz : xs.length ≤ 64) : PyData.layable0 (.list (xs.map .int)) = true := by
  have := weight_small h
  unfold PyData.layable0
  simp only [PyData.canLay0, PyData.depth, PyData.weight, ke_canLayAll0, ke_depthAll, Bool.true_and, Bool.and_eq_true, decide_eq_true_eq]
  exact ⟨by lia, decide_eq_true (by lia)⟩
section
variable {S : St} {d : Mut} {k k' : Nat} {J : JM} {a rb : Addr} {ρ ρ₁ : Rho} {σ : Sig} {e₁ e₂ o body : Expr} {pos np apos pp sp : Pos} {es : List Expr} {codes xs : List Int} {p i n y : Int} {r : Out} {wd : Int → Bool}
/-- [c for c in xs if c == 10] -/
theorem EvOk.tens {x : Str} {iter : Expr} {p₁ p₂ p₃ p₄ px : Pos} {m : Nat} {scope : Scope} (h : EvOk S d σ k J iter ρ (.val (isList xs))) (hz : xs.length ≤ 2 ^ 16) (hall : (scope.names.all fun y => y.2 != .free || ([] : Rho).any (·.1 == y.1)) = true)
    (hsc : (scope.names.all fun y => y.2 != .cell && (y.2 != .local || scope.names.lookup y.1 == some .local)) = true) (hkind : scope.kind = .function) (hx : scope.names.lookup x = some .local) (hx' : (compSig σ scope).scope.names.lookup x = some .local)
    (hs : ∀ env x, foldedSetIterable iter env x = pure x) (hd : (!(x == ("__debug__" : Str)) && !(x == ("__classdict__" : Str))) = true) : EvOk S d σ k J (.ListComp (.Name x p₁) [⟨.Name x px, iter, [.Compare (.Name x p₂) [.Eq] [.Constant (.int 10) m p₃] p₄], 0⟩] scope pos) ρ (.val (isList (xs.filter fun c => decide (c = 10)))) := by
  rw [← tens_filter]
  refine EvOk.compInts (items := xs.map isInt) (ρ₁ := []) (EvOk.conv (fun I v h => isList_iter h) h) (by simp) (by rw [sizeLine_eq]; simp; lia) FreeOk.nil hall hsc hkind hx hx' hs (fun i Pi y h1 h2 d' J' M => ?_) fun i Pi y h1 h2 d' J' M => ?_
  · rw [List.getElem?_map] at h1 h2
    obtain ⟨c, q1, q2⟩ := Option.map_eq_some_iff.mp h1
    rw [q1] at h2
    cases q2
    simp only [Option.map_some, Option.some.injEq] at h2
    have hy : Option.isSome y = decide (c = 10) := by
      rw [← h2]
      by_cases q : c = 10
      · simp [q]
      · simp [q]
    rw [hy]
    exact TestOk.cmp cmp_eq (EvOk.name (by rw [hx']) (by simp) hd) EvOk.intC rfl
  · rw [List.getElem?_map] at h1 h2
    obtain ⟨c, q1, q2⟩ := Option.map_eq_some_iff.mp h1
    rw [q1] at h2
    cases q2
    simp only [Option.map_some, Option.some.injEq] at h2
    have hy : y = c := by
      by_cases q : c = 10
      · rw [if_pos q] at h2; cases h2; rfl
      · rw [if_neg q] at h2; cases h2
    subst hy
    exact EvOk.name (by rw [hx']) (by simp) hd
noncomputable abbrev st__law_line_two : Stmt := topS 59
theorem D__law_line_two : DefIs 468 (fdO st__law_line_two (u "_law_line_two") .none (.str (u "law_pq0280_01") 756) (.ref 467)) (sigO st__law_line_two (u "_law_line_two") (.ref 467)) (bodyOf st__law_line_two) := defIs_of (fun _ => by kernel_rfl!) (by kernel_rfl!) (fun _ => by kernel_rfl!)
theorem c__law_line_two (hlay : PyData.layable0 (.list (codes.map .int)) = true) (hi : 10 ∈ codes) : CallOk S d (k + 1) J 468 [isList codes, isInt p] (.val (isInt (p + (codes.idxOf 10 : Nat) + 1))) J := by
  refine CallOk.def (xs := [u "_law_codes", u "_law_first"]) (DPs := []) (dvs := []) D__law_line_two (by kernel_rfl!) (fun s vs hl _ => ?_) (by kernel_rfl!) (by decide) (fun _ => .nil) .val ?_
  · obtain ⟨v0, v1, rfl⟩ := len2 hl
    exact BindsTo.of_eq rfl
  show Blk S d _ _ J _ [(u "_law_codes", isList codes), (u "_law_first", isInt p)] _ _
  refine Blk.ret (EvOk.add (EvOk.add (by walk_at "ev") (EvOk.index (by walk_at "ev") (fun _ => rfl) (by walk_at "args") ⟨_, fun _ => rfl⟩ hlay hi)) (by walk_at "ev"))
theorem e__law_line_two {es : List Expr} {np pos : Pos} {ρ : Rho} {σ : Sig} (hk : σ.scope.names.lookup (u "_law_line_two") = some .globalImplicit) (hs : PlainArgs es) (ha : ArgsOk S d σ (k + 1) J es ρ [isList codes, isInt p]) (hlay : PyData.layable0 (.list (codes.map .int)) = true) (hi : 10 ∈ codes) : EvOk S d σ (k + 1) J (.Call (.Name (u "_law_line_two") np) es [] pos) ρ (.val (isInt (p + (codes.idxOf 10 : Nat) + 1))) :=
  EvOk.callF D__law_line_two.d (c__law_line_two hlay hi) hk (fun _ => by kernel_rfl!) (by kernel_rfl!) hs ha
end
local macro_rules | `(tactic| walk_at "ev") => `(tactic| ((with_reducible apply e__law_line_two); walk_at "K"; walk_at "R"; walk_at "A"; walk_at "D"; walk_at "D"))
section
variable {S : St} {d : Mut} {k k' : Nat} {J : JM} {a rb : Addr} {ρ ρ₁ : Rho} {σ : Sig} {e₁ e₂ o body : Expr} {pos np apos pp sp : Pos} {es : List Expr} {codes xs : List Int} {p i n y : Int} {r : Out} {wd : Int → Bool}
theorem g_lines (hk : σ.scope.names.lookup (u "lines_edit") = some .globalImplicit) : EvOk S d σ k J (.Name (u "lines_edit") pos) ρ (.val (editV S p (stepL p))) :=
  EvOk.conv (fun I v h => by
    cases h
    obtain ⟨c, dd, sl, e⟩ := D_lines_edit.d.at_ S.w.params
    refine ⟨⟨151, _, _, rfl, .inr (S.kin _ _ e), rfl⟩, fun d J cs j hf => ?_⟩
    exact ⟨fun _ => c_lines_edit (k := 10) hf.1 hf.2.1 hf.2.2 (by lia) (fun _ _ e => by cases e)⟩) (EvOk.glob (v := .ref 151) hk (fun _ => by kernel_rfl!) (by kernel_rfl!))
end
local macro_rules | `(tactic| walk_at "ev") => `(tactic| ((with_reducible apply g_lines); walk_at "K"))
section
variable {S : St} {d : Mut} {k k' : Nat} {J : JM} {a rb : Addr} {ρ ρ₁ : Rho} {σ : Sig} {e₁ e₂ o body : Expr} {pos np apos pp sp : Pos} {es : List Expr} {codes xs : List Int} {p i n y : Int} {r : Out} {wd : Int → Bool}
end
section
variable {S : St} {d : Mut} {k k' : Nat} {J : JM} {a rb : Addr} {ρ ρ₁ : Rho} {σ : Sig} {e₁ e₂ o body : Expr} {pos np apos pp sp : Pos} {es : List Expr} {codes xs T : List Int} {p i n y i' : Int} {r : Out} {wd : Int → Bool}
noncomputable abbrev st__law_are_lines_right : Stmt := topS 58
theorem D__law_are_lines_right : DefIs 461 (fdO st__law_are_lines_right (u "_law_are_lines_right") .none (.str (u "law_pq0280_01") 756) (.ref 460)) (sigO st__law_are_lines_right (u "_law_are_lines_right") (.ref 460)) (bodyOf st__law_are_lines_right) := defIs_of (fun _ => by kernel_rfl!) (by kernel_rfl!) (fun _ => by kernel_rfl!)
theorem c__law_are_lines_right (hz : codes.length ≤ 60) (hp : 0 ≤ p ∧ p ≤ 64) (h1 : p ≤ i ∧ i ≤ p + codes.length) (h2 : 0 < n ∧ n ≤ 32) (hs : ∀ c ∈ codes, 0 ≤ c ∧ c < 128) {x : Int} (hx : codes.getLast? = some x) (hx10 : x ≠ 10) : CallOk S d (k + 20) J 461 [isList codes, isInt p, isInt i, isInt n] (.val (isBool true)) J := by
  refine CallOk.defO (xs := [u "_law_codes", u "_law_first", u "_law_place", u "_law_many"]) (DPs := []) (dvs := []) (os := [(u "_law_once", emptyO)]) (P' := fun _ => isBool true) (J' := looseJ J) D__law_are_lines_right (fun vs hl => ?_) (fun _ => by kernel_rfl!) (by decide) (fun _ => .nil) (fun _ => by kernel_rfl!) (by show [u "_law_once"].Nodup; decide) (fun y O h => ?_) (fun cs hl hn hd => ?_) (fun cs l I' h' v hl hn hd ok hv => ?_)
  · obtain ⟨v0, v1, v2, v3, rfl⟩ := len4 hl
    rfl
  · simp only [List.mem_singleton, Prod.mk.injEq] at h
    obtain ⟨rfl, rfl⟩ := h
    exact .inr ⟨by decide, rfl⟩
  · match cs, hl with
    | [c], _ =>
    have hdc : ¬ d c := hd c (.head _)
    have hxl : codes[(-1 + (codes.length : Int)).toNat]? = some x := by
      rw [List.getLast?_eq_getElem?] at hx
      rw [← hx]; congr 1; lia
    have h0 : 0 < codes.length := by
      cases codes with
      | nil => simp at hx
      | cons a b => simp
    show Blk S (plus d c) { sigO st__law_are_lines_right (u "_law_are_lines_right") (.ref 460) with own := [(u "_law_once", c)] } (k + 19) (upd J c emptyO) _ [(u "_law_codes", isList codes), (u "_law_first", isInt p), (u "_law_place", isInt i), (u "_law_many", isInt n)] _ _
    refine Blk.assign (P := isList (codes ++ [10])) (EvOk.ifF (TestOk.to (b := decide (x = 10)) (TestOk.cmp cmp_eq (EvOk.itemNeg (i := -1) (by walk_at "ev") (by walk_at "ev") (fun _ _ => rfl) ⟨by decide, by lia, by decide⟩ hxl) (by walk_at "ev") rfl) (decide_eq_false hx10)) (EvOk.addL1 (ys := [10]) (by walk_at "ev") (EvOk.list (xs := [10]) (ArgsOk.cons EvOk.intC ArgsOk.nil (fun _ => rfl)) (by decide)) (by simp; lia))) (by kernel_rfl!) (fun _ => rfl) ?_
    refine Blk.assign (P := isInt (nl10 (codes ++ [10]))) (EvOk.lenG (xs := (codes ++ [10]).filter fun c => decide (c = 10)) (by kernel_rfl!) (ArgsOk.cons (EvOk.tens (by walk_at "ev") (by simp; lia) (by kernel_rfl!) (by kernel_rfl!) rfl (by kernel_rfl!) (by kernel_rfl!) (fun _ _ => rfl) (by kernel_rfl!)) ArgsOk.nil (fun _ => rfl)) (fun _ => rfl) (by have := nl10_le (codes ++ [10]); unfold nl10 at this; simp only [List.length_append, List.length_singleton] at this; lia)) (by kernel_rfl!) (fun _ => rfl) ?_
    refine Blk.assign (P := isInt (nl10 (codes.take (i - p).toNat))) (EvOk.lenG (xs := (codes.take (i - p).toNat).filter fun c => decide (c = 10)) (by kernel_rfl!) (ArgsOk.cons (EvOk.tens (xs := codes.take (i - p).toNat) (EvOk.upto (by walk_at "ev") (by walk_at "ev") (fun _ _ => rfl) (fun _ _ => rfl) (by lia) (by lia)) (by rw [List.length_take]; lia) (by kernel_rfl!) (by kernel_rfl!) rfl (by kernel_rfl!) (by kernel_rfl!) (fun _ _ => rfl) (by kernel_rfl!)) ArgsOk.nil (fun _ => rfl)) (fun _ => rfl) (by have := nl10_le (codes.take (i - p).toNat); unfold nl10 at this; rw [List.length_take] at this; lia)) (by kernel_rfl!) (fun _ => rfl) ?_
    by_cases hg : (nl10 (codes ++ [10]) : Int) ≤ max 0 ((nl10 (codes.take (i - p).toNat) : Int) - 1) + n
    · refine Blk.weak (J' := upd J c emptyO) ?_ rfl fun b I o _ hj => loose_upd hj
      walk_at "if1"
      · simpa using hg
      · walk_at "ret"
        rfl
    · walk_at "if0"
      · simpa using hg
      · exact Blk.nil
      have L := lines_law hp (by lia) h1 h2.1 hg
      have h10 : 10 ∈ codes ++ [10] := by simp
      have hlay : PyData.layable0 (.list ((codes ++ [10]).map .int)) = true := lay_small (fun c hc => by
        rcases List.mem_append.mp hc with hc | hc
        · exact hs c hc
        · simp at hc; subst hc; decide) (by simp; lia)
      have hfit : Fit (codes ++ [10]) p i := ⟨by simp; lia, hp, h1.1, by simp; lia⟩
      generalize codes ++ [10] = T at L h10 hlay hfit ⊢
      have hz' := hfit.1
      refine Blk.assignC (c := c) (P := isTup [isList (applyE T p (linesEdit T p i n)).1, isInt (applyE T p (linesEdit T p i n)).2]) (e_done1 (k := k + 1) (e := linesEdit T p i n) (codes := T) (p := p) (by kernel_rfl!) (fun _ => rfl) (done_args (by walk_at "ev") (by walk_at "ev") ?_ (fun _ => rfl) (fun _ => rfl) (fun _ => rfl)) hfit.1 L.bnd) ⟨by kernel_rfl!, by kernel_rfl!, .inr rfl, fun I o h => by rw [upd_at] at h; exact ⟨_, h⟩⟩ (fun _ => rfl) ?_
      · refine EvOk.lam (xs := [u "_law_view"]) (cA := 460) (tA := 458) (ρ₁ := [(u "_law_place", isInt i), (u "_law_many", isInt n)]) ?_ rfl (fun _ => rfl) (by walk_at "fr") (by kernel_rfl!) (fun _ _ _ _ vs hl => by obtain ⟨v, rfl⟩ := len1 hl; rfl) (by kernel_rfl!) (by decide) (by kernel_rfl!) (by kernel_rfl!) (fun cd => ?_)
        · show (u "_law_are_lines_right", 460, 458) ∈ tabsL; decide +kernel
        · show EvOk S _ _ (k + 11 + 6) _ _ [(u "_law_view", isRow T p), (u "_law_place", isInt i), (u "_law_many", isInt n)] (outE (some (linesEdit T p i n)))
          exact e_lines_edit (by kernel_rfl!) (fun _ => rfl) (by walk_at "args") hfit.1 hp hfit.2.2 h2
      · rw [upd_upd]
        refine Blk.weak (J' := upd J c (cellO (isTup [isList (applyE T p (linesEdit T p i n)).1, isInt (applyE T p (linesEdit T p i n)).2]))) ?_ rfl fun b I o _ hj => loose_upd hj
        have q3 := L.step
        have q5 := L.fit
        have qlen := L.len
        obtain ⟨e', q6, q7, q8⟩ := L.back
        generalize applyE T p (linesEdit T p i n) = R at q3 q5 qlen q6 q7 q8 ⊢
        refine Blk.ifFe (b := false) (TestOk.neD (Rd.tup2 (Rd.list (xs := R.1)) (Rd.int (i := R.2))) (Rd.tup2 (Rd.list (xs := R.1)) (Rd.int (i := R.2))) (sh_pair _ _) (sh_pair _ _) (by rw [eqv_pair, decide_eq_true rfl]; rfl) (EvOk.to (e__law_stepped (k := k) (codes := T) (p := p) (i := max i (p + (T.idxOf 10 : Nat) + 1)) (n := n) (ed := stepL p) (by kernel_rfl!) (fun _ => rfl) (by walk_at "args") ⟨by lia, by lia⟩ L.ok) (by rw [q3]; rfl)) (by walk_at "ev") rfl) rfl Blk.nil ?_
        refine Blk.assign (P := isTup [isList T, isInt (linesBackRegions R.1 p R.2 n).2.2]) (EvOk.to (e_done1 (k := k + 1) (e := (e', (linesBackRegions R.1 p R.2 n).2.2)) (codes := R.1) (p := p) (by kernel_rfl!) (fun _ => rfl) (done_args (by walk_at "ev") (by walk_at "ev") ?_ (fun _ => rfl) (fun _ => rfl) (fun _ => rfl)) q5.1 q7) (by rw [q8]; rfl)) (by kernel_rfl!) (fun _ => rfl) ?_
        · refine EvOk.lam (xs := [u "_law_view"]) (cA := 460) (tA := 458) (ρ₁ := [(u "_law_once", isTup [isList R.1, isInt R.2]), (u "_law_many", isInt n)]) ?_ rfl (fun _ => rfl) (by walk_at "fr") (by kernel_rfl!) (fun _ _ _ _ vs hl => by obtain ⟨v, rfl⟩ := len1 hl; rfl) (by kernel_rfl!) (by decide) (by kernel_rfl!) (by kernel_rfl!) (fun cd => ?_)
          · show (u "_law_are_lines_right", 460, 458) ∈ tabsL; decide +kernel
          · show EvOk S _ _ (k + 11 + 6) _ _ [(u "_law_view", isRow R.1 p), (u "_law_once", isTup [isList R.1, isInt R.2]), (u "_law_many", isInt n)] (.val (isTup [isEdit e', isInt (linesBackRegions R.1 p R.2 n).2.2]))
            exact e_lines_back_edit (by kernel_rfl!) (fun _ => rfl) (by walk_at "args") q5.1 hp q5.2.2 h2 q6
        · refine Blk.ret (EvOk.andT (by walk_at "ev") (EvOk.andT (EvOk.eqD (Rd.list (xs := T)) (Rd.list (xs := T)) (sh_list _) (sh_list _) (by rw [eqv_list, decide_eq_true rfl]) (by walk_at "ev") (by walk_at "ev") rfl) (EvOk.bool1 (EvOk.to (EvOk.cmp cmp_eq (EvOk.lenG (xs := R.1) (by kernel_rfl!) (by walk_at "args") (fun _ => rfl) (by have := q5.1; lia)) (EvOk.lenG (xs := T) (by kernel_rfl!) (by walk_at "args") (fun _ => rfl) (by lia)) rfl) (by rw [qlen]; simp)))))
  · refine ⟨I', Le.refl _, ok.less' (fun b hb => plusL_in.mpr (.inl hb)) (fun b hb => ?_), hv⟩
    unfold looseJ
    rw [if_neg fun q => hd b q hb]
end
theorem split_at {codes : List Int} {a : Nat} (h : a ≤ codes.length) : ∃ A B, codes = A ++ B ∧ A.length = a := ⟨codes.take a, codes.drop a, (List.take_append_drop ..).symm, List.length_take_of_le h⟩
/-- two stretches exchanged, and again -/
theorem swap_law {codes : List Int} {p l₁ l₂ r₁ r₂ : Int} (h : p ≤ l₁ ∧ l₁ ≤ l₂ ∧ l₂ ≤ r₁ ∧ r₁ ≤ r₂ ∧ r₂ ≤ p + codes.length) : ∃ N new, regionsEdit codes p (l₁, l₂) (r₁, r₂) = some (l₁, r₂, N) ∧ codes.take (l₁ - p).toNat ++ N ++ codes.drop (r₂ - p).toNat = new ∧ N.length ≤ codes.length ∧ new.length = codes.length ∧
    ∃ N', regionsEdit new p (l₁, l₁ + (r₂ - r₁)) (r₂ - (l₂ - l₁), r₂) = some (l₁, r₂, N') ∧ N'.length ≤ codes.length ∧ new.take (l₁ - p).toNat ++ N' ++ new.drop (r₂ - p).toNat = codes := by
  obtain ⟨A, X, M, Y, C, rfl, h1, h2, h3, h4⟩ : ∃ A X M Y C, codes = A ++ X ++ M ++ Y ++ C ∧ l₁ = p + A.length ∧ l₂ = l₁ + X.length ∧ r₁ = l₂ + M.length ∧ r₂ = r₁ + Y.length := by
    obtain ⟨a1, a2, a3, a4, a5⟩ := h
    obtain ⟨T₁, C, rfl, n1⟩ := split_at (codes := codes) (a := (r₂ - p).toNat) (by lia)
    obtain ⟨T₂, Y, rfl, n2⟩ := split_at (codes := T₁) (a := (r₁ - p).toNat) (by clear a5; lia)
    obtain ⟨T₃, M, rfl, n3⟩ := split_at (codes := T₂) (a := (l₂ - p).toNat) (by clear a5 n1; lia)
    obtain ⟨A, X, rfl, n4⟩ := split_at (codes := T₃) (a := (l₁ - p).toNat) (by clear a5 n1 n2; lia)
    simp only [List.length_append] at n1 n2 n3
    exact ⟨A, X, M, Y, C, rfl, by clear a5 n1 n2 n3 a2 a3 a4; lia, by clear a5 n1 n2 a3 a4; lia, by clear a5 n1 n4 a4; lia, by clear a5 n3 n4; lia⟩
  have s1 := regions_swap (A := A) (X := X) (M := M) (Y := Y) (C := C) (p := p) (one := (l₁, l₂)) (other := (r₁, r₂)) h1 h2 h3 h4
  have s2 := regions_swap (A := A) (X := Y) (M := M) (Y := X) (C := C) (p := p) (one := (l₁, l₁ + (r₂ - r₁))) (other := (r₂ - (l₂ - l₁), r₂)) h1 (by dsimp only; lia) (by dsimp only; lia) (by dsimp only; lia)
  have eA : (l₁ - p).toNat = A.length := by lia
  have eB : (r₂ - p).toNat = (A ++ X ++ M ++ Y).length := by simp; lia
  have eB' : (r₂ - p).toNat = (A ++ Y ++ M ++ X).length := by simp; lia
  refine ⟨_, _, s1, rfl, by simp; lia, by rw [eA, eB]; simp; lia, X ++ M ++ Y, ?_, by simp; lia, ?_⟩
  · rw [eA, eB, List.drop_left, show A ++ X ++ M ++ Y ++ C = A ++ (X ++ M ++ Y ++ C) by simp, List.take_left, show A ++ (Y ++ M ++ X) ++ C = A ++ Y ++ M ++ X ++ C by simp]
    exact s2
  · have en : (A ++ X ++ M ++ Y ++ C).take (l₁ - p).toNat ++ (Y ++ M ++ X) ++ (A ++ X ++ M ++ Y ++ C).drop (r₂ - p).toNat = A ++ Y ++ M ++ X ++ C := by
      rw [eA, eB, List.drop_left, show A ++ X ++ M ++ Y ++ C = A ++ (X ++ M ++ Y ++ C) by simp, List.take_left]; simp
    rw [en, eB', List.drop_left, eA, show A ++ Y ++ M ++ X ++ C = A ++ (Y ++ M ++ X ++ C) by simp, List.take_left]; simp
/-- the codes that the law writes -/
noncomputable abbrev signs : Str := u "abcd  .,\n\n"
theorem signs_are : ∀ n ∈ signs.cps.toList, n = 97 ∨ n = 98 ∨ n = 99 ∨ n = 100 ∨ n = 32 ∨ n = 46 ∨ n = 44 ∨ n = 10 := by decide +kernel
theorem std_at : ∀ c ∈ ([97, 98, 99, 100, 32, 46, 44, 10] : List Int), ∃ kd, stdSp c = some kd ∧ (kd == u "@") = false ∧ strIn kd (u "w") = letter c := by
  intro c hc
  simp only [List.mem_cons, List.not_mem_nil, or_false] at hc
  rcases hc with rfl | rfl | rfl | rfl | rfl | rfl | rfl | rfl
  · exact ⟨ch 119, by decide +kernel, by decide +kernel, by decide +kernel⟩
  · exact ⟨ch 119, by decide +kernel, by decide +kernel, by decide +kernel⟩
  · exact ⟨ch 119, by decide +kernel, by decide +kernel, by decide +kernel⟩
  · exact ⟨ch 119, by decide +kernel, by decide +kernel, by decide +kernel⟩
  · exact ⟨ch 32, by decide +kernel, by decide +kernel, by decide +kernel⟩
  · exact ⟨ch 46, by decide +kernel, by decide +kernel, by decide +kernel⟩
  · exact ⟨ch 46, by decide +kernel, by decide +kernel, by decide +kernel⟩
  · exact ⟨ch 32, by decide +kernel, by decide +kernel, by decide +kernel⟩
/-- a text of the law's -/
structure TextOk (codes : List Int) : Prop where
  len : codes.length ≤ 15
  last : codes.getLast? = some 97
  mem : ∀ c ∈ codes, c ∈ ([97, 98, 99, 100, 32, 46, 44, 10] : List Int)
theorem alpha_of {codes : List Int} (h : ∀ c ∈ codes, c ∈ ([97, 98, 99, 100, 32, 46, 44, 10] : List Int)) : Alpha stdSp letter codes := fun c hc => ⟨by
  have := h c hc
  simp only [List.mem_cons, List.not_mem_nil, or_false] at this
  lia, std_at c (h c hc)⟩
theorem textOk_of {xs : List Int} (h : (xs.length : Int) ≤ 14 ∧ ∀ c ∈ xs, ∃ n : Nat, c = n ∧ n ∈ signs.cps.toList) : TextOk (xs ++ [97]) := by
  refine ⟨by simp; lia, by simp, fun c hc => ?_⟩
  rcases List.mem_append.mp hc with hc | hc
  · obtain ⟨n, rfl, hn⟩ := h.2 c hc
    rcases signs_are n hn with rfl | rfl | rfl | rfl | rfl | rfl | rfl | rfl <;> simp
  · simp at hc; subst hc; simp
section
variable {S : St} {d : Mut} {k k' : Nat} {J : JM} {a rb : Addr} {ρ ρ₁ : Rho} {σ : Sig} {e₁ e₂ o body : Expr} {pos np apos pp sp : Pos} {es : List Expr} {codes xs T : List Int} {p i n y i' : Int} {r : Out} {wd : Int → Bool}
theorem sm_of {a b : Int} (h1 : 0 ≤ a) (h2 : a ≤ 64) (h3 : 0 ≤ b) (h4 : b ≤ 64) : Sm (a, b) := ⟨by dsimp only; lia, by dsimp only; lia, by dsimp only; lia, by dsimp only; lia⟩
theorem law_nums {p lo hi l₁ r₂ len : Int} (h1 : 1 ≤ p ∧ p ≤ 4) (h2 : 0 ≤ lo ∧ lo ≤ hi ∧ hi ≤ len) (h3 : p ≤ l₁ ∧ l₁ ≤ p + lo) (h4 : p + hi ≤ r₂ ∧ r₂ ≤ p + len) (h5 : len ≤ 15) :
    Sm (l₁, p + lo) ∧ Sm (p + hi, r₂) ∧ Sm (l₁, l₁ + (r₂ - (p + hi))) ∧ Sm (r₂ - (p + lo - l₁), r₂) ∧ 0 ≤ l₁ - p ∧ 0 ≤ r₂ - p ∧ (p ≤ l₁ ∧ l₁ ≤ p + lo ∧ p + lo ≤ p + hi ∧ p + hi ≤ r₂ ∧ r₂ ≤ p + len) := by
  have a : 0 ≤ l₁ ∧ l₁ ≤ 64 := by lia
  have b : 0 ≤ p + lo ∧ p + lo ≤ 64 := by lia
  have c : 0 ≤ p + hi ∧ p + hi ≤ 64 := by lia
  have d : 0 ≤ r₂ ∧ r₂ ≤ 64 := by lia
  have e : 0 ≤ l₁ + (r₂ - (p + hi)) ∧ l₁ + (r₂ - (p + hi)) ≤ 64 := by lia
  have f : 0 ≤ r₂ - (p + lo - l₁) ∧ r₂ - (p + lo - l₁) ≤ 64 := by lia
  exact ⟨sm_of a.1 a.2 b.1 b.2, sm_of c.1 c.2 d.1 d.2, sm_of a.1 a.2 e.1 e.2, sm_of f.1 f.2 d.1 d.2, by lia, by lia, h3.1, h3.2, by lia, h4.1, h4.2⟩
theorem cut_len {xs ys : List Int} {a b m : Nat} (h1 : xs.length ≤ m) (h2 : ys.length ≤ m) (hm : m ≤ 64) : (xs.take a).length + ys.length ≤ 2 ^ 20 ∧ (xs.take a ++ ys).length + (xs.drop b).length ≤ 2 ^ 20 := by
  rw [List.length_append, List.length_take, List.length_drop]; lia
theorem draw_in {len : Nat} (h : len ≤ 15) : 0 < (len : Int) + 1 ∧ (len : Int) + 1 < 1000 := by lia
theorem add_in {p n i : Int} (h : 0 ≤ i ∧ i < n + 1) : p ≤ p + i ∧ p + i ≤ p + n := by lia
theorem Blk.nilTo (h : ∀ x P, ρ₁.lookup x = some P → ρ.lookup x = some P) : Blk S d σ k J [] ρ (.fall ρ₁) J := .mk fun hf F hp => wpAny_execs_nil (hp _ _ _ _ (F.facts fun g x P e => g x P (h x P e)))
theorem EvOk.addLE {q q' : List Int → Prop} {ys : List Int} (h₁ : EvOk S d σ k J e₁ ρ (.val (Mine.exL q))) (h₂ : EvOk S d σ k J e₂ ρ (.val (isList ys))) (hz : ∀ xs, q xs → xs.length + ys.length ≤ 2 ^ 20) (hq : ∀ xs, q xs → q' (xs ++ ys)) : EvOk S d σ k J (.BinOp e₁ .Add e₂ pos) ρ (.val (Mine.exL q')) :=
  EvOk.twoF (P := Mine.exL q') (op := fun l r => .BinOp l .Add r pos) wpAny_BinOp h₁ h₂ fun {A l pl h₀ I₀ I m s Q E x y} F hx hy hp => by
    obtain ⟨xs, hq', hx⟩ := hx
    obtain ⟨b, its, n, rfl, _, hb, hbi⟩ := isList_at F.ok hx
    obtain ⟨c, its', n', rfl, _, hc, hci⟩ := isList_at F.ok hy
    have := hz xs hq'
    refine add_arrays_ints F.fr (news_all _ _ _) hb hc hbi hci (fun h' F' N' hi => ?_) (by rw [sizeLine_eq]; lia)
    obtain ⟨q1, q2, q3⟩ := F.bridge1 F' N' (get_size _)
    exact hp _ h' _ _ q2 q1 q3 ⟨_, hq _ hq', _, _, _, rfl, IM.put_self _ _ _, hi⟩
theorem tup_ex1 {q : Int → Prop} {R : VP} {I : IM} {v : Value} (h : (isTup [exI q, R]).p I v) : ∃ i, q i ∧ (isTup [isInt i, R]).p I v := by
  obtain ⟨b, vs, n, rfl, hI, hv⟩ := h
  obtain ⟨v₁, v₂, rfl, ⟨i, t, rfl, hi⟩, h2⟩ := hv.two
  exact ⟨i, hi, b, _, n, rfl, hI, .cons ⟨_, rfl⟩ (.cons h2 .nil)⟩
theorem tup_ex2 {q : Int → Prop} {R : VP} {I : IM} {v : Value} (h : (isTup [R, exI q]).p I v) : ∃ i, q i ∧ (isTup [R, isInt i]).p I v := by
  obtain ⟨b, vs, n, rfl, hI, hv⟩ := h
  obtain ⟨v₁, v₂, rfl, h1, ⟨i, t, rfl, hi⟩⟩ := hv.two
  exact ⟨i, hi, b, _, n, rfl, hI, .cons h1 (.cons ⟨_, rfl⟩ .nil)⟩
theorem two_ints {q q' : Int → Prop} {I : IM} {vs : List Value} (h : Mine.Args I [exI q, exI q'] vs) : ∃ xs : List Int, (∃ i j, xs = [i, j] ∧ q i ∧ q' j) ∧ IntsAre vs xs := by
  obtain ⟨v₁, v₂, rfl, ⟨i, t, rfl, hi⟩, ⟨j, t', rfl, hj⟩⟩ := h.two
  exact ⟨[i, j], ⟨i, j, rfl, hi, hj⟩, .cons _ _ (.cons _ _ .nil)⟩
theorem e_right1 (hk : σ.scope.names.lookup (u "_law_are_chars_right") = some .globalImplicit) (hs : PlainArgs es) (ha : ArgsOk S d σ (k + 20) J es ρ [isList codes, isInt p, isInt i, isInt n]) (ht : TextOk codes) (hp : 0 ≤ p ∧ p ≤ 64) (h1 : p ≤ i ∧ i ≤ p + codes.length) (h2 : 0 < n ∧ n ≤ 32) : EvOk S d σ (k + 20) J (.Call (.Name (u "_law_are_chars_right") np) es [] pos) ρ (.val (isBool true)) :=
  EvOk.callF D__law_are_chars_right.d (c__law_are_chars_right (by have := ht.len; lia) hp h1 h2) hk (fun _ => by kernel_rfl!) (by kernel_rfl!) hs ha
theorem e_right2 (hk : σ.scope.names.lookup (u "_law_are_words_right") = some .globalImplicit) (hs : PlainArgs es) (ha : ArgsOk S d σ (k + 20) J es ρ [isList codes, isInt p, isInt i, isInt n]) (hz : codes.length ≤ 63) (hp : 0 ≤ p ∧ p ≤ 64) (h1 : p ≤ i ∧ i ≤ p + codes.length) (h2 : 0 < n ∧ n ≤ 32) (hA : Alpha stdSp letter codes) {x : Int} (hx : codes.getLast? = some x) (hw : letter x = true) : EvOk S d σ (k + 20) J (.Call (.Name (u "_law_are_words_right") np) es [] pos) ρ (.val (isBool true)) :=
  EvOk.callF D__law_are_words_right.d (c__law_are_words_right hz hp h1 h2 hA (words_in h1 hx hw)) hk (fun _ => by kernel_rfl!) (by kernel_rfl!) hs ha
theorem e_right3 (hk : σ.scope.names.lookup (u "_law_are_lines_right") = some .globalImplicit) (hs : PlainArgs es) (ha : ArgsOk S d σ (k + 20) J es ρ [isList codes, isInt p, isInt i, isInt n]) (ht : TextOk codes) (hp : 0 ≤ p ∧ p ≤ 64) (h1 : p ≤ i ∧ i ≤ p + codes.length) (h2 : 0 < n ∧ n ≤ 32) : EvOk S d σ (k + 20) J (.Call (.Name (u "_law_are_lines_right") np) es [] pos) ρ (.val (isBool true)) :=
  EvOk.callF D__law_are_lines_right.d (c__law_are_lines_right (by have := ht.len; lia) hp h1 h2 (fun c hc => by
    have := ht.mem c hc
    simp only [List.mem_cons, List.not_mem_nil, or_false] at this
    lia) ht.last (by decide)) hk (fun _ => by kernel_rfl!) (by kernel_rfl!) hs ha
theorem e__law_deck_of {es : List Expr} {np pos : Pos} {ρ : Rho} {σ : Sig} (hk : σ.scope.names.lookup (u "_law_deck_of") = some .globalImplicit) (hs : PlainArgs es) (ha : ArgsOk S d σ (k + 1) J es ρ [isList xs]) (hz : xs.length ≤ 63) : EvOk S d σ (k + 1) J (.Call (.Name (u "_law_deck_of") np) es [] pos) ρ (.new (Mine.exL DeckI)) :=
  EvOk.callF D__law_deck_of.d (c__law_deck_of hz) hk (fun _ => by kernel_rfl!) (by kernel_rfl!) hs ha
end
local macro_rules | `(tactic| walk_at "ev") => `(tactic| ((with_reducible apply e__law_deck_of); walk_at "K"; walk_at "R"; walk_at "A"; walk_at "D"))
section
variable {S : St} {d : Mut} {k k' : Nat} {J : JM} {a rb : Addr} {ρ ρ₁ : Rho} {σ : Sig} {e₁ e₂ o body : Expr} {pos np apos pp sp : Pos} {es : List Expr} {codes xs T : List Int} {p i n y i' : Int} {r : Out} {wd : Int → Bool}
noncomputable abbrev st_law : Stmt := topS 60
theorem D_law : DefIs 475 (fdO st_law (u "law") .none (.str (u "law_pq0280_01") 756) (.ref 474)) (sigO st_law (u "law") (.ref 474)) (bodyOf st_law) := defIs_of (fun _ => by kernel_rfl!) (by kernel_rfl!) (fun _ => by kernel_rfl!)
end
local macro_rules | `(tactic| walk_at "ln") => `(tactic| assumption)
section
variable {S : St} {d : Mut} {k k' : Nat} {J : JM} {a rb : Addr} {ρ ρ₁ : Rho} {σ : Sig} {e₁ e₂ o body : Expr} {pos np apos pp sp : Pos} {es : List Expr} {codes xs T : List Int} {p i n y i' : Int} {r : Out} {wd : Int → Bool}
set_option maxHeartbeats 1000000 in
theorem c_law (hd0 : ∀ b, ¬ d b) (hz : xs.length ≤ 63) : CallOk S d (k + 21) J 475 [isList xs] (.val (isBool true)) J := by
  refine CallOk.def (xs := [u "script"]) (DPs := []) (dvs := []) D_law (by kernel_rfl!) (fun s vs hl _ => ?_) (by kernel_rfl!) (by decide) (fun _ => .nil) .val ?_
  · obtain ⟨v0, rfl⟩ := len1 hl
    exact BindsTo.of_eq rfl
  show Blk S d _ _ J _ [(u "script", isList xs)] _ _
  refine Blk.assignNew (O := deckO) (O' := deckO) (q := DeckI) (e__law_deck_of (k := k + 19) (by kernel_rfl!) (fun _ => rfl) (by walk_at "args") hz) hd0 (fun I xs o h1 h2 => ⟨xs, h1, h2⟩) (by kernel_rfl!) (fun _ => rfl) fun a ha => ?_
  refine Blk.forB (its := (List.range ((3 : Int) - 0).toNat).map fun (i : Nat) => isInt (0 + i)) (by walk_at "ev") (fun _ _ => rfl) ?_
  suffices H : ∀ (its : List VP) {ρ : Rho}, ρ.lookup (u "_law_deck") = some (isV (.ref a)) → ForB S (plus d a) _ (k + 20) _ _ _ (.ret (isBool true)) (upd J a deckO) (upd J a deckO) ρ its from H _ (by walk_at "lk")
  intro its
  induction its with
  | nil =>
    intro ρ l1
    refine ForB.done (Blk.ret (e_right2 (k := k) (codes := [97, 32, 44, 98, 32, 99]) (p := 1) (i := 2) (n := 2) (by kernel_rfl!) (fun _ => rfl) (ArgsOk.cons (EvOk.list (xs := [97, 32, 44, 98, 32, 99]) (.cons EvOk.intC (.cons EvOk.intC (.cons EvOk.intC (.cons EvOk.intC (.cons EvOk.intC (.cons EvOk.intC .nil (fun _ => rfl)) (fun _ => rfl)) (fun _ => rfl)) (fun _ => rfl)) (fun _ => rfl)) (fun _ => rfl)) (by decide)) (by walk_at "args") (fun _ => rfl)) (by decide) (by decide) (by decide) (by decide) (alpha_of (by decide)) rfl (by decide)))
  | cons P its ih =>
    intro ρ l1
    refine ForB.turn (ρ₁ := [(u "_law_deck", isV (.ref a))]) (TgtOk.name (by kernel_rfl!)) (fun It oI hI _ => ?_) (ih (by walk_at "lk"))
    have hne : a ≠ It := fun q => hI (.inr q.symm)
    have hd : plus (plus d a) It a := .inl (.inr rfl)
    have hJ : pin (upd J a deckO) It oI a = deckO := (pin_off hne).trans upd_at
    generalize pin (upd J a deckO) It oI = J₁ at hJ ⊢
    generalize plus (plus d a) It = d₁ at hd ⊢
    refine Blk.swap3 (P₁ := exL fun c => TextOk c) (P₂ := exI fun p => 1 ≤ p ∧ p ≤ 4) (P₃ := exI fun n => 1 ≤ n ∧ n ≤ 3) ?_ (by kernel_rfl!) (by kernel_rfl!) (by kernel_rfl!) (fun _ => rfl) (fun env h => ?_) ?_
    · refine EvOk.tupleG (done_args ?_ ?_ ?_ (fun _ => rfl) (fun _ => rfl) (fun _ => rfl)) rfl
      · refine EvOk.addLE (ys := [97]) (e__law_some_codes (k := k + 17) (x := signs) (most := 14) (by kernel_rfl!) (fun _ => rfl) (by walk_at "args") hd hJ (by decide +kernel) (by decide)) (EvOk.list (xs := [97]) (.cons EvOk.intC .nil (fun _ => rfl)) (by decide)) (fun xs h => by have := h.1; simp; lia) fun xs h => textOk_of h
      · exact EvOk.addE (by walk_at "ev") (e__law_draw (k := k + 19) (many := 4) (by kernel_rfl!) (fun _ => rfl) (by walk_at "args") hd hJ (by decide)) fun i h => by lia
      · exact EvOk.addE (by walk_at "ev") (e__law_draw (k := k + 19) (many := 3) (by kernel_rfl!) (fun _ => rfl) (by walk_at "args") hd hJ (by decide)) fun i h => by lia
    · cases env; cases h; rfl
    refine Blk.exL (by walk_at "lk") (by kernel_rfl!) fun codes ht => ?_
    refine Blk.exI (x := u "_law_first") (by walk_at "lk") (by kernel_rfl!) fun p hp => ?_
    refine Blk.exI (x := u "_law_many") (by walk_at "lk") (by kernel_rfl!) fun n hn => ?_
    have hlen := ht.len
    have hmany := draw_in hlen
    have hp4 : 0 ≤ p ∧ p ≤ 64 := ⟨by lia, by lia⟩
    have hn4 : 0 < n ∧ n ≤ 32 := ⟨by lia, by lia⟩
    refine Blk.assign (P := exI fun i => p ≤ i ∧ i ≤ p + codes.length) (EvOk.addE (by walk_at "ev") (e__law_draw (k := k + 19) (many := codes.length + 1) (by kernel_rfl!) (fun _ => rfl) (by walk_at "args") hd hJ hmany) fun i h => add_in h) (by kernel_rfl!) (fun _ => rfl) ?_
    refine Blk.exI (by walk_at "lk") (by kernel_rfl!) fun i hi => ?_
    refine Blk.ifFe (b := !true || (!true || false)) (TestOk.or (TestOk.not (TestOk.plain (e_right1 (k := k) (by kernel_rfl!) (fun _ => rfl) (by walk_at "args") ht hp4 hi hn4) (fun _ _ => rfl))) fun _ => TestOk.or (TestOk.not (TestOk.plain (e_right2 (k := k) (x := 97) (by kernel_rfl!) (fun _ => rfl) (by walk_at "args") (Nat.le_trans hlen (by decide)) hp4 hi hn4 (alpha_of ht.mem) ht.last (by decide)) (fun _ _ => rfl))) fun _ => TestOk.or_nil) rfl Blk.nil ?_
    refine Blk.ifFe (b := !true) (TestOk.not (TestOk.plain (e_right3 (k := k) (by kernel_rfl!) (fun _ => rfl) (by walk_at "args") ht hp4 hi hn4) (fun _ _ => rfl))) rfl Blk.nil ?_
    refine Blk.unpackL2 (EvOk.sorted2 (q := fun xs => ∃ i j : Int, xs = [i, j] ∧ (0 ≤ i ∧ i < codes.length + 1) ∧ (0 ≤ j ∧ j < codes.length + 1)) (by kernel_rfl!) (ArgsOk.cons (EvOk.listX (Ps := [exI fun r => 0 ≤ r ∧ r < (codes.length : Int) + 1, exI fun r => 0 ≤ r ∧ r < (codes.length : Int) + 1]) ?_ (by show 2 ≤ 64; decide) fun I vs h => ?_) ArgsOk.nil (fun _ => rfl)) (fun _ => rfl) fun xs ⟨i, j, h, _⟩ => by rw [h]; show 2 < 64; decide) (by kernel_rfl!) (by kernel_rfl!) (fun _ => rfl) (fun _ => rfl) (fun xs ⟨ys, ⟨i, j, h, _⟩, hp, _⟩ => by rw [hp.length_eq, h]; rfl) fun lo hi' hlh => ?_
    · exact ArgsOk.cons (e__law_draw (k := k + 19) (many := codes.length + 1) (by kernel_rfl!) (fun _ => rfl) (by walk_at "args") hd hJ hmany) (ArgsOk.cons (e__law_draw (k := k + 19) (many := codes.length + 1) (by kernel_rfl!) (fun _ => rfl) (by walk_at "args") hd hJ hmany) ArgsOk.nil (fun _ => rfl)) (fun _ => rfl)
    · exact two_ints h
    have hb : 0 ≤ lo ∧ lo ≤ hi' ∧ hi' ≤ codes.length := by
      obtain ⟨ys, ⟨i₁, j₁, rfl, q1, q2⟩, hpm, hpw⟩ := hlh
      have m1 : lo ∈ [i₁, j₁] := hpm.subset (by simp)
      have m2 : hi' ∈ [i₁, j₁] := hpm.subset (by simp)
      simp only [List.mem_cons, List.not_mem_nil, or_false] at m1 m2
      simp only [List.pairwise_cons, List.mem_cons, List.not_mem_nil, or_false, forall_eq] at hpw
      have := hpw.1
      lia
    clear hlh
    refine Blk.assign (P := isTup [exI fun r => p ≤ r ∧ r ≤ p + lo, isInt (p + lo)]) (EvOk.tupleG (ArgsOk.cons (EvOk.addE (by walk_at "ev") (e__law_draw (k := k + 19) (many := lo + 1) (by kernel_rfl!) (fun _ => rfl) (by walk_at "args") hd hJ ⟨by clear hi hn hp hn4 hp4 hmany; lia, by clear hi hn hp hn4 hp4 hmany; lia⟩) fun i h => add_in h) (by walk_at "args") (fun _ => rfl)) rfl) (by kernel_rfl!) (fun _ => rfl) ?_
    refine Blk.exAt (x := u "_law_left") (P := fun l₁ => isTup [isInt l₁, isInt (p + lo)]) (q := fun r => p ≤ r ∧ r ≤ p + lo) (by walk_at "lk") (by kernel_rfl!) (fun I v h => tup_ex1 h) fun l₁ hl₁ => ?_
    refine Blk.assign (P := isTup [isInt (p + hi'), exI fun r => p + hi' ≤ r ∧ r ≤ p + codes.length]) (EvOk.tupleG (ArgsOk.cons (by walk_at "ev") (ArgsOk.cons (EvOk.addE (a := p + hi') (by walk_at "ev") (e__law_draw (k := k + 19) (many := codes.length + 1 - hi') (by kernel_rfl!) (fun _ => rfl) (by walk_at "args") hd hJ (by lia)) fun i h => by lia) ArgsOk.nil (fun _ => rfl)) (fun _ => rfl)) rfl) (by kernel_rfl!) (fun _ => rfl) ?_
    refine Blk.exAt (x := u "_law_right") (P := fun r₂ => isTup [isInt (p + hi'), isInt r₂]) (q := fun r => p + hi' ≤ r ∧ r ≤ p + codes.length) (by walk_at "lk") (by kernel_rfl!) (fun I v h => tup_ex2 h) fun r₂ hr₂ => ?_
    obtain ⟨m1, m2, m3, m4, g1, g2, m5⟩ := law_nums hp hb hl₁ hr₂ (Int.ofNat_le.mpr hlen)
    obtain ⟨N, new, s1, s2, s3, s4, N', s5, s6, s7⟩ := swap_law (codes := codes) (p := p) (l₁ := l₁) (l₂ := p + lo) (r₁ := p + hi') (r₂ := r₂) m5
    have g3 : codes.length ≤ 2 ^ 20 := Nat.le_trans hlen (by decide)
    have g4 : new.length ≤ 2 ^ 20 := by rw [s4]; exact g3
    have g5 := cut_len (xs := codes) (ys := N) (a := (l₁ - p).toNat) (b := (r₂ - p).toNat) hlen (Nat.le_trans s3 hlen) (by decide)
    have g6 := cut_len (xs := new) (ys := N') (a := (l₁ - p).toNat) (b := (r₂ - p).toNat) (by rw [s4]; exact hlen) (Nat.le_trans s6 hlen) (by decide)
    obtain ⟨g5, g5'⟩ := g5
    obtain ⟨g6, g6'⟩ := g6
    have g7 : codes.length ≤ 2 ^ 16 := Nat.le_trans hlen (by decide)
    have g8 : new.length ≤ 2 ^ 16 := by rw [s4]; exact g7
    clear hb hl₁ hr₂ m5 hi hn hp hn4 hp4 hmany s3 s4 s6 hlen
    refine Blk.assign (P := isTup [isInt l₁, isInt r₂, isList N]) (e_regions_edit (k := k + 16) (one := (l₁, p + lo)) (other := (p + hi', r₂)) (e := (l₁, r₂, N)) (by kernel_rfl!) (fun _ => rfl) (by walk_at "args") g7 m1 m2 s1) (by kernel_rfl!) (fun _ => rfl) ?_
    refine Blk.assign (P := isList new) (EvOk.to (P := isList (codes.take (l₁ - p).toNat ++ N ++ codes.drop (r₂ - p).toNat)) (by walk_at "ev") (by rw [s2])) (by kernel_rfl!) (fun _ => rfl) ?_
    refine Blk.swap2 (P₁ := isInt (p + lo - l₁)) (P₂ := isInt (r₂ - (p + hi'))) (EvOk.tupleG (by walk_at "args") rfl) (by kernel_rfl!) (by kernel_rfl!) (fun _ => rfl) (fun env h => by cases env; cases h; rfl) ?_
    refine Blk.assign (P := isTup [isInt l₁, isInt r₂, isList N']) (e_regions_edit (k := k + 16) (one := (l₁, l₁ + (r₂ - (p + hi')))) (other := (r₂ - (p + lo - l₁), r₂)) (e := (l₁, r₂, N')) (by kernel_rfl!) (fun _ => rfl) (by walk_at "args") g8 m3 m4 s5) (by kernel_rfl!) (fun _ => rfl) ?_
    refine Blk.ifFe (b := false) (TestOk.neD (Rd.list (xs := codes)) (Rd.list (xs := codes)) (sh_list _) (sh_list _) (by rw [eqv_list, decide_eq_true rfl]; rfl) (EvOk.to (P := isList (new.take (l₁ - p).toNat ++ N' ++ new.drop (r₂ - p).toNat)) (by walk_at "ev") (by rw [s7])) (by walk_at "ev") rfl) rfl Blk.nil ?_
    refine Blk.nilTo fun x P e => ?_
    rw [List.lookup_cons] at e
    split at e
    · rename_i hx
      have hx : x = u "_law_deck" := by simpa using hx
      cases e
      subst hx
      walk_at "lk"
    · cases e
end
end Mine
end
section
open PySem PySem.W PyProof.Rows PySem.Calls PyProof PySem.Spec
namespace Mine
/-- the heap up to its last object -/
noncomputable def cutAt (h : Heap) (z : Nat) : Heap := { h with objs := h.objs.extract 0 (z + 1) }
theorem last_live {h : Heap} : ∀ (n : Nat) {a : Nat} {o : Obj}, h.get? a = some o → h.objs.size - a ≤ n → ∃ (z : Nat) (o : Obj), h.get? z = some o ∧ ∀ b : Nat, z < b → h.get? b = none
  | 0, a, o, e, hn => absurd (show a < h.objs.size from Heap.lt_size e) (by lia)
  | n + 1, a, o, e, hn => by
    rcases Classical.em (∃ (b : Nat) (o : Obj), a < b ∧ h.get? b = some o) with ⟨b, o', hb, e'⟩ | q
    · exact last_live n e' (by have : b < h.objs.size := Heap.lt_size e'; lia)
    · refine ⟨a, o, e, fun b hb => ?_⟩
      cases z : h.get? b with
      | none => rfl
      | some o' => exact absurd ⟨b, o', hb, z⟩ q
theorem cut_get {h : Heap} {z b : Nat} (hb : b ≤ z) : (cutAt h z).get? b = h.get? b := by
  unfold cutAt Heap.get?
  dsimp only
  have : (h.objs.extract 0 (z + 1))[b]? = h.objs[b]? := by
    rw [Array.getElem?_extract]
    by_cases q : b < h.objs.size
    · rw [if_pos (by lia)]; simp
    · rw [if_neg (by lia), Array.getElem?_eq_none (by lia)]
  rw [this]
theorem cut_keeps {h : Heap} {z : Nat} (hz : ∀ b : Nat, z < b → h.get? b = none) : ∀ (b : Nat) (o : Obj), h.get? b = some o → (cutAt h z).get? b = some o := fun b o e => by
  rw [cut_get (Nat.le_of_not_lt fun q => by rw [hz b q] at e; cases e)]; exact e
theorem cut_of {h : Heap} {z b : Nat} {o : Obj} (e : (cutAt h z).get? b = some o) : h.get? b = some o := by
  by_cases q : b ≤ z
  · rw [cut_get q] at e; exact e
  · exfalso
    have : b < (cutAt h z).objs.size := Heap.lt_size e
    have h2 : (cutAt h z).objs.size ≤ z + 1 := by unfold cutAt; simp; lia
    lia
theorem cut_size {h : Heap} {z : Nat} : (cutAt h z).objs.size ≤ z + 1 := by unfold cutAt; simp; lia
noncomputable abbrev tabPairs : List (Addr × Addr) := tabsL.map (·.2)
theorem free_in : ((looseW q loose).all fun x => startupNames.contains x || loose.contains x || ((recsOf q).map (·.name)).contains x || ((litsOf q).map (·.1)).contains x || ((clssOf q loose).map (·.name)).contains x) = true := by kernel_rfl!
theorem cls_in : ((clssOf q (looseW q loose)).all fun x => ((clssOf q loose).map (·.name)).contains x.name) = true := by kernel_rfl!
end Mine
end
section
open PySem PySem.W PyProof.Rows PySem.Calls PyProof PySem.Spec
namespace Mine
theorem tabs_at {w : World} {h : Heap} (Y : Hk.says w h) : TabsAt tabPairs h := by
  have X : (Kf w.params).In h := km_in_of (as := asK) (e := fun _ => by kernel_rfl) (ts := tsL) Y
  have T : ∀ P ∈ tsL, h.get? P = some (tabObj #[]) := km_tabs_of (as := asK) (e := fun _ => by kernel_rfl) (ts := tsL) Y
  intro t ht
  have ht : t ∈ [((434 : Nat), (430 : Nat)), (441, 437), (448, 444), (455, 451), (460, 458)] := ht
  simp only [List.mem_cons, List.not_mem_nil, or_false] at ht
  rcases ht with rfl | rfl | rfl | rfl | rfl
  · exact ⟨codeHd_of_K X (by kernel_rfl!), T _ (by decide)⟩
  · exact ⟨codeHd_of_K X (by kernel_rfl!), T _ (by decide)⟩
  · exact ⟨codeHd_of_K X (by kernel_rfl!), T _ (by decide)⟩
  · exact ⟨codeHd_of_K X (by kernel_rfl!), T _ (by decide)⟩
  · exact ⟨codeHd_of_K X (by kernel_rfl!), T _ (by decide)⟩
theorem isTab_iff {b : Addr} : IsTab b ↔ b ∈ tabPairs.map (·.2) := by
  unfold IsTab tabPairs
  simp only [List.mem_map]
  constructor
  · rintro ⟨t, ht, rfl⟩; exact ⟨t.2, ⟨t, ht, rfl⟩, rfl⟩
  · rintro ⟨p, ⟨t, ht, rfl⟩, rfl⟩; exact ⟨t, ht, rfl⟩
/-- the state at the call -/
theorem st_of {w : World} {h : Heap} {mean : ExcName → Option Value} {mg mb : Str → Option Value} (T : Top q (looseW q loose) mean mg mb h) (Y : Hk.says w h) : ∃ S : St, S.w = w ∧ S.mg = mg ∧ (∀ b o, S.G.get? b = some o → h.get? b = some o ∧ ¬ IsTab b) := by
  have X : (Kf w.params).In h := km_in_of (as := asK) (e := fun _ => by kernel_rfl) (ts := tsL) Y
  have hT := tabs_at Y
  have XG := ghost_K hT X (show noTabs (Kf w.params) = true by kernel_rfl!)
  obtain ⟨o3, es3, ep3, e3, _⟩ := ghost_ns hT T.g
  obtain ⟨z, oz, ez, hz⟩ := last_live _ e3 (Nat.le_refl _)
  have kp := cut_keeps hz
  have XC : (Kf w.params).In (cutAt (ghostOf h tabPairs) z) := fun a o e => kp _ _ (XG a o e)
  obtain ⟨bm, ob, a1, a2, a3, a4, a5, a6⟩ := T.bmain
  obtain ⟨mc, c1, c2⟩ := T.nolimit
  refine ⟨⟨w, cutAt (ghostOf h tabPairs) z, mg, mb, XC, ⟨(ghost_ns hT T.g).keeps kp, (ghost_ns hT T.b).keeps kp, ⟨mc, (ghost_ns hT c1).keeps kp, c2⟩, T.builtins, fun x h1 h2 h3 h4 h5 => ?_⟩, fun t ht => ?_, ⟨z, oz, kp _ _ ez, cut_size⟩, ⟨bm, ob, a1, a2, kp _ _ (ghost_get hT a3 fun q => by rw [q] at a4; cases a4), a4, a5, a6⟩⟩, rfl, rfl, fun b o e => ?_⟩
  · have k1 : x ∉ looseW q loose := fun hx => by
      have := List.all_eq_true.mp free_in x hx
      simp only [Bool.or_eq_true, List.contains_iff_mem] at this
      rcases this with (((q | q) | q) | q) | q
      · exact h1 q
      · exact h2 q
      · exact h3 q
      · exact h4 q
      · exact h5 q
    refine T.free x h1 k1 h3 h4 fun hx => ?_
    obtain ⟨c, hc, rfl⟩ := List.mem_map.mp hx
    have := List.all_eq_true.mp cls_in c hc
    exact h5 (List.contains_iff_mem.mp this)
  · have ht : t ∈ [(u "_law_stepped", (434 : Nat), (430 : Nat)), (u "_law_mover_of", 441, 437), (u "_law_are_chars_right", 448, 444), (u "_law_are_words_right", 455, 451), (u "_law_are_lines_right", 460, 458)] := ht
    simp only [List.mem_cons, List.not_mem_nil, or_false] at ht
    rcases ht with rfl | rfl | rfl | rfl | rfl
    · exact codeHd_of_K XC (by kernel_rfl!)
    · exact codeHd_of_K XC (by kernel_rfl!)
    · exact codeHd_of_K XC (by kernel_rfl!)
    · exact codeHd_of_K XC (by kernel_rfl!)
    · exact codeHd_of_K XC (by kernel_rfl!)
  · have e' := cut_of e
    refine ⟨of_hideAll _ e', fun ht => ?_⟩
    rw [hideAll_none _ (isTab_iff.mp ht)] at e'; cases e'
end Mine
end
section
open PySem PySem.W PyProof.Rows PySem.Calls PyProof PySem.Spec
namespace Mine
theorem well_ints {P : Params} {h : Heap} : ∀ {vs : List Value} {ns : List Int}, WellAll P h vs (ns.map .int) → IntsAre vs ns
  | _, [], r => by cases r; exact .nil
  | _, n :: ns, r => by
    cases r with
    | cons a r => cases a; exact .cons _ _ (well_ints r)
theorem args_are {args : List WData} (h : rw0.row.toRowW.claim.pre args = true) : ∃ ns : List Int, args = [.list (ns.map .int)] ∧ ns.length ≤ 63 := by
  obtain ⟨h1, h2⟩ := pre_splitW h
  have h1 : WShape.hasAll [] args [.list .int] = true := h1
  obtain ⟨d, r, rfl, hd, hr⟩ := hasAllW_cons h1
  have hr := hasAllW_nil hr
  subst hr
  obtain ⟨xs, rfl, hx⟩ := hasW_list hd
  obtain ⟨ns, rfl⟩ := items_int hx
  refine ⟨ns, rfl, ?_⟩
  have h2 : WTm.holds [] (.and (.not (.lt (.lit (.int 63)) (.len (.arg 0)))) (.lit (.bool true))) { args := [.list (ns.map .int)] } = true := h2
  apply Classical.byContradiction
  intro q
  have e : decide ((63 : Int) < ns.length) = true := by simp; lia
  have hv : WTm.value [] (.and (.not (.lt (.lit (.int 63)) (.len (.arg 0)))) (.lit (.bool true))) { args := [.list (ns.map .int)] } = some (.bool (!decide ((63 : Int) < (ns.map WData.int).length) && true)) := by
    show (match (match (match some (WData.bool (decide ((63 : Int) < (ns.map WData.int).length))) with | some (.bool b) => some (WData.bool (!b)) | _ => none) with | some (.bool false) => some (WData.bool false) | some (.bool true) => some (WData.bool true) | _ => none) with | x => x) = _
    rw [List.length_map, e]; rfl
  unfold WTm.holds at h2
  rw [hv, List.length_map, e] at h2
  cases h2
theorem law_at {S : St} : S.mg (u "law") = some (.ref 475) := mg_of S.kin S.top.g (v := .ref 475) (by kernel_rfl!)
end Mine
end
section
open PySem PySem.W PyProof.Rows PySem.Calls PyProof PySem.Spec
namespace Mine
theorem post_true (args : List WData) : rw0.row.toRowW.claim.post args (.bool true) args = true := by
  show (WShape.has [] (.bool true) .bool && WTm.holds [] (.eq .res (.lit (.bool true))) { args := args, res := some (.bool true), after := args }) = true
  have e : PySem.W.same (.bool true) (.bool true) = true := by simp [PySem.W.same]
  simp [WShape.has, WShape.arms, WTm.holds, WTm.value, e]
open Classical in
/-- all but the tables -/
noncomputable def offTabs (h : Heap) : IM := fun b => if IsTab b then none else h.get? b
theorem offTabs_at {h : Heap} {b : Addr} {o : Obj} (e : h.get? b = some o) (q : ¬ IsTab b) : offTabs h b = some o := by unfold offTabs; rw [if_neg q]; exact e
theorem offTabs_of {h : Heap} {b : Addr} {o : Obj} (e : offTabs h b = some o) : h.get? b = some o := by
  unfold offTabs at e
  split at e
  · cases e
  · exact e
theorem offTabs_no {h : Heap} {b : Addr} (q : IsTab b) : offTabs h b = none := by unfold offTabs; rw [if_pos q]
theorem walk {d : DefRec} {kwd : List (Str × Expr)} (hn : d.name = u "law") : WalkO q loose (XL q []) Hk.says rw0.row.toRowW d kwd fun f vs => PySem.call f vs := by
  intro w s₀ s₁ mg mb G Y a o pm cd doc dV kV ho hd hcd hD hmg hg args vals as hpre hlay hrd hwl hlo
  obtain ⟨ns, rfl, hz⟩ := args_are hpre
  obtain ⟨S, rfl, rfl, hG⟩ := st_of G.T Y
  rw [hn, law_at] at hmg
  cases hmg
  have hT := tabs_at Y
  cases hwl with
  | cons hw hr =>
  cases hr
  cases hw with
  | @list l vs _ hl hvs =>
  have hi := well_ints hvs
  -- what is never turned
  have tabO : ∀ b, IsTab b → s₁.heap.get? b = some (tabObj #[]) := fun b q => by
    obtain ⟨t, ht, rfl⟩ := q
    exact (hT _ (List.mem_map_of_mem ht)).2
  have ok : Ok S (fun _ => False) (offTabs s₁.heap) (fun _ => anyO) [] s₁.heap := by
    exact ⟨fun b o e => offTabs_of e, (fun b o e => offTabs_at (hG b o e).1 (hG b o e).2), (fun t ht => ⟨offTabs_no ⟨t, ht, rfl⟩, ⟨#[], tabO _ ⟨t, ht, rfl⟩, trivial, (fun pos cv hc => by cases hc)⟩⟩), (fun env he => by cases he), (fun b hb => False.elim hb), (fun b hb => False.elim hb), (fun b hb => False.elim hb)⟩
  have nl : ¬ IsTab l := fun q => by rw [tabO l q] at hl; cases hl
  refine c_law (S := S) (d := fun _ => False) (k := 0) (J := fun _ => anyO) (fun b h => h) hz (fun _ _ e => by cases e) (A := callerA) (l := []) ⟨rfl, rfl, ?_, ?_⟩ ok (.cons ⟨l, vs.toArray, 0, rfl, offTabs_at hl nl, by simpa using hi⟩ .nil) fun v h' I' tk hl' ok' st hv => ?_
  · decide +kernel
  · decide +kernel
  · cases hv
    refine ⟨.inl ⟨.bool true, .bool true, [], rfl, fun cls => rfl, .bool true, post_true _, fun _ => ⟨List.nodup_nil, fun a ha => by cases ha⟩⟩, ⟨fun b o e => ?_, fun b o e => ?_⟩, rfl, AllBare.of_eq hg⟩
    · by_cases q : IsTab b
      · obtain ⟨t, ht, rfl⟩ := q
        obtain ⟨ps, e', _⟩ := (ok'.tabs t ht).is
        rw [tabO _ ⟨t, ht, rfl⟩] at e
        cases e
        obtain ⟨oc, vs', file, tf, flags, tg, inF, text, tt, c1, c2, c3, c4, _⟩ := (hT _ (List.mem_map_of_mem ht)).1
        exact .inr (.inl ⟨⟨t.2.1, oc, vs', c1, c2, c3, c4⟩, rfl, #[], ps, rfl, by simpa using e'⟩)
      · exact .inl (ok'.imm _ _ (hl' _ _ (offTabs_at e q)))
    · by_cases q : IsTab b
      · obtain ⟨t, ht, rfl⟩ := q
        obtain ⟨ps, e', _⟩ := (ok'.tabs t ht).is
        exact ⟨_, e'⟩
      · exact ⟨_, ok'.imm _ _ (hl' _ _ (offTabs_at e q))⟩
end Mine
end
section
open PySem PySem.W PyProof.Rows
namespace Mine
theorem joined (ws : (rw0.row.wellSaid = true → rw0.row.Holds) → rw0.Holds) (left : LeftO pw q loose (fun s => xlAt q [] s && recOk (RowW.records rw0.row.toRowW) s) Hk.obs Hk.val 6000) : rw0.Holds := by
  refine ws fun said => ?_
  obtain ⟨d, kwd, hdef⟩ : ∃ d kwd, defOf q rw0.row.name = some (d, kwd) := by
    have : (defOf q rw0.row.name).isSome = true := by kernel_rfl!
    obtain ⟨x, hx⟩ := Option.isSome_iff_exists.mp this
    exact ⟨x.1, x.2, hx⟩
  have h1 : (defOf q rw0.row.name).map (fun x => some (x.1.params, x.1.body, x.1.scope)) = some (rw0.row.prog.theDef rw0.row.name) := by kernel_rfl!
  have h2 : (defOf q rw0.row.name).map (fun x => kwWritten? x.1.params.kwonlyargs x.1.params.kw_defaults) = (defOf q rw0.row.name).map fun x => some x.2 := by kernel_rfl!
  rw [hdef] at h1 h2
  have h1 := (Option.some.inj h1).symm
  have h2 := Option.some.inj h2
  refine holds_open (r := rw0.row) (q := q) (loose := loose) (XP := XL q []) (YP := Hk.says) (N := 6000) left Hk.of Hk.keeps (fun s e => xl_of s (Bool.and_eq_true_iff.mp e).1) XL.keeps hdef h1 h2 (fun s e => recFacts_of (Bool.and_eq_true_iff.mp e).2) (by kernel_rfl!) said (by kernel_rfl!) ⟨rfl, rfl, rfl, rfl, rfl, by decide +kernel⟩ ⟨[.list []], by decide +kernel, by decide +kernel⟩ (walk (defOf_name hdef))
end Mine
end
theorem PySem.Challenge.cw_pq0280_01_holds : PySem.Challenge.rw_pq0280_01.Holds :=
  Mine.joined Mine.ws Mine.left
