import PyProof.Rows.All
import Wide.All
import OpenK.AllK
import Wide.FinOn
import Lean
import PySem.Challenge.RW_ok0065_01
open PySem PySem.W PySem.Calls PyProof.Rows
set_option Elab.async false
set_option autoImplicit false
set_option linter.all false
set_option maxRecDepth 100000
set_option maxHeartbeats 8000000
set_option genSizeOf false
set_option genInjectivity false
set_option bootstrap.genMatcherCode false
set_option backward.match.sparseCases false
namespace Mine
section
noncomputable abbrev pw0 : Program := PySem.Challenge.rw_ok0065_01.row.toRowW.prog
noncomputable def kisNm : Stmt → Bool
  | .Assign [.Name _ _] (.Constant (.str _) _ _) _ => true
  | _ => false
noncomputable def kvw : Program := { pw0 with main := { pw0.main with body := pw0.main.body.filter fun s => !kisNm s } }
noncomputable def ksv (s : String) (t : Nat) : Value := .str (Str.ofString s) t
noncomputable def ken (P : Params) (s : String) (t : Nat) (v : Value) : DictEntry := { hash := PyData.keyHash P (Str.ofString s), key := .str (Str.ofString s) t, val := v }
noncomputable def kdi (es : Array DictEntry) (n : Nat) : Obj := { cls := .type "dict", data := .dict es n }
noncomputable def kco (vs : Array Value) : Obj := { cls := .type "code", data := .fields vs }
noncomputable def kfo (n q : String) (a : Arguments) (b : List Stmt) (s : Scope) (md : String) (t : Nat) (c : Addr) : Obj := { cls := .type "function", data := .func { name := Str.ofString n, qualname := Str.ofString q, params := a, body := .stmts b, scope := s, globals := 3, closure := [], defaults := .none, kwdefaults := .none, pyModule := ksv md t, code := .ref c } }
noncomputable def kfn {i : Nat} {n' bd : Str} {a : Arguments} {b : List Stmt} {d : List PySem.Expr} {r : Option PySem.Expr} {tp : List TypeParam} {s : Scope} {ts : Option Scope} {p : Pos} (_ : pw0.main.body[i]? = some (.FunctionDef n' a b d r tp s ts bd p)) (n q md : String) (t : Nat) (c : Addr) : Obj := kfo n q a b s md t c
noncomputable def kfm {i : Nat} {n' bd cn cbd : Str} {a : Arguments} {b cr : List Stmt} {d cd ce : List PySem.Expr} {r : Option PySem.Expr} {tp ctp : List TypeParam} {s cs : Scope} {ts cts : Option Scope} {p cp : Pos} {ck : List Keyword} {csa : List Str} (_ : pw0.main.body[i]? = some (.ClassDef cn cd ck (.FunctionDef n' a b d r tp s ts bd p :: cr) ce ctp cs cts cbd csa cp)) (n q md : String) (t : Nat) (c : Addr) : Obj := kfo n q a b s md t c
noncomputable def kdr {i : Nat} {n' bd : Str} {a : Arguments} {b : List Stmt} {d : List PySem.Expr} {r : Option PySem.Expr} {tp : List TypeParam} {s : Scope} {ts : Option Scope} {p : Pos} (_ : pw0.main.body[i]? = some (.FunctionDef n' a b d r tp s ts bd p)) : DefRec := ⟨n', a, b, s, p⟩
noncomputable def lawD : DefRec := kdr (i := 39) (by rfl)
noncomputable def KF : Params → Frag := fun P =>
  (nat_lit 3, kdi #[ken P "__name__" 165 (ksv "law_ok0065_01" 543), ken P "__doc__" 166 (.none), ken P "__package__" 167 (.none), ken P "__loader__" 168 (.builtin "__main__.__loader__#opaque"), ken P "__spec__" 169 (.none), ken P "__annotations__" 170 (.ref 6), ken P "__builtins__" 171 (.ref 4), ken P "__file__" 173 (ksv "/claim/cut.py" 172), ken P "__cached__" 174 (.none), ken P "OverlayNode" 231 (.ref 31), ken P "OverlayTree" 260 (.ref 52), ken P "hand_down" 268 (.ref 63), ken P "hand_down_to" 277 (.ref 70), ken P "greatest_end" 286 (.ref 77), ken P "renew_limits" 294 (.ref 84), ken P "hang" 304 (.ref 91), ken P "turn_left" 313 (.ref 98), ken P "turn_right" 322 (.ref 105), ken P "is_red" 329 (.ref 112), ken P "colour_inserted" 341 (.ref 119), ken P "turned_inward" 351 (.ref 126), ken P "put_node" 362 (.ref 133), ken P "first_below" 369 (.ref 140), ken P "take_place" 379 (.ref 147), ken P "drop_node" 392 (.ref 154), ken P "colour_dropped" 402 (.ref 161), ken P "sibling_of" 410 (.ref 168), ken P "turn_towards" 419 (.ref 175), ken P "lightened" 432 (.ref 182), ken P "all_nodes_in_order" 442 (.ref 189), ken P "nodes_between" 454 (.ref 196), ken P "begins_to_move" 465 (.ref 203), ken P "grows" 474 (.ref 210), ken P "open_gap" 480 (.ref 215), ken P "shift_nodes" 492 (.ref 222), ken P "close_gap" 503 (.ref 229), ken P "black_height" 513 (.ref 236), ken P "nodes_from_below" 523 (.ref 243), ken P "shape_error" 531 (.ref 250), ken P "overlay_tree_error" 542 (.ref 257), ken P "_law_deck" 550 (.ref 262), ken P "_law_draw" 559 (.ref 269), ken P "_law_came" 575 (.ref 276), ken P "_law_gone" 581 (.ref 281), ken P "_law_is_asked_right" 587 (.ref 286), ken P "law" 593 (.ref 291)] 46) ::
  (nat_lit 27, kco #[ksv "__init__" 201, ksv "OverlayNode.__init__" 202, ksv "/claim/cut.py" 203, .int 4 0, .int 6 0, .int 0 0, .int 0 0, .int 3 0, .ref 22, .bool true, .int 181 0, .ref 23, .none, .ref 24, .ref 25, .ref 26, .int 210 0, .int 4 0, ksv "/claim/cut.py" 211]) ::
  (nat_lit 28, kfm (i := 1) (by rfl) "__init__" "OverlayNode.__init__" "emacs.overlaytree" 187 27) ::
  (nat_lit 30, kdi #[ken P "__module__" 196 (ksv "emacs.overlaytree" 187), ken P "__firstlineno__" 200 (.int 2 199), ken P "__init__" 212 (.ref 28), ken P "__static_attributes__" 224 (.ref 29), ken P "__dict__" 226 (.ref 32), ken P "__weakref__" 228 (.ref 33), ken P "__doc__" 229 (.none)] 4) ::
  (nat_lit 31, { cls := .type "type", data := .cls { name := Str.ofString "OverlayNode", bases := [.type "object"], mro := [.ref 31, .type "object"], ns := 30, qualname := Str.ofString "OverlayNode" }, slots := #[none, none, some (ksv "OverlayNode" 189), some (ksv "OverlayNode" 197), some (.builtin "object.__new__"), some (.bool true)] }) ::
  (nat_lit 48, kco #[ksv "__init__" 244, ksv "OverlayTree.__init__" 245, ksv "/claim/cut.py" 246, .int 18 0, .int 1 0, .int 0 0, .int 0 0, .int 3 0, .ref 43, .bool true, .int 181 0, .ref 44, .none, .ref 45, .ref 46, .ref 47, .int 248 0, .int 18 0, ksv "/claim/cut.py" 249]) ::
  (nat_lit 49, kfm (i := 2) (by rfl) "__init__" "OverlayTree.__init__" "emacs.overlaytree" 187 48) ::
  (nat_lit 51, kdi #[ken P "__module__" 239 (ksv "emacs.overlaytree" 187), ken P "__firstlineno__" 243 (.int 16 242), ken P "__init__" 250 (.ref 49), ken P "__static_attributes__" 253 (.ref 50), ken P "__dict__" 255 (.ref 53), ken P "__weakref__" 257 (.ref 54), ken P "__doc__" 258 (.none)] 4) ::
  (nat_lit 52, { cls := .type "type", data := .cls { name := Str.ofString "OverlayTree", bases := [.type "object"], mro := [.ref 52, .type "object"], ns := 51, qualname := Str.ofString "OverlayTree" }, slots := #[none, none, some (ksv "OverlayTree" 232), some (ksv "OverlayTree" 240), some (.builtin "object.__new__"), some (.bool true)] }) ::
  (nat_lit 62, kco #[ksv "hand_down" 261, ksv "hand_down" 262, ksv "/claim/cut.py" 263, .int 21 0, .int 1 0, .int 0 0, .int 0 0, .int 3 0, .ref 57, .bool true, .int 181 0, .ref 58, .none, .ref 59, .ref 60, .ref 61, .int 266 0, .int 21 0, ksv "/claim/cut.py" 267]) ::
  (nat_lit 63, kfn (i := 3) (by rfl) "hand_down" "hand_down" "emacs.overlaytree" 187 62) ::
  (nat_lit 69, kco #[ksv "hand_down_to" 269, ksv "hand_down_to" 270, ksv "/claim/cut.py" 271, .int 31 0, .int 1 0, .int 0 0, .int 0 0, .int 3 0, .ref 64, .bool true, .int 181 0, .ref 65, .none, .ref 66, .ref 67, .ref 68, .int 275 0, .int 31 0, ksv "/claim/cut.py" 276]) ::
  (nat_lit 70, kfn (i := 4) (by rfl) "hand_down_to" "hand_down_to" "emacs.overlaytree" 187 69) ::
  (nat_lit 76, kco #[ksv "greatest_end" 278, ksv "greatest_end" 279, ksv "/claim/cut.py" 280, .int 38 0, .int 1 0, .int 0 0, .int 0 0, .int 3 0, .ref 71, .bool true, .int 181 0, .ref 72, .none, .ref 73, .ref 74, .ref 75, .int 284 0, .int 38 0, ksv "/claim/cut.py" 285]) ::
  (nat_lit 77, kfn (i := 5) (by rfl) "greatest_end" "greatest_end" "emacs.overlaytree" 187 76) ::
  (nat_lit 83, kco #[ksv "renew_limits" 287, ksv "renew_limits" 288, ksv "/claim/cut.py" 289, .int 44 0, .int 1 0, .int 0 0, .int 0 0, .int 3 0, .ref 78, .bool true, .int 181 0, .ref 79, .none, .ref 80, .ref 81, .ref 82, .int 292 0, .int 44 0, ksv "/claim/cut.py" 293]) ::
  (nat_lit 84, kfn (i := 6) (by rfl) "renew_limits" "renew_limits" "emacs.overlaytree" 187 83) ::
  (nat_lit 90, kco #[ksv "hang" 295, ksv "hang" 296, ksv "/claim/cut.py" 297, .int 51 0, .int 4 0, .int 0 0, .int 0 0, .int 3 0, .ref 85, .bool true, .int 181 0, .ref 86, .none, .ref 87, .ref 88, .ref 89, .int 302 0, .int 51 0, ksv "/claim/cut.py" 303]) ::
  (nat_lit 91, kfn (i := 7) (by rfl) "hang" "hang" "emacs.overlaytree" 187 90) ::
  (nat_lit 97, kco #[ksv "turn_left" 305, ksv "turn_left" 306, ksv "/claim/cut.py" 307, .int 60 0, .int 2 0, .int 0 0, .int 0 0, .int 3 0, .ref 92, .bool true, .int 181 0, .ref 93, .none, .ref 94, .ref 95, .ref 96, .int 311 0, .int 60 0, ksv "/claim/cut.py" 312]) ::
  (nat_lit 98, kfn (i := 8) (by rfl) "turn_left" "turn_left" "emacs.overlaytree" 187 97) ::
  (nat_lit 104, kco #[ksv "turn_right" 314, ksv "turn_right" 315, ksv "/claim/cut.py" 316, .int 72 0, .int 2 0, .int 0 0, .int 0 0, .int 3 0, .ref 99, .bool true, .int 181 0, .ref 100, .none, .ref 101, .ref 102, .ref 103, .int 320 0, .int 72 0, ksv "/claim/cut.py" 321]) ::
  (nat_lit 105, kfn (i := 9) (by rfl) "turn_right" "turn_right" "emacs.overlaytree" 187 104) ::
  (nat_lit 111, kco #[ksv "is_red" 323, ksv "is_red" 324, ksv "/claim/cut.py" 325, .int 84 0, .int 1 0, .int 0 0, .int 0 0, .int 3 0, .ref 106, .bool true, .int 181 0, .ref 107, .none, .ref 108, .ref 109, .ref 110, .int 327 0, .int 84 0, ksv "/claim/cut.py" 328]) ::
  (nat_lit 112, kfn (i := 10) (by rfl) "is_red" "is_red" "emacs.overlaytree" 187 111) ::
  (nat_lit 118, kco #[ksv "colour_inserted" 330, ksv "colour_inserted" 331, ksv "/claim/cut.py" 332, .int 86 0, .int 2 0, .int 0 0, .int 0 0, .int 3 0, .ref 113, .bool true, .int 181 0, .ref 114, .none, .ref 115, .ref 116, .ref 117, .int 339 0, .int 86 0, ksv "/claim/cut.py" 340]) ::
  (nat_lit 119, kfn (i := 11) (by rfl) "colour_inserted" "colour_inserted" "emacs.overlaytree" 187 118) ::
  (nat_lit 125, kco #[ksv "turned_inward" 342, ksv "turned_inward" 343, ksv "/claim/cut.py" 344, .int 106 0, .int 3 0, .int 0 0, .int 0 0, .int 3 0, .ref 120, .bool true, .int 181 0, .ref 121, .none, .ref 122, .ref 123, .ref 124, .int 349 0, .int 106 0, ksv "/claim/cut.py" 350]) ::
  (nat_lit 126, kfn (i := 12) (by rfl) "turned_inward" "turned_inward" "emacs.overlaytree" 187 125) ::
  (nat_lit 132, kco #[ksv "put_node" 352, ksv "put_node" 353, ksv "/claim/cut.py" 354, .int 115 0, .int 2 0, .int 0 0, .int 0 0, .int 3 0, .ref 127, .bool true, .int 181 0, .ref 128, .none, .ref 129, .ref 130, .ref 131, .int 360 0, .int 115 0, ksv "/claim/cut.py" 361]) ::
  (nat_lit 133, kfn (i := 13) (by rfl) "put_node" "put_node" "emacs.overlaytree" 187 132) ::
  (nat_lit 139, kco #[ksv "first_below" 363, ksv "first_below" 364, ksv "/claim/cut.py" 365, .int 142 0, .int 1 0, .int 0 0, .int 0 0, .int 3 0, .ref 134, .bool true, .int 181 0, .ref 135, .none, .ref 136, .ref 137, .ref 138, .int 367 0, .int 142 0, ksv "/claim/cut.py" 368]) ::
  (nat_lit 140, kfn (i := 14) (by rfl) "first_below" "first_below" "emacs.overlaytree" 187 139) ::
  (nat_lit 146, kco #[ksv "take_place" 370, ksv "take_place" 371, ksv "/claim/cut.py" 372, .int 148 0, .int 3 0, .int 0 0, .int 0 0, .int 3 0, .ref 141, .bool true, .int 181 0, .ref 142, .none, .ref 143, .ref 144, .ref 145, .int 377 0, .int 148 0, ksv "/claim/cut.py" 378]) ::
  (nat_lit 147, kfn (i := 15) (by rfl) "take_place" "take_place" "emacs.overlaytree" 187 146) ::
  (nat_lit 153, kco #[ksv "drop_node" 380, ksv "drop_node" 381, ksv "/claim/cut.py" 382, .int 157 0, .int 2 0, .int 0 0, .int 0 0, .int 3 0, .ref 148, .bool true, .int 181 0, .ref 149, .none, .ref 150, .ref 151, .ref 152, .int 390 0, .int 157 0, ksv "/claim/cut.py" 391]) ::
  (nat_lit 154, kfn (i := 16) (by rfl) "drop_node" "drop_node" "emacs.overlaytree" 187 153) ::
  (nat_lit 160, kco #[ksv "colour_dropped" 393, ksv "colour_dropped" 394, ksv "/claim/cut.py" 395, .int 179 0, .int 3 0, .int 0 0, .int 0 0, .int 3 0, .ref 155, .bool true, .int 181 0, .ref 156, .none, .ref 157, .ref 158, .ref 159, .int 400 0, .int 179 0, ksv "/claim/cut.py" 401]) ::
  (nat_lit 161, kfn (i := 17) (by rfl) "colour_dropped" "colour_dropped" "emacs.overlaytree" 187 160) ::
  (nat_lit 167, kco #[ksv "sibling_of" 403, ksv "sibling_of" 404, ksv "/claim/cut.py" 405, .int 188 0, .int 2 0, .int 0 0, .int 0 0, .int 3 0, .ref 162, .bool true, .int 181 0, .ref 163, .none, .ref 164, .ref 165, .ref 166, .int 408 0, .int 188 0, ksv "/claim/cut.py" 409]) ::
  (nat_lit 168, kfn (i := 18) (by rfl) "sibling_of" "sibling_of" "emacs.overlaytree" 187 167) ::
  (nat_lit 174, kco #[ksv "turn_towards" 411, ksv "turn_towards" 412, ksv "/claim/cut.py" 413, .int 190 0, .int 3 0, .int 0 0, .int 0 0, .int 3 0, .ref 169, .bool true, .int 181 0, .ref 170, .none, .ref 171, .ref 172, .ref 173, .int 417 0, .int 190 0, ksv "/claim/cut.py" 418]) ::
  (nat_lit 175, kfn (i := 19) (by rfl) "turn_towards" "turn_towards" "emacs.overlaytree" 187 174) ::
  (nat_lit 181, kco #[ksv "lightened" 420, ksv "lightened" 421, ksv "/claim/cut.py" 422, .int 195 0, .int 4 0, .int 0 0, .int 0 0, .int 3 0, .ref 176, .bool true, .int 181 0, .ref 177, .none, .ref 178, .ref 179, .ref 180, .int 430 0, .int 195 0, ksv "/claim/cut.py" 431]) ::
  (nat_lit 182, kfn (i := 20) (by rfl) "lightened" "lightened" "emacs.overlaytree" 187 181) ::
  (nat_lit 188, kco #[ksv "all_nodes_in_order" 433, ksv "all_nodes_in_order" 434, ksv "/claim/cut.py" 435, .int 221 0, .int 1 0, .int 0 0, .int 0 0, .int 3 0, .ref 183, .bool true, .int 181 0, .ref 184, .none, .ref 185, .ref 186, .ref 187, .int 440 0, .int 221 0, ksv "/claim/cut.py" 441]) ::
  (nat_lit 189, kfn (i := 21) (by rfl) "all_nodes_in_order" "all_nodes_in_order" "emacs.overlaytree" 187 188) ::
  (nat_lit 195, kco #[ksv "nodes_between" 443, ksv "nodes_between" 444, ksv "/claim/cut.py" 445, .int 234 0, .int 3 0, .int 0 0, .int 0 0, .int 3 0, .ref 190, .bool true, .int 181 0, .ref 191, .none, .ref 192, .ref 193, .ref 194, .int 452 0, .int 234 0, ksv "/claim/cut.py" 453]) ::
  (nat_lit 196, kfn (i := 22) (by rfl) "nodes_between" "nodes_between" "emacs.overlaytree" 187 195) ::
  (nat_lit 202, kco #[ksv "begins_to_move" 457, ksv "begins_to_move" 458, ksv "/claim/cut.py" 459, .int 253 0, .int 3 0, .int 0 0, .int 0 0, .int 3 0, .ref 197, .bool true, .int 181 0, .ref 198, .none, .ref 199, .ref 200, .ref 201, .int 463 0, .int 253 0, ksv "/claim/cut.py" 464]) ::
  (nat_lit 203, kfn (i := 24) (by rfl) "begins_to_move" "begins_to_move" "emacs.overlaygaps" 455 202) ::
  (nat_lit 209, kco #[ksv "grows" 466, ksv "grows" 467, ksv "/claim/cut.py" 468, .int 259 0, .int 3 0, .int 0 0, .int 0 0, .int 3 0, .ref 204, .bool true, .int 181 0, .ref 205, .none, .ref 206, .ref 207, .ref 208, .int 472 0, .int 259 0, ksv "/claim/cut.py" 473]) ::
  (nat_lit 210, kfn (i := 25) (by rfl) "grows" "grows" "emacs.overlaygaps" 455 209) ::
  (nat_lit 214, kco #[ksv "open_gap" 475, ksv "open_gap" 476, ksv "/claim/cut.py" 477, .int 261 0, .int 4 0, .int 0 0, .int 0 0, .int 3 0, .ref 211, .bool true, .int 181 0, .ref 212, .none, .none, .none, .ref 213, .int 478 0, .int 261 0, ksv "/claim/cut.py" 479]) ::
  (nat_lit 215, kfn (i := 26) (by rfl) "open_gap" "open_gap" "emacs.overlaygaps" 455 214) ::
  (nat_lit 221, kco #[ksv "shift_nodes" 481, ksv "shift_nodes" 482, ksv "/claim/cut.py" 483, .int 273 0, .int 4 0, .int 0 0, .int 0 0, .int 3 0, .ref 216, .bool true, .int 181 0, .ref 217, .none, .ref 218, .ref 219, .ref 220, .int 490 0, .int 273 0, ksv "/claim/cut.py" 491]) ::
  (nat_lit 222, kfn (i := 27) (by rfl) "shift_nodes" "shift_nodes" "emacs.overlaygaps" 455 221) ::
  (nat_lit 228, kco #[ksv "close_gap" 493, ksv "close_gap" 494, ksv "/claim/cut.py" 495, .int 290 0, .int 3 0, .int 0 0, .int 0 0, .int 3 0, .ref 223, .bool true, .int 181 0, .ref 224, .none, .ref 225, .ref 226, .ref 227, .int 501 0, .int 290 0, ksv "/claim/cut.py" 502]) ::
  (nat_lit 229, kfn (i := 28) (by rfl) "close_gap" "close_gap" "emacs.overlaygaps" 455 228) ::
  (nat_lit 235, kco #[ksv "black_height" 504, ksv "black_height" 505, ksv "/claim/cut.py" 506, .int 309 0, .int 2 0, .int 0 0, .int 0 0, .int 3 0, .ref 230, .bool true, .int 181 0, .ref 231, .none, .ref 232, .ref 233, .ref 234, .int 511 0, .int 309 0, ksv "/claim/cut.py" 512]) ::
  (nat_lit 236, kfn (i := 29) (by rfl) "black_height" "black_height" "emacs.overlaygaps" 455 235) ::
  (nat_lit 242, kco #[ksv "nodes_from_below" 514, ksv "nodes_from_below" 515, ksv "/claim/cut.py" 516, .int 315 0, .int 1 0, .int 0 0, .int 0 0, .int 3 0, .ref 237, .bool true, .int 181 0, .ref 238, .none, .ref 239, .ref 240, .ref 241, .int 521 0, .int 315 0, ksv "/claim/cut.py" 522]) ::
  (nat_lit 243, kfn (i := 30) (by rfl) "nodes_from_below" "nodes_from_below" "emacs.overlaygaps" 455 242) ::
  (nat_lit 249, kco #[ksv "shape_error" 524, ksv "shape_error" 525, ksv "/claim/cut.py" 526, .int 326 0, .int 1 0, .int 0 0, .int 0 0, .int 3 0, .ref 244, .bool true, .int 181 0, .ref 245, .none, .ref 246, .ref 247, .ref 248, .int 529 0, .int 326 0, ksv "/claim/cut.py" 530]) ::
  (nat_lit 250, kfn (i := 31) (by rfl) "shape_error" "shape_error" "emacs.overlaygaps" 455 249) ::
  (nat_lit 256, kco #[ksv "overlay_tree_error" 532, ksv "overlay_tree_error" 533, ksv "/claim/cut.py" 534, .int 338 0, .int 1 0, .int 0 0, .int 0 0, .int 3 0, .ref 251, .bool true, .int 181 0, .ref 252, .none, .ref 253, .ref 254, .ref 255, .int 540 0, .int 338 0, ksv "/claim/cut.py" 541]) ::
  (nat_lit 257, kfn (i := 32) (by rfl) "overlay_tree_error" "overlay_tree_error" "emacs.overlaygaps" 455 256) ::
  (nat_lit 261, kco #[ksv "_law_deck" 545, ksv "_law_deck" 546, ksv "/claim/cut.py" 547, .int 352 0, .int 1 0, .int 0 0, .int 0 0, .int 3 0, .ref 258, .bool true, .int 181 0, .ref 259, .none, .none, .none, .ref 260, .int 548 0, .int 352 0, ksv "/claim/cut.py" 549]) ::
  (nat_lit 262, kfn (i := 34) (by rfl) "_law_deck" "_law_deck" "law_ok0065_01" 543 261) ::
  (nat_lit 268, kco #[ksv "_law_draw" 551, ksv "_law_draw" 552, ksv "/claim/cut.py" 553, .int 354 0, .int 2 0, .int 0 0, .int 0 0, .int 3 0, .ref 263, .bool true, .int 181 0, .ref 264, .none, .ref 265, .ref 266, .ref 267, .int 557 0, .int 354 0, ksv "/claim/cut.py" 558]) ::
  (nat_lit 269, kfn (i := 35) (by rfl) "_law_draw" "_law_draw" "law_ok0065_01" 543 268) ::
  (nat_lit 275, kco #[ksv "_law_came" 560, ksv "_law_came" 561, ksv "/claim/cut.py" 562, .int 362 0, .int 4 0, .int 0 0, .int 0 0, .int 3 0, .ref 270, .bool true, .int 181 0, .ref 271, .none, .ref 272, .ref 273, .ref 274, .int 573 0, .int 362 0, ksv "/claim/cut.py" 574]) ::
  (nat_lit 276, kfn (i := 36) (by rfl) "_law_came" "_law_came" "law_ok0065_01" 543 275) ::
  (nat_lit 280, kco #[ksv "_law_gone" 576, ksv "_law_gone" 577, ksv "/claim/cut.py" 578, .int 367 0, .int 3 0, .int 0 0, .int 0 0, .int 3 0, .ref 277, .bool true, .int 181 0, .ref 278, .none, .none, .none, .ref 279, .int 579 0, .int 367 0, ksv "/claim/cut.py" 580]) ::
  (nat_lit 281, kfn (i := 37) (by rfl) "_law_gone" "_law_gone" "law_ok0065_01" 543 280) ::
  (nat_lit 285, kco #[ksv "_law_is_asked_right" 582, ksv "_law_is_asked_right" 583, ksv "/claim/cut.py" 584, .int 369 0, .int 3 0, .int 0 0, .int 0 0, .int 3 0, .ref 282, .bool true, .int 181 0, .ref 283, .none, .none, .none, .ref 284, .int 585 0, .int 369 0, ksv "/claim/cut.py" 586]) ::
  (nat_lit 286, kfn (i := 38) (by rfl) "_law_is_asked_right" "_law_is_asked_right" "law_ok0065_01" 543 285) ::
  (nat_lit 290, kco #[ksv "law" 588, ksv "law" 589, ksv "/claim/cut.py" 590, .int 374 0, .int 1 0, .int 0 0, .int 0 0, .int 3 0, .ref 287, .bool true, .int 181 0, .ref 288, .none, .none, .none, .ref 289, .int 591 0, .int 374 0, ksv "/claim/cut.py" 592]) ::
  (nat_lit 291, kfn (i := 39) (by rfl) "law" "law" "law_ok0065_01" 543 290) :: []
noncomputable def KA : List Addr := [3, 27, 28, 30, 31, 48, 49, 51, 52, 62, 63, 69, 70, 76, 77, 83, 84, 90, 91, 97, 98, 104, 105, 111, 112, 118, 119, 125, 126, 132, 133, 139, 140, 146, 147, 153, 154, 160, 161, 167, 168, 174, 175, 181, 182, 188, 189, 195, 196, 202, 203, 209, 210, 214, 215, 221, 222, 228, 229, 235, 236, 242, 243, 249, 250, 256, 257, 261, 262, 268, 269, 275, 276, 280, 281, 285, 286, 290, 291]
theorem KA_eq : ∀ P, KA = (KF P).map (·.1) := fun _ => rfl
noncomputable def KH : Hook := kHook KF KA KA_eq
theorem kLeft : LeftO pw0 kvw [] (fun s => xlAt kvw [] s && recOk (RowW.records PySem.Challenge.rw_ok0065_01.row.toRowW) s) (Hook.obs KH) (Hook.val KH) 3274 := by
  intro w
  kernel_rfl
end
section
theorem kSaid : PySem.Challenge.rw_ok0065_01.wellSaid = true := by decide +kernel
theorem hdw (walk : WalkO kvw [] (XL kvw []) (Hook.says KH) PySem.Challenge.rw_ok0065_01.row.toRowW lawD [] fun f vs => PySem.call f vs) : PySem.Challenge.rw_ok0065_01.Holds := by
  refine holds_law kSaid fun said => ?_
  refine holds_open (q := kvw) (loose := []) (Xt := fun s => xlAt kvw [] s && recOk (RowW.records PySem.Challenge.rw_ok0065_01.row.toRowW) s) (XP := XL kvw []) (Yf := Hook.obs KH) (Ya := Hook.val KH) (YP := Hook.says KH) (N := 3274) kLeft (Hook.of KH) (Hook.keeps KH)
    (fun s e => xl_of s (Bool.and_eq_true_iff.mp e).1) XL.keeps ?_ ?_ ?_ (fun s e => recFacts_of (Bool.and_eq_true_iff.mp e).2) rfl said ?_ ⟨rfl, rfl, rfl, rfl, rfl, ?_⟩ ?_ walk
  · kernel_rfl
  · kernel_rfl
  · kernel_rfl
  · decide +kernel
  · decide +kernel
  · exact ⟨[.list [.int 3, .int 1]], by decide +kernel, by decide +kernel⟩
end
section
theorem sl_le {n k : Nat} (h : n ≤ k) (q : Nat.ble k 16777216 = true := by rfl) : n ≤ sizeLine := by
  rw [sizeLine_eq]; exact Nat.le_trans h (Nat.le_of_ble_eq_true q)
inductive AV where
  | none | bool (b : Bool) | int (i : Int) | str (s : Str) | ref (a : Addr) | other
noncomputable def er : Value → AV
  | .none => .none
  | .bool b => .bool b
  | .int i _ => .int i
  | .str s _ => .str s
  | .ref a => .ref a
  | _ => .other
noncomputable def erI (v : Value) : AV → Prop
  | .none => v = .none
  | .bool b => v = .bool b
  | .int i => ∃ t, v = .int i t
  | .str s => ∃ t, v = .str s t
  | .ref a => v = .ref a
  | .other => True
theorem er_inv (v : Value) : erI v (er v) := by cases v <;> first | exact rfl | exact ⟨_, rfl⟩ | exact trivial
theorem er_of {v : Value} {w : AV} (h : er v = w) : erI v w := h ▸ er_inv v
theorem er_none {v : Value} (h : er v = .none) : v = .none := er_of h
theorem er_bool {v : Value} {b : Bool} (h : er v = .bool b) : v = .bool b := er_of h
theorem er_int {v : Value} {i : Int} (h : er v = .int i) : ∃ t, v = .int i t := er_of h
theorem er_str {v : Value} {s : Str} (h : er v = .str s) : ∃ t, v = .str s t := er_of h
theorem er_ref {v : Value} {a : Addr} (h : er v = .ref a) : v = .ref a := er_of h
theorem ff {P : Prop} (h : false = true) : P := Bool.noConfusion h
theorem none_some {α : Type} {P : Prop} {a : α} (h : none = some a) : P := by cases h
noncomputable def Ans {α : Type} (P : α → Prop) : Option α → Prop
  | some a => P a
  | none => True
theorem Ans.of {α : Type} {P : α → Prop} {o : Option α} {a : α} (h : Ans P o) (e : o = some a) : P a := by rw [e] at h; exact h
noncomputable def AV.opt : Option Addr → AV
  | .none => .none
  | some a => .ref a
noncomputable def AV.toOpt : AV → Option (Option Addr)
  | .none => some .none
  | .ref a => some (some a)
  | _ => .none
theorem AV.toOpt_eq {v : AV} {o : Option Addr} (h : v.toOpt = some o) : v = AV.opt o := Ans.of (P := fun o => v = AV.opt o) (by cases v <;> first | exact rfl | exact trivial) h
noncomputable def AV.ref? : AV → Option Addr
  | .ref a => some a
  | _ => Option.none
noncomputable def AV.int? : AV → Option Int
  | .int i => some i
  | _ => Option.none
noncomputable def AV.bool? : AV → Option Bool
  | .bool b => some b
  | _ => Option.none
theorem ref?_eq {v : AV} {a : Addr} (h : v.ref? = some a) : v = .ref a := Ans.of (P := fun a => v = .ref a) (by cases v <;> first | exact rfl | exact trivial) h
theorem int?_eq {v : AV} {i : Int} (h : v.int? = some i) : v = .int i := Ans.of (P := fun i => v = .int i) (by cases v <;> first | exact rfl | exact trivial) h
theorem bool?_eq {v : AV} {b : Bool} (h : v.bool? = some b) : v = .bool b := Ans.of (P := fun b => v = .bool b) (by cases v <;> first | exact rfl | exact trivial) h
structure NodeRec where
  number : Int
  begin_ : Int
  end_ : Int
  front : Bool
  rear : Bool
  limit : Int
  offset : Int
  red : Bool
  left : Option Addr
  right : Option Addr
  parent : Option Addr
noncomputable abbrev Fs := List (Str × AV)
noncomputable def setL (n : Str) (v : AV) : Fs → Fs
  | [] => [(n, v)]
  | (k, u) :: r => if n == k then (k, v) :: r else (k, u) :: setL n v r
theorem lookup_setL (n : Str) (v : AV) (x : Str) : ∀ fs : Fs, (setL n v fs).lookup x = if x = n then some v else fs.lookup x
  | [] => by
    by_cases h : x = n
    · subst h; simp [setL]
    · have : (x == n) = false := by simpa using h
      simp [setL, List.lookup, this, h]
  | (k, u) :: r => by
    simp only [setL]
    by_cases hk : n = k
    · subst hk
      simp only [beq_self_eq_true, if_true]
      by_cases h : x = n
      · subst h; simp
      · have : (x == n) = false := by simpa using h
        simp [List.lookup, this, h]
    · have hk' : (n == k) = false := by simpa using hk
      simp only [hk', Bool.false_eq_true, if_false]
      by_cases h : x = k
      · subst h
        have : ¬ x = n := fun e => hk e.symm
        simp [List.lookup, this]
      · have hx : (x == k) = false := by simpa using h
        simp only [List.lookup, hx]
        exact lookup_setL n v x r
noncomputable def NodeRec.fs (r : NodeRec) : Fs :=
  [("number", .int r.number), ("begin", .int r.begin_), ("end", .int r.end_), ("front_advance", .bool r.front), ("rear_advance", .bool r.rear),
   ("limit", .int r.limit), ("offset", .int r.offset), ("is_red", .bool r.red), ("left", .opt r.left), ("right", .opt r.right), ("parent", .opt r.parent)]
noncomputable def treeFs (t : Option Addr × Int) : Fs := [("root", .opt t.1), ("count", .int t.2)]
inductive Fld where
  | num | bgn | en | fr | re | lim | off | red | lft | rgt | prn | root | cnt
noncomputable def Fld.name : Fld → Str
  | .num => Str.ofString "number"
  | .bgn => Str.ofString "begin"
  | .en => Str.ofString "end"
  | .fr => Str.ofString "front_advance"
  | .re => Str.ofString "rear_advance"
  | .lim => Str.ofString "limit"
  | .off => Str.ofString "offset"
  | .red => Str.ofString "is_red"
  | .lft => Str.ofString "left"
  | .rgt => Str.ofString "right"
  | .prn => Str.ofString "parent"
  | .root => Str.ofString "root"
  | .cnt => Str.ofString "count"
noncomputable def fldTab : List (Str × Fld) := [Fld.num, .bgn, .en, .fr, .re, .lim, .off, .red, .lft, .rgt, .prn, .root, .cnt].map fun f => (f.name, f)
noncomputable def fldOf (a : Str) : Option Fld := fldTab.lookup a
theorem fldOf_name {a : Str} {f : Fld} (h : fldOf a = some f) : f.name = a := by
  obtain ⟨g, _, e⟩ := List.mem_map.mp (PySem.mem_of_lookup h)
  cases e; rfl
theorem fldOf_self (f : Fld) : fldOf f.name = some f := by cases f <;> rfl
noncomputable def NodeRec.get (r : NodeRec) : Fld → AV
  | .num => .int r.number
  | .bgn => .int r.begin_
  | .en => .int r.end_
  | .fr => .bool r.front
  | .re => .bool r.rear
  | .lim => .int r.limit
  | .off => .int r.offset
  | .red => .bool r.red
  | .lft => .opt r.left
  | .rgt => .opt r.right
  | .prn => .opt r.parent
  | _ => .other
noncomputable def isN : Fld → Bool
  | .root => false
  | .cnt => false
  | _ => true
theorem fs_get (r : NodeRec) {f : Fld} (h : isN f = true) : r.fs.lookup f.name = some (r.get f) := by cases f <;> first | rfl | exact ff h
noncomputable def NodeRec.put (r : NodeRec) (f : Fld) (v : AV) : Option NodeRec := match f with
  | .bgn => v.int?.map fun i => { r with begin_ := i }
  | .en => v.int?.map fun i => { r with end_ := i }
  | .lim => v.int?.map fun i => { r with limit := i }
  | .off => v.int?.map fun i => { r with offset := i }
  | .red => v.bool?.map fun b => { r with red := b }
  | .lft => v.toOpt.map fun o => { r with left := o }
  | .rgt => v.toOpt.map fun o => { r with right := o }
  | .prn => v.toOpt.map fun o => { r with parent := o }
  | _ => none
noncomputable def NodeRec.set (r : NodeRec) (n : Str) (v : AV) : Option NodeRec := (fldOf n).bind fun f => r.put f v
theorem put_set (r : NodeRec) (f : Fld) (v : AV) : r.put f v = r.set f.name v := by unfold NodeRec.set; rw [fldOf_self]; rfl
theorem Ans.map {α β : Type} {P : β → Prop} {f : α → β} {o : Option α} (h : ∀ a, o = some a → P (f a)) : Ans P (o.map f) := by
  cases o with
  | none => exact trivial
  | some a => exact h a rfl
theorem put_fs {r r' : NodeRec} {f : Fld} {v : AV} (h : r.put f v = some r') : isN f = true ∧ setL f.name v r.fs = r'.fs := by
  refine Ans.of (P := fun r' => isN f = true ∧ setL f.name v r.fs = NodeRec.fs r') ?_ h
  clear h
  cases f
  all_goals first
    | exact trivial
    | (refine Ans.map fun i hi => ?_
       first
         | (rw [int?_eq hi]; exact ⟨rfl, rfl⟩)
         | (rw [bool?_eq hi]; exact ⟨rfl, rfl⟩)
         | (rw [AV.toOpt_eq hi]; exact ⟨rfl, rfl⟩))
theorem NodeRec.set_fs {r r' : NodeRec} {n : Str} {v : AV} (h : r.set n v = some r') : ∃ f, isN f = true ∧ n = f.name ∧ setL n v r.fs = r'.fs := by
  obtain ⟨f, hf, g⟩ := Option.bind_eq_some_iff.mp h
  clear h
  obtain rfl := fldOf_name hf
  exact ⟨f, (put_fs g).1, rfl, (put_fs g).2⟩
noncomputable def treePut (t : Option Addr × Int) (f : Fld) (v : AV) : Option (Option Addr × Int) := match f with
  | .root => v.toOpt.map fun o => (o, t.2)
  | .cnt => v.int?.map fun i => (t.1, i)
  | _ => none
noncomputable def treeSet (t : Option Addr × Int) (n : Str) (v : AV) : Option (Option Addr × Int) := (fldOf n).bind fun f => treePut t f v
theorem treePut_fs {t t' : Option Addr × Int} {f : Fld} {v : AV} (h : treePut t f v = some t') : isN f = false ∧ setL f.name v (treeFs t) = treeFs t' := by
  refine Ans.of (P := fun t' => isN f = false ∧ setL f.name v (treeFs t) = treeFs t') ?_ h
  clear h
  cases f
  all_goals first
    | exact trivial
    | (refine Ans.map fun i hi => ?_
       first
         | (rw [int?_eq hi]; exact ⟨rfl, rfl⟩)
         | (rw [AV.toOpt_eq hi]; exact ⟨rfl, rfl⟩))
theorem treeSet_fs {t t' : Option Addr × Int} {n : Str} {v : AV} (h : treeSet t n v = some t') : ∃ f, isN f = false ∧ n = f.name ∧ setL n v (treeFs t) = treeFs t' := by
  obtain ⟨f, hf, g⟩ := Option.bind_eq_some_iff.mp h
  clear h
  obtain rfl := fldOf_name hf
  exact ⟨f, (treePut_fs g).1, rfl, (treePut_fs g).2⟩
end
section
abbrev cNode : Addr := 31
abbrev cTree : Addr := 52
noncomputable def nodeNames : List Str := ["number", "begin", "end", "front_advance", "rear_advance", "limit", "offset", "is_red", "left", "right", "parent"]
noncomputable def treeNames : List Str := ["root", "count"]
noncomputable def okField (C : Addr) (n : Str) : Bool := (C == cNode && nodeNames.contains n) || (C == cTree && treeNames.contains n)
structure Sto where
  nd : Addr → Option NodeRec
  tr : Addr → Option (Option Addr × Int)
  ls : Addr → Option (List AV)
  tp : Addr → Option (List AV)
  dt : Addr → Option (List (Int × AV))
  raw : Addr → Option (Addr × Fs)
  ro : Addr → Option (List AV)
noncomputable def upd {α : Type} (f : Addr → Option α) (a : Addr) (v : α) : Addr → Option α := fun b => if b = a then some v else f b
@[simp] theorem upd_same {α : Type} (f : Addr → Option α) (a : Addr) (v : α) : upd f a v a = some v := if_pos rfl
theorem upd_ne {α : Type} {f : Addr → Option α} {a b : Addr} {v : α} (h : b ≠ a) : upd f a v b = f b := if_neg h
inductive AObj where
  | inst (C d : Addr)
  | flds (x : Addr) (fs : Fs)
  | list (xs : List AV)
  | tup (xs : List AV)
  | dict (es : List (Int × AV))
noncomputable def gnames : List (String × Value) := [
  ("OverlayNode", .ref 31),
  ("OverlayTree", .ref 52),
  ("hand_down", .ref 63),
  ("hand_down_to", .ref 70),
  ("greatest_end", .ref 77),
  ("renew_limits", .ref 84),
  ("hang", .ref 91),
  ("turn_left", .ref 98),
  ("turn_right", .ref 105),
  ("is_red", .ref 112),
  ("colour_inserted", .ref 119),
  ("turned_inward", .ref 126),
  ("put_node", .ref 133),
  ("first_below", .ref 140),
  ("take_place", .ref 147),
  ("drop_node", .ref 154),
  ("colour_dropped", .ref 161),
  ("sibling_of", .ref 168),
  ("turn_towards", .ref 175),
  ("lightened", .ref 182),
  ("all_nodes_in_order", .ref 189),
  ("nodes_between", .ref 196),
  ("begins_to_move", .ref 203),
  ("grows", .ref 210),
  ("open_gap", .ref 215),
  ("shift_nodes", .ref 222),
  ("close_gap", .ref 229),
  ("black_height", .ref 236),
  ("nodes_from_below", .ref 243),
  ("shape_error", .ref 250),
  ("overlay_tree_error", .ref 257),
  ("_law_deck", .ref 262),
  ("_law_draw", .ref 269),
  ("_law_came", .ref 276),
  ("_law_gone", .ref 281),
  ("_law_is_asked_right", .ref 286),
  ("max", .builtin "max"),
  ("len", .builtin "len"),
  ("sorted", .builtin "sorted"),
  ("abs", .builtin "abs"),
  ("range", .type "range")]
noncomputable def glist : List (Str × Value) := gnames.map fun p => (Str.ofString p.1, p.2)
noncomputable def gtab (f : Str) : Option Value := glist.lookup f
structure Cst where
  prog : Program
  w : World
  B : Shared
  p : Program
  loose : List Str
  mean : ExcName → Option Value
  mg : Str → Option Value
  mb : Str → Option Value
  X : (KF w.params).In B.heap
  T : Top p loose mean mg mb B.heap
  hgl : ∀ f v, gtab f = some v → mg f = some v ∨ (mg f = none ∧ mb f = some v)
  hkp : ∀ f v, gtab f = some v → ∀ h, (KF w.params).In h → ∃ k, (k = Keeper.frame ∨ k = Keeper.machine ∨ k = Keeper.boundFrame) ∧ Looks (model prog w) h (keeperOf v) k
  hga : ∀ C, C = cNode ∨ C = cTree → findIn (KF w.params) (.ref C) "__getattribute__" = some (some (.builtin "object.__getattribute__"))
  hsa : ∀ C, C = cNode ∨ C = cTree → findIn (KF w.params) (.ref C) "__setattr__" = some (some (.builtin "object.__setattr__"))
  hplain : ∀ C, C = cNode ∨ C = cTree → plainOver (KF w.params) C = true
  hdict : ∀ C, C = cNode ∨ C = cTree → hasDictIn (KF w.params) C = true
  hfld : ∀ n : Str, n ∈ nodeNames → findIn (KF w.params) (.ref cNode) n = some none
  hfldT : ∀ n : Str, n ∈ treeNames → findIn (KF w.params) (.ref cTree) n = some none
noncomputable abbrev Cst.M (c : Cst) : Model := model c.prog c.w
noncomputable abbrev Cst.K (c : Cst) : Frag := KF c.w.params
theorem setL_length (n : Str) (v : AV) : ∀ fs : Fs, (setL n v fs).length ≤ fs.length + 1
  | [] => Nat.le_refl _
  | (k, u) :: r => by
    unfold setL
    split
    · exact Nat.le_succ _
    · exact Nat.succ_le_succ (setL_length n v r)
noncomputable def IsDictI (c : Cst) (h : Heap) (a : Addr) (es : List (Int × AV)) : Prop :=
  a ≠ sysModules ∧ es.length ≤ 1000 ∧ ∃ kvs : List (Int × Value), h.DictOf (intKind c.prog c.w) a kvs ∧ kvs.map (fun p => (p.1, er p.2)) = es
inductive FR : List DictEntry → Fs → Prop
  | nil : FR [] []
  | cons {e : DictEntry} {n : Str} {v : AV} {ds : List DictEntry} {fs : Fs} : (∃ t, e.key = .str n t) → er e.val = v → FR ds fs → FR (e :: ds) ((n, v) :: fs)
theorem FR.length {ds : List DictEntry} {fs : Fs} (h : FR ds fs) : ds.length = fs.length := by
  induction h with
  | nil => rfl
  | cons _ _ _ ih => simp [ih]
theorem isStr_key {e : DictEntry} {n x : Str} (h : ∃ t, e.key = .str n t) : e.key.isStr x = (x == n) := by
  obtain ⟨t, h⟩ := h
  rw [h]
  show (n == x) = (x == n)
  by_cases q : x = n
  · subst q; rfl
  · have q' : ¬ n = x := fun z => q z.symm
    rw [beq_eq_false_iff_ne.mpr q, beq_eq_false_iff_ne.mpr q']
theorem FR.noRef {ds : List DictEntry} {fs : Fs} (h : FR ds fs) : ds.any (·.refKey) = false := by
  induction h with
  | nil => rfl
  | cons k _ _ ih => obtain ⟨t, k⟩ := k; rw [List.any_cons, ih]; unfold DictEntry.refKey; rw [k]; rfl
theorem FR.get {ds : List DictEntry} {fs : Fs} (h : FR ds fs) (x : Str) : ∃ r, getL x ds = some r ∧ r.map er = fs.lookup x := by
  have nr := h.noRef
  have f : (ds.find? (·.key.isStr x)).map (fun e => er e.val) = fs.lookup x := by
    clear nr
    induction h with
    | nil => rfl
    | cons k v _ ih =>
      rw [List.find?_cons, isStr_key k, List.lookup_cons]
      cases q : (x == _) with
      | true => simp [v]
      | false => simpa using ih
  unfold getL
  cases q : ds.find? (·.key.isStr x) with
  | some e => rw [q] at f; exact ⟨_, rfl, f⟩
  | none => rw [q] at f; dsimp only; rw [nr]; exact ⟨none, rfl, f⟩
theorem FR.put {ds : List DictEntry} {fs : Fs} (h : FR ds fs) (n : Str) (hsh : Int) (t : Tok) (v : Value) : FR (putL n hsh (.str n t) v ds) (setL n (er v) fs) := by
  induction h with
  | nil => exact .cons ⟨t, rfl⟩ rfl .nil
  | cons k e r ih =>
    unfold putL setL
    rw [isStr_key k]
    cases q : (n == _) with
    | true => exact .cons k rfl r
    | false => exact .cons k e ih
noncomputable def Rep (c : Cst) (h : Heap) (a : Addr) : AObj → Prop
  | .inst C d => h.get? a = some (instObj C d)
  | .flds _ fs => ∃ ds n, h.get? a = some (dictOf ds n) ∧ FR ds fs
  | .list xs => xs.length ≤ 1000 ∧ ∃ items : Array Value, h.PlainList a items ∧ items.toList.map er = xs
  | .tup xs => xs.length ≤ 1000 ∧ ∃ items : Array Value, h.IsTuple a items ∧ items.toList.map er = xs
  | .dict es => IsDictI c h a es
theorem Rep.alive {c : Cst} {h : Heap} {a : Addr} {o : AObj} (r : Rep c h a o) : ∃ ob, h.get? a = some ob := by
  cases o with
  | inst C d => exact ⟨_, r⟩
  | flds x fs => obtain ⟨ds, n, e, _⟩ := r; exact ⟨_, e⟩
  | list xs => obtain ⟨_, _, ⟨o, e⟩, _⟩ := r; exact ⟨_, e⟩
  | tup xs => obtain ⟨_, _, ⟨o, e, _⟩, _⟩ := r; exact ⟨o, e⟩
  | dict es => obtain ⟨_, _, _, ⟨o, _, _, e, _⟩, _⟩ := r; exact ⟨o, e⟩
theorem Rep.at {c : Cst} {h h' : Heap} {a : Addr} {o : AObj} (r : Rep c h a o) (k : ∀ ob, h.get? a = some ob → h'.get? a = some ob) : Rep c h' a o := by
  cases o with
  | inst C d => exact k _ r
  | flds x fs => obtain ⟨ds, n, e, q⟩ := r; exact ⟨ds, n, k _ e, q⟩
  | list xs => obtain ⟨l, i, ⟨n, e⟩, z⟩ := r; exact ⟨l, i, ⟨n, k _ e⟩, z⟩
  | tup xs => obtain ⟨l, i, ⟨o, e, q⟩, z⟩ := r; exact ⟨l, i, ⟨o, k _ e, q⟩, z⟩
  | dict es => obtain ⟨n, l, kvs, ⟨o, es, ep, e, q⟩, z⟩ := r; exact ⟨n, l, kvs, ⟨o, es, ep, k _ e, q⟩, z⟩
noncomputable abbrev Bas := Addr → Option Obj
noncomputable abbrev Trk := Addr → Option AObj
structure Low (c : Cst) (β : Bas) (σ : Trk) (h : Heap) : Prop where
  keep : ∀ a o, β a = some o → h.get? a = some o
  rep : ∀ a o, σ a = some o → Rep c h a o
  apart : ∀ a o, σ a = some o → β a = none
structure Emb (S : Sto) (σ : Trk) : Prop where
  nd : ∀ a r, S.nd a = some r → ∃ d, σ a = some (.inst cNode d) ∧ σ d = some (.flds a r.fs)
  tr : ∀ a r, S.tr a = some r → ∃ d, σ a = some (.inst cTree d) ∧ σ d = some (.flds a (treeFs r))
  ls : ∀ a xs, S.ls a = some xs → σ a = some (.list xs)
  tp : ∀ a xs, S.tp a = some xs → σ a = some (.tup xs)
  dt : ∀ a xs, S.dt a = some xs → σ a = some (.dict xs)
  raw : ∀ a C fs, S.raw a = some (C, fs) → ∃ d, σ a = some (.inst C d) ∧ σ d = some (.flds a fs)
  excl : ∀ a q, S.raw a = some q → S.nd a = none ∧ S.tr a = none
structure InvS (c : Cst) (β : Bas) (S : Sto) (s : Shared) : Prop where
  gens : s.gens = c.B.gens
  os : s.os = c.B.os
  base : ∀ a o, c.B.heap.get? a = some o → β a = some o
  ro : ∀ a xs, S.ro a = some xs → xs.length ≤ 1000 ∧ ∃ items : Array Value, c.B.heap.IsList a items ∧ items.toList.map er = xs
  rest : ∃ σ, Low c β σ s.heap ∧ Emb S σ
theorem InvS.keepB {c : Cst} {β : Bas} {S : Sto} {s : Shared} (I : InvS c β S s) : ∀ a o, c.B.heap.get? a = some o → s.heap.get? a = some o :=
  fun a o e => let ⟨_, L, _⟩ := I.rest; L.keep a o (I.base a o e)
theorem InvS.keep {c : Cst} {β : Bas} {S : Sto} {s : Shared} (I : InvS c β S s) : ∀ a o, β a = some o → s.heap.get? a = some o :=
  fun a o e => let ⟨_, L, _⟩ := I.rest; L.keep a o e
theorem InvS.X {c : Cst} {β : Bas} {S : Sto} {s : Shared} (I : InvS c β S s) : c.K.In s.heap := c.X.keeps I.keepB
theorem InvS.T {c : Cst} {β : Bas} {S : Sto} {s : Shared} (I : InvS c β S s) : Top c.p c.loose c.mean c.mg c.mb s.heap := c.T.keeps I.keepB
theorem InvS.toks {c : Cst} {β : Bas} {S : Sto} {s : Shared} (I : InvS c β S s) (t : Nat) : InvS c β S { s with toks := t } := ⟨I.gens, I.os, I.base, I.ro, I.rest⟩
theorem Low.keeps {c : Cst} {β : Bas} {σ : Trk} {h h' : Heap} (L : Low c β σ h) (k : ∀ a o, h.get? a = some o → h'.get? a = some o) : Low c β σ h' :=
  ⟨fun a o e => k a o (L.keep a o e), fun a o e => (L.rep a o e).at (k a), L.apart⟩
theorem InvS.grow {c : Cst} {β : Bas} {S : Sto} {s : Shared} {h' : Heap} (I : InvS c β S s) (k : ∀ a o, s.heap.get? a = some o → h'.get? a = some o) : InvS c β S { s with heap := h' } :=
  ⟨I.gens, I.os, I.base, I.ro, let ⟨σ, L, e⟩ := I.rest; ⟨σ, L.keeps k, e⟩⟩
theorem Low.upd {c : Cst} {β : Bas} {σ : Trk} {h h' : Heap} {x : Addr} {o : AObj} (L : Low c β σ h) (k : Heap.ExtBut x h h') (hb : β x = none) (hr : Rep c h' x o) : Low c β (Mine.upd σ x o) h' where
  keep := fun a ob e => k a ob (fun z => by subst z; rw [hb] at e; cases e) (L.keep a ob e)
  rep := fun a ob e => by
    by_cases z : a = x
    · subst z; rw [upd_same] at e; cases e; exact hr
    · rw [upd_ne z] at e; exact (L.rep a ob e).at fun ob' => k a ob' z
  apart := fun a ob e => by
    by_cases z : a = x
    · subst z; exact hb
    · rw [upd_ne z] at e; exact L.apart a ob e
theorem Low.fresh {c : Cst} {β : Bas} {σ : Trk} {h : Heap} (L : Low c β σ h) {a : Addr} (ha : h.objs.size ≤ a) : σ a = none ∧ β a = none := by
  constructor
  · cases q : σ a with
    | none => rfl
    | some o => obtain ⟨ob, e⟩ := (L.rep a o q).alive; exact absurd (Heap.lt_size e) (Nat.not_lt.mpr ha)
  · cases q : β a with
    | none => rfl
    | some o => exact absurd (Heap.lt_size (L.keep a o q)) (Nat.not_lt.mpr ha)
structure Sto.Free (S : Sto) (a : Addr) : Prop where
  nd : S.nd a = none
  tr : S.tr a = none
  ls : S.ls a = none
  tp : S.tp a = none
  dt : S.dt a = none
  raw : S.raw a = none
theorem none_of {α : Type} {x : Option α} (h : ∀ a, x = some a → False) : x = none := by
  cases x with
  | none => rfl
  | some a => exact (h a rfl).elim
theorem Emb.free {S : Sto} {σ : Trk} {a : Addr} (e : Emb S σ) (h : σ a = none) : S.Free a where
  nd := none_of fun r q => by obtain ⟨d, z, _⟩ := e.nd a r q; rw [h] at z; cases z
  tr := none_of fun r q => by obtain ⟨d, z, _⟩ := e.tr a r q; rw [h] at z; cases z
  ls := none_of fun r q => by have z := e.ls a r q; rw [h] at z; cases z
  tp := none_of fun r q => by have z := e.tp a r q; rw [h] at z; cases z
  dt := none_of fun r q => by have z := e.dt a r q; rw [h] at z; cases z
  raw := none_of fun r q => by obtain ⟨d, z, _⟩ := e.raw a r.1 r.2 q; rw [h] at z; cases z
theorem InvS.free {c : Cst} {β : Bas} {S : Sto} {s : Shared} (I : InvS c β S s) {a : Addr} (ha : s.heap.objs.size ≤ a) : S.Free a :=
  let ⟨_, L, e⟩ := I.rest; e.free (L.fresh ha).1
noncomputable def Sto.lst (S : Sto) (a : Addr) : Option (List AV) := match S.ls a with
  | some xs => some xs
  | none => S.ro a
noncomputable def Sto.setLs (S : Sto) (l : Addr) (xs : List AV) : Sto := { S with ls := upd S.ls l xs }
noncomputable def Sto.setTp (S : Sto) (l : Addr) (xs : List AV) : Sto := { S with tp := upd S.tp l xs }
noncomputable def Sto.setDt (S : Sto) (l : Addr) (xs : List (Int × AV)) : Sto := { S with dt := upd S.dt l xs }
noncomputable def Sto.setNd (S : Sto) (l : Addr) (r : NodeRec) : Sto := { S with nd := upd S.nd l r }
noncomputable def Sto.setTr (S : Sto) (l : Addr) (r : Option Addr × Int) : Sto := { S with tr := upd S.tr l r }
noncomputable def Sto.setRaw (S : Sto) (l : Addr) (C : Addr) (fs : Fs) : Sto := { S with raw := upd S.raw l (C, fs) }
theorem Emb.setLs {S : Sto} {σ : Trk} {l : Addr} {xs : List AV} (e : Emb S σ) (h : σ l = none ∨ ∃ ys, σ l = some (.list ys)) : Emb (S.setLs l xs) (Mine.upd σ l (.list xs)) := by
  have n : ∀ a o, σ a = some o → (∀ ys, o ≠ .list ys) → a ≠ l := fun a o q z w => by
    subst w; rcases h with h | ⟨ys, h⟩ <;> rw [h] at q <;> cases q; exact z _ rfl
  refine ⟨fun a r q => ?_, fun a r q => ?_, fun a r q => ?_, fun a r q => ?_, fun a r q => ?_, fun a C r q => ?_, e.excl⟩
  · obtain ⟨d, h1, h2⟩ := e.nd a r q
    exact ⟨d, (upd_ne (n _ _ h1 fun _ => nofun)).trans h1, (upd_ne (n _ _ h2 fun _ => nofun)).trans h2⟩
  · obtain ⟨d, h1, h2⟩ := e.tr a r q
    exact ⟨d, (upd_ne (n _ _ h1 fun _ => nofun)).trans h1, (upd_ne (n _ _ h2 fun _ => nofun)).trans h2⟩
  · show Mine.upd σ l (.list xs) a = _
    by_cases z : a = l
    · subst z; change Mine.upd S.ls a xs a = some r at q; rw [upd_same] at q; cases q; exact upd_same ..
    · change Mine.upd S.ls l xs a = some r at q; rw [upd_ne z] at q; rw [upd_ne z]; exact e.ls a r q
  · have h1 := e.tp a r q; exact (upd_ne (n _ _ h1 fun _ => nofun)).trans h1
  · have h1 := e.dt a r q; exact (upd_ne (n _ _ h1 fun _ => nofun)).trans h1
  · obtain ⟨d, h1, h2⟩ := e.raw a C r q
    exact ⟨d, (upd_ne (n _ _ h1 fun _ => nofun)).trans h1, (upd_ne (n _ _ h2 fun _ => nofun)).trans h2⟩
theorem Emb.setTp {S : Sto} {σ : Trk} {l : Addr} {xs : List AV} (e : Emb S σ) (h : σ l = none) : Emb (S.setTp l xs) (Mine.upd σ l (.tup xs)) := by
  have n : ∀ a o, σ a = some o → a ≠ l := fun a o q w => by subst w; rw [h] at q; cases q
  refine ⟨fun a r q => ?_, fun a r q => ?_, fun a r q => ?_, fun a r q => ?_, fun a r q => ?_, fun a C r q => ?_, e.excl⟩
  · obtain ⟨d, h1, h2⟩ := e.nd a r q
    exact ⟨d, (upd_ne (n _ _ h1)).trans h1, (upd_ne (n _ _ h2)).trans h2⟩
  · obtain ⟨d, h1, h2⟩ := e.tr a r q
    exact ⟨d, (upd_ne (n _ _ h1)).trans h1, (upd_ne (n _ _ h2)).trans h2⟩
  · have h1 := e.ls a r q; exact (upd_ne (n _ _ h1)).trans h1
  · show Mine.upd σ l (.tup xs) a = _
    by_cases z : a = l
    · subst z; change Mine.upd S.tp a xs a = some r at q; rw [upd_same] at q; cases q; exact upd_same ..
    · change Mine.upd S.tp l xs a = some r at q; rw [upd_ne z] at q; rw [upd_ne z]; exact e.tp a r q
  · have h1 := e.dt a r q; exact (upd_ne (n _ _ h1)).trans h1
  · obtain ⟨d, h1, h2⟩ := e.raw a C r q
    exact ⟨d, (upd_ne (n _ _ h1)).trans h1, (upd_ne (n _ _ h2)).trans h2⟩
theorem Emb.setDt {S : Sto} {σ : Trk} {l : Addr} {xs : List (Int × AV)} (e : Emb S σ) (h : σ l = none ∨ ∃ ys, σ l = some (.dict ys)) : Emb (S.setDt l xs) (Mine.upd σ l (.dict xs)) := by
  have n : ∀ a o, σ a = some o → (∀ ys, o ≠ .dict ys) → a ≠ l := fun a o q z w => by
    subst w; rcases h with h | ⟨ys, h⟩ <;> rw [h] at q <;> cases q; exact z _ rfl
  refine ⟨fun a r q => ?_, fun a r q => ?_, fun a r q => ?_, fun a r q => ?_, fun a r q => ?_, fun a C r q => ?_, e.excl⟩
  · obtain ⟨d, h1, h2⟩ := e.nd a r q
    exact ⟨d, (upd_ne (n _ _ h1 fun _ => nofun)).trans h1, (upd_ne (n _ _ h2 fun _ => nofun)).trans h2⟩
  · obtain ⟨d, h1, h2⟩ := e.tr a r q
    exact ⟨d, (upd_ne (n _ _ h1 fun _ => nofun)).trans h1, (upd_ne (n _ _ h2 fun _ => nofun)).trans h2⟩
  · have h1 := e.ls a r q; exact (upd_ne (n _ _ h1 fun _ => nofun)).trans h1
  · have h1 := e.tp a r q; exact (upd_ne (n _ _ h1 fun _ => nofun)).trans h1
  · show Mine.upd σ l (.dict xs) a = _
    by_cases z : a = l
    · subst z; change Mine.upd S.dt a xs a = some r at q; rw [upd_same] at q; cases q; exact upd_same ..
    · change Mine.upd S.dt l xs a = some r at q; rw [upd_ne z] at q; rw [upd_ne z]; exact e.dt a r q
  · obtain ⟨d, h1, h2⟩ := e.raw a C r q
    exact ⟨d, (upd_ne (n _ _ h1 fun _ => nofun)).trans h1, (upd_ne (n _ _ h2 fun _ => nofun)).trans h2⟩
theorem Emb.setFlds {S : Sto} {σ : Trk} {x d : Addr} {fs fs' : Fs} (e : Emb S σ) (h : σ d = some (.flds x fs)) {nd' : Addr → Option NodeRec} {tr' : Addr → Option (Option Addr × Int)} {raw' : Addr → Option (Addr × Fs)}
    (hnd : ∀ a r, nd' a = some r → (a ≠ x ∧ S.nd a = some r) ∨ (a = x ∧ σ x = some (.inst cNode d) ∧ fs' = r.fs))
    (htr : ∀ a r, tr' a = some r → (a ≠ x ∧ S.tr a = some r) ∨ (a = x ∧ σ x = some (.inst cTree d) ∧ fs' = treeFs r))
    (hraw : ∀ a C fs₀, raw' a = some (C, fs₀) → (a ≠ x ∧ S.raw a = some (C, fs₀)) ∨ (a = x ∧ σ x = some (.inst C d) ∧ fs' = fs₀))
    (hex : ∀ a q, raw' a = some q → nd' a = none ∧ tr' a = none) :
    Emb { S with nd := nd', tr := tr', raw := raw' } (Mine.upd σ d (.flds x fs')) := by
  have n : ∀ a o, σ a = some o → (∀ ys, o ≠ .flds x ys) → a ≠ d := fun a o q z w => by
    subst w; rw [h] at q; cases q; exact z _ rfl
  have pair : ∀ a C d' f, a ≠ x → σ a = some (.inst C d') → σ d' = some (.flds a f) → Mine.upd σ d (.flds x fs') a = some (.inst C d') ∧ Mine.upd σ d (.flds x fs') d' = some (.flds a f) := fun a C d' f ne h1 h2 =>
    ⟨(upd_ne (n _ _ h1 fun _ => nofun)).trans h1, (upd_ne (n _ _ h2 fun ys z => by cases z; exact ne rfl)).trans h2⟩
  have self : ∀ C, σ x = some (.inst C d) → Mine.upd σ d (.flds x fs') x = some (.inst C d) := fun C h1 => (upd_ne (n _ _ h1 fun _ => nofun)).trans h1
  refine ⟨fun a r q => ?_, fun a r q => ?_, fun a r q => ?_, fun a r q => ?_, fun a r q => ?_, fun a C r q => ?_, hex⟩
  · rcases hnd a r q with ⟨z, q⟩ | ⟨rfl, hx, rfl⟩
    · obtain ⟨d', h1, h2⟩ := e.nd a r q; exact ⟨d', pair _ _ _ _ z h1 h2⟩
    · exact ⟨d, self _ hx, upd_same ..⟩
  · rcases htr a r q with ⟨z, q⟩ | ⟨rfl, hx, rfl⟩
    · obtain ⟨d', h1, h2⟩ := e.tr a r q; exact ⟨d', pair _ _ _ _ z h1 h2⟩
    · exact ⟨d, self _ hx, upd_same ..⟩
  · have h1 := e.ls a r q; exact (upd_ne (n _ _ h1 fun _ => nofun)).trans h1
  · have h1 := e.tp a r q; exact (upd_ne (n _ _ h1 fun _ => nofun)).trans h1
  · have h1 := e.dt a r q; exact (upd_ne (n _ _ h1 fun _ => nofun)).trans h1
  · rcases hraw a C r q with ⟨z, q⟩ | ⟨rfl, hx, rfl⟩
    · obtain ⟨d', h1, h2⟩ := e.raw a C r q; exact ⟨d', pair _ _ _ _ z h1 h2⟩
    · exact ⟨d, self _ hx, upd_same ..⟩
noncomputable def Sto.fsOf (S : Sto) (a : Addr) : Option (Addr × Fs) :=
  match S.nd a with
  | some r => some (cNode, r.fs)
  | none => match S.tr a with
    | some r => some (cTree, treeFs r)
    | none => S.raw a
noncomputable def Sto.getA (S : Sto) (o : AV) (n : Str) : Option AV := match o with
  | .ref a => match S.nd a with
    | some r => r.fs.lookup n
    | none => match S.tr a with
      | some t => (treeFs t).lookup n
      | none => none
  | _ => none
noncomputable def Sto.setA (S : Sto) (o : AV) (n : Str) (v : AV) : Option Sto := match o with
  | .ref a => match S.nd a with
    | some r => (r.set n v).map (S.setNd a)
    | none => match S.tr a with
      | some t => (treeSet t n v).map (S.setTr a)
      | none => match S.raw a with
        | some (C, fs) => if okField C n && decide (fs.length < 100) then some (S.setRaw a C (setL n v fs)) else none
        | none => none
  | _ => none
theorem isN_mem {f : Fld} (h : isN f = true) : f.name ∈ nodeNames := by cases f <;> first | (cases h; done) | decide
theorem isT_mem {f : Fld} (h : isN f = false) : f.name ∈ treeNames := by cases f <;> first | (cases h; done) | decide
theorem ok_node {f : Fld} (h : isN f = true) : okField cNode f.name = true := by cases f <;> first | (cases h; done) | decide
theorem ok_tree {f : Fld} (h : isN f = false) : okField cTree f.name = true := by cases f <;> first | (cases h; done) | decide
theorem Emb.setA {S S' : Sto} {σ : Trk} (e : Emb S σ) {a : Addr} {n : Str} {v : AV} (h : S.setA (.ref a) n v = some S') :
    ∃ C d fs, okField C n = true ∧ fs.length < 100 ∧ σ a = some (.inst C d) ∧ σ d = some (.flds a fs) ∧ Emb S' (Mine.upd σ d (.flds a (setL n v fs))) := by
  unfold Sto.setA at h
  dsimp only at h
  split at h
  · rename_i r q
    obtain ⟨r', hr, rfl⟩ := Option.map_eq_some_iff.mp h
    obtain ⟨d, h1, h2⟩ := e.nd a r q
    obtain ⟨f, hf, rfl, hs⟩ := NodeRec.set_fs hr
    refine ⟨cNode, d, r.fs, ok_node hf, by show 11 < 100; decide, h1, h2, ?_⟩
    rw [hs]
    refine e.setFlds (nd' := Mine.upd S.nd a r') (tr' := S.tr) (raw' := S.raw) h2 (fun b r₀ z => ?_) (fun b r₀ z => .inl ⟨fun w => ?_, z⟩) (fun b C fs₀ z => .inl ⟨fun w => ?_, z⟩) (fun b q' z => ?_)
    · by_cases w : b = a
      · subst w; rw [upd_same] at z; cases z; exact .inr ⟨rfl, h1, rfl⟩
      · rw [upd_ne w] at z; exact .inl ⟨w, z⟩
    · subst w; obtain ⟨d', k1, _⟩ := e.tr b r₀ z; rw [h1] at k1; cases k1
    · subst w; have := (e.excl b _ z).1; rw [q] at this; cases this
    · have k := e.excl b q' z
      refine ⟨?_, k.2⟩
      by_cases w : b = a
      · subst w; rw [q] at k; cases k.1
      · rw [upd_ne w]; exact k.1
  · rename_i q
    split at h
    · rename_i r q2
      obtain ⟨r', hr, rfl⟩ := Option.map_eq_some_iff.mp h
      obtain ⟨d, h1, h2⟩ := e.tr a r q2
      obtain ⟨f, hf, rfl, hs⟩ := treeSet_fs hr
      refine ⟨cTree, d, treeFs r, ok_tree hf, by show 2 < 100; decide, h1, h2, ?_⟩
      rw [hs]
      refine e.setFlds (nd' := S.nd) (tr' := Mine.upd S.tr a r') (raw' := S.raw) h2 (fun b r₀ z => .inl ⟨fun w => ?_, z⟩) (fun b r₀ z => ?_) (fun b C fs₀ z => .inl ⟨fun w => ?_, z⟩) (fun b q' z => ?_)
      · subst w; rw [q] at z; cases z
      · by_cases w : b = a
        · subst w; rw [upd_same] at z; cases z; exact .inr ⟨rfl, h1, rfl⟩
        · rw [upd_ne w] at z; exact .inl ⟨w, z⟩
      · subst w; have := (e.excl b _ z).2; rw [q2] at this; cases this
      · have k := e.excl b q' z
        refine ⟨k.1, ?_⟩
        by_cases w : b = a
        · subst w; rw [q2] at k; cases k.2
        · rw [upd_ne w]; exact k.2
    · rename_i q2
      split at h
      · rename_i C fs q3
        split at h <;> cases h
        rename_i hok
        obtain ⟨d, h1, h2⟩ := e.raw a C fs q3
        rw [Bool.and_eq_true] at hok
        refine ⟨C, d, fs, hok.1, of_decide_eq_true hok.2, h1, h2, ?_⟩
        refine e.setFlds (nd' := S.nd) (tr' := S.tr) (raw' := Mine.upd S.raw a (C, setL n v fs)) h2 (fun b r₀ z => .inl ⟨fun w => ?_, z⟩) (fun b r₀ z => .inl ⟨fun w => ?_, z⟩) (fun b C' fs₀ z => ?_) (fun b q' z => ?_)
        · subst w; rw [q] at z; cases z
        · subst w; rw [q2] at z; cases z
        · by_cases w : b = a
          · subst w; rw [upd_same] at z; cases z; exact .inr ⟨rfl, h1, rfl⟩
          · rw [upd_ne w] at z; exact .inl ⟨w, z⟩
        · by_cases w : b = a
          · subst w; exact ⟨q, q2⟩
          · rw [upd_ne w] at z; exact e.excl b q' z
      · cases h
end
section
noncomputable def NoE : Value → Shared → Prop := fun _ _ => False
structure Room (A : Around) (k : Nat) : Prop where
  depth : A.depth + k ≤ 900
  units : A.units + 20 * k ≤ 9000
  hand : A.handled = none
inductive Bnd where
  | var (v : Option AV)
  | cell (v : Option AV)
  | free (v : AV)
  | glob
noncomputable abbrev Loc := List (Str × Bnd)
structure EnvOk (env : Env) : Prop where
  kind : env.scope.kind = .function
  glob : env.globals = mainGlobals
  blt : env.builtins = builtinsNs
structure FrameIn (g : Bas) (env : Env) (m : Loc) : Prop where
  ok : EnvOk env
  names : ∀ x s, m.lookup x = some s → (x == ("__debug__" : Str)) = false ∧ (x == ("__classdict__" : Str)) = false
  loc : ∃ o es ep, ∃ mv : Str → Option Value, g env.locals = some o ∧ o.data = .dict es ep ∧ StrKeys es ∧ (∀ name, nsFind es name = mv name) ∧
    ∀ x v, m.lookup x = some (.var v) → env.kindOf x = some .local ∧ ∀ w, v = some w → (mv x).map er = some w
  cell : ∀ x v, m.lookup x = some (.cell v) → env.kindOf x = some .cell ∧ ∃ a o u, env.cells.lookup x = some a ∧ g a = some o ∧ o.data = .cell u ∧ ∀ w, v = some w → u.map er = some w
  free : ∀ x v, m.lookup x = some (.free v) → env.kindOf x = some .free ∧ ∃ a o u, env.cells.lookup x = some a ∧ g a = some o ∧ o.data = .cell (some u) ∧ er u = v
  glob : ∀ x, m.lookup x = some .glob → env.kindOf x = some .globalImplicit
noncomputable def valOf (m : Loc) (x : Str) : Option AV := match m.lookup x with
  | some (.var v) => v
  | some (.cell v) => v
  | some (.free v) => some v
  | _ => none
noncomputable def TW (c : Cst) (k : Nat) (env : Env) (m : Loc) {α : Type} (t : Sem α) (Q : α → Sto → Prop) (S : Sto) : Prop :=
  ∀ A β s, Room A k → FrameIn β env m → InvS c β S s → wpAny c.M A t (fun v s' => ∃ S', Q v S' ∧ InvS c β S' s') NoE s
section
variable {c : Cst} {k : Nat} {env : Env} {m : Loc} {α β : Type} {S : Sto}
theorem TW.pure {a : α} {Q : α → Sto → Prop} (h : Q a S) : TW c k env m (Pure.pure a : Sem α) Q S := fun _ _ _ _ _ I => wpAny_pure ⟨S, h, I⟩
theorem TW.bind {t : Sem α} {f : α → Sem β} {Q : β → Sto → Prop} (h : TW c k env m t (fun a S' => TW c k env m (f a) Q S') S) : TW c k env m (t >>= f) Q S :=
  fun A β s r F I => wpAny_bind (wpAny_mono (h A β s r F I) (fun _ s' ⟨_, h', I'⟩ => h' A β s' r F I') fun _ _ e => e)
theorem TW.mono {t : Sem α} {Q Q' : α → Sto → Prop} (h : TW c k env m t Q S) (q : ∀ a S, Q a S → Q' a S) : TW c k env m t Q' S :=
  fun A β s r F I => wpAny_mono (h A β s r F I) (fun _ _ ⟨S', h', I'⟩ => ⟨S', q _ _ h', I'⟩) fun _ _ e => e
theorem TW.holding {t : Sem α} {vs : List Value} {Q : α → Sto → Prop} (h : TW c k env m t Q S) : TW c k env m (PySem.holding vs t) Q S :=
  fun A β s r F I => wpAny_holding (h A β s r F I)
theorem TW.standAt {p : Pos} {Q : Unit → Sto → Prop} (h : Q () S) : TW c k env m (PySem.standAt p) Q S := fun _ _ _ _ _ I => wpAny_standAt ⟨S, h, I⟩
theorem TW.operate {t : Sem Value} {vs : List Value} {Q : Value → Sto → Prop} (h : TW c k env m t Q S) : TW c k env m (PySem.operate vs t) Q S :=
  fun A β s r F I => fun Γ p hΓ => by rw [Sem.wp_operate]; exact h A β s r F I Γ p hΓ
theorem TW.letTemp {b : Expr} {o r : Value} {Q : Unit → Sto → Prop} (h : Q () S) : TW c k env m (letTemporaryGo b o r) Q S := fun _ _ _ _ _ I => wpAny_letTemporaryGo ⟨S, h, I⟩
theorem FrameIn.keeps {g g' : Bas} {env : Env} {m : Loc} (F : FrameIn g env m) (k : ∀ a o, g a = some o → g' a = some o) : FrameIn g' env m where
  ok := F.ok
  names := F.names
  loc := let ⟨o, es, ep, mv, e, r⟩ := F.loc; ⟨o, es, ep, mv, k _ _ e, r⟩
  cell := fun x v q => let ⟨h, a, o, u, e1, e2, r⟩ := F.cell x v q; ⟨h, a, o, u, e1, k _ _ e2, r⟩
  free := fun x v q => let ⟨h, a, o, u, e1, e2, r⟩ := F.free x v q; ⟨h, a, o, u, e1, k _ _ e2, r⟩
  glob := F.glob
theorem TW.name {x : Str} {p : Pos} {v : AV} {Q : AV → Sto → Prop} (hv : valOf m x = some v) (h : Q v S) : TW c k env m (eval (.Name x p) env) (fun u => Q (er u)) S := by
  intro A β s r F I
  have F' : FrameIn s.heap.get? env m := F.keeps I.keep
  unfold valOf at hv
  split at hv
  · rename_i w q
    obtain ⟨o, es, ep, mv, e, d, sk, hf, hm⟩ := F'.loc
    have z := hm x w q
    obtain ⟨u, hu, rfl⟩ := Option.map_eq_some_iff.mp (z.2 v hv)
    exact wpAny_Name (wpAny_loadName_local F.ok.kind z.1 ⟨o, es, ep, e, d, sk, hf⟩ hu ⟨S, h, I⟩) (F.names x _ q).1
  · rename_i w q
    obtain ⟨hk, a, o, u, e1, e2, d, hw⟩ := F'.cell x w q
    have hw := hw v hv
    cases u with
    | none => cases hw
    | some u =>
      cases hw
      exact wpAny_Name (wpAny_loadName_cell F.ok.kind hk e1 ⟨o, e2, d⟩ ⟨S, h, I⟩) (F.names x _ q).1
  · rename_i w q
    obtain ⟨hk, a, o, u, e1, e2, d, hw⟩ := F'.free x w q
    cases hv
    exact wpAny_Name (wpAny_loadName_free F.ok.kind hk e1 ⟨o, e2, d⟩ ⟨S, by show Q (er u) S; rw [hw]; exact h, I⟩ (F.names x _ q).2) (F.names x _ q).1
  · cases hv
noncomputable def GlobVal (c : Cst) (f : Str) (v : Value) : Prop := c.mg f = some v ∨ (c.mg f = none ∧ c.mb f = some v)
theorem TW.gname {x : Str} {p : Pos} {v : Value} {Q : Value → Sto → Prop} (hx : m.lookup x = some .glob) (hv : GlobVal c x v) (h : Q v S) : TW c k env m (eval (.Name x p) env) Q S := by
  intro A β s r F I
  have T := I.T
  refine Name_function_global F.ok.kind (F.glob x hx) ?_ (F.names x _ hx).1
  rcases hv with hv | ⟨h1, h2⟩
  · exact loadGlobal_global (by rw [F.ok.glob]; exact T.g) hv ⟨S, h, I⟩
  · exact loadGlobal_builtin (by rw [F.ok.glob]; exact T.g) h1 (by rw [F.ok.blt]; exact T.b) h2 ⟨S, h, I⟩
noncomputable def KeepOk (c : Cst) (f : Value) : Prop := ∀ h, c.K.In h → ∃ k, (k = Keeper.frame ∨ k = Keeper.machine ∨ k = Keeper.boundFrame) ∧ Looks c.M h (keeperOf f) k
noncomputable def CW (c : Cst) (k : Nat) (f : Value) (args : List AV) (Q : AV → Sto → Prop) (S : Sto) : Prop :=
  ∀ A β s vs, Room A k → InvS c β S s → vs.map er = args → wpAny c.M A (call f vs []) (fun v s' => ∃ S', Q (er v) S' ∧ InvS c β S' s') NoE s
theorem TW.splicedNil {Q : List Value → Sto → Prop} (h : Q [] S) : TW c k env m (spliced []) Q S := TW.pure h
theorem TW.splicedCons {t : Sem Value} {r : List (Bool × Sem Value)} {Q : List Value → Sto → Prop} (h : TW c k env m t (fun v S' => TW c k env m (spliced r) (fun vs S'' => Q (v :: vs) S'') S') S) :
    TW c k env m (spliced ((false, t) :: r)) Q S :=
  fun A β s r F I => Calls.spliced_cons (wpAny_mono (h A β s r F I) (fun _ s' ⟨_, h', I'⟩ => h' A β s' r F I') fun _ _ e => e)
theorem TW.callWith {p : Pos} {f : Value} {first : List Value} {args : List (Bool × Sem Value)} {Q : Value → Sto → Prop} (hk : KeepOk c f) (hp : args.any (·.1) = false)
    (h : TW c k env m (spliced args) (fun vs S' => TW c k env m (call f (first ++ vs) []) Q S') S) : TW c k env m (PySem.callWith p f first args []) Q S := by
  intro A β s r F I
  refine callWith_of (P := fun h => c.K.In h) (by rw [hp]; rfl) hk ?_
  have g : wpAny c.M A (spliced args) (fun vs s₁ => c.K.In s₁.heap ∧ wpAny c.M A (call f (first ++ vs) []) (fun v s' => ∃ S', Q v S' ∧ InvS c β S' s') NoE s₁) NoE s :=
    wpAny_mono (h A β s r F I) (fun vs s' ⟨_, h', I'⟩ => ⟨I'.X, h' A β s' r F I'⟩) fun _ _ e => e
  cases args with
  | nil =>
    unfold evalArgs
    show wpAny c.M A (spliced [] >>= _) _ NoE s
    refine wpAny_bind (wpAny_mono g (fun vs s' h' => wpAny_bind (wpAny_pure ?_)) fun _ _ x => x)
    refine wpAny_holding ?_
    exact wpAny_bind (wpAny_pure (wpAny_bind (wpAny_pure (wpAny_pure h'))))
  | cons a rest =>
    obtain ⟨b, t⟩ := a
    simp only [List.any_cons, Bool.or_eq_false_iff] at hp
    obtain rfl : b = false := hp.1
    exact evalArgs_plain g
end
end
section
theorem AV.opt_ne (o : Option Addr) : AV.opt o ≠ .other := by cases o <;> nofun
noncomputable def AV.known : AV → Bool
  | .other => false
  | _ => true
theorem known_ok {v : AV} (h : v.known = true) : v ≠ .other := fun e => by rw [e] at h; cases h
theorem fs_known {fs : Fs} {names : List Str} (h1 : fs.map (·.1) = names) (h2 : (fs.all fun p => p.2.known) = true) {n : Str} {v : AV} (h : fs.lookup n = some v) : n ∈ names ∧ v ≠ .other := by
  have m := PySem.mem_of_lookup h
  exact ⟨h1 ▸ List.mem_map_of_mem m, known_ok (List.all_eq_true.mp h2 _ m)⟩
theorem lookup_nodeNames {r : NodeRec} {n : Str} {v : AV} (h : r.fs.lookup n = some v) : n ∈ nodeNames ∧ v ≠ .other := by
  refine fs_known rfl ?_ h
  obtain ⟨_, _, _, _, _, _, _, _, a, b, c⟩ := r
  cases a <;> cases b <;> cases c <;> rfl
theorem lookup_treeNames {r : Option Addr × Int} {n : Str} {v : AV} (h : (treeFs r).lookup n = some v) : n ∈ treeNames ∧ v ≠ .other := by
  refine fs_known rfl ?_ h
  obtain ⟨a, _⟩ := r
  cases a <;> rfl
theorem Cst.noFld (c : Cst) {C : Addr} {n : Str} (h : okField C n = true) : (C = cNode ∨ C = cTree) ∧ findIn c.K (.ref C) n = some none := by
  unfold okField at h
  simp only [Bool.or_eq_true, Bool.and_eq_true, beq_iff_eq, List.contains_iff_mem] at h
  rcases h with ⟨rfl, h⟩ | ⟨rfl, h⟩
  · exact ⟨.inl rfl, c.hfld n h⟩
  · exact ⟨.inr rfl, c.hfldT n h⟩
theorem handed_of_er {u : Value} {v : AV} (h : er u = v) (hv : v ≠ .other) : handedIn u = true := by
  cases u <;> first | rfl | exact absurd h.symm hv
section
variable {c : Cst} {k : Nat} {env : Env} {m : Loc} {S : Sto}
theorem InvS.inst {β : Bas} {s : Shared} {σ : Trk} {a C d : Addr} {fs : Fs} (L : Low c β σ s.heap) (h1 : σ a = some (.inst C d)) (h2 : σ d = some (.flds a fs)) :
    ∃ ds n, FR ds fs ∧ InstAt s.heap a (instObj C d) C (some (dictOf ds n)) ∧ s.heap.get? d = some (dictOf ds n) := by
  have r1 : s.heap.get? a = some (instObj C d) := L.rep a _ h1
  obtain ⟨ds, n, e, hf⟩ : ∃ ds n, s.heap.get? d = some (dictOf ds n) ∧ FR ds fs := L.rep d _ h2
  exact ⟨ds, n, hf, ⟨r1, rfl, rfl, e⟩, e⟩
theorem getAttr_ok {β : Bas} {s : Shared} {A : Around} {a : Addr} {n : Str} {v : AV} {ex : Bool} {Q : Value → Shared → Prop} (I : InvS c β S s) (h : S.getA (.ref a) n = some v)
    (hq : ∀ u, er u = v → Q u { s with toks := s.toks + 1 }) : wpAny c.M A (getAttr (.ref a) n ex) Q NoE s := by
  obtain ⟨σ, L, e⟩ := I.rest
  have main : ∀ C d fs, okField C n = true → σ a = some (.inst C d) → σ d = some (.flds a fs) → fs.lookup n = some v → v ≠ .other → wpAny c.M A (getAttr (.ref a) n ex) Q NoE s := by
    intro C d fs hok h1 h2 hl hv
    obtain ⟨hC, hf⟩ := c.noFld hok
    obtain ⟨ds, nn, hfr, IA, e⟩ := InvS.inst L h1 h2
    obtain ⟨ro, hlk, z⟩ := hfr.get n
    rw [hl] at z
    obtain ⟨u, hu, hev⟩ := Option.map_eq_some_iff.mp z
    refine get_value I.X IA (c.hga C hC) (findObj_own (c.hdict C hC) hf rfl (v := u) ?_) (handed_of_er hev hv) (hq u hev)
    rw [lookIn_dict, hlk, hu]
  unfold Sto.getA at h
  dsimp only at h
  split at h
  · rename_i r q
    obtain ⟨d, h1, h2⟩ := e.nd a r q
    exact main _ d _ (by simp [okField, (lookup_nodeNames h).1]) h1 h2 h (lookup_nodeNames h).2
  · split at h
    · rename_i r q
      obtain ⟨d, h1, h2⟩ := e.tr a r q
      exact main _ d _ (by simp [okField, (lookup_treeNames h).1]) h1 h2 h (lookup_treeNames h).2
    · cases h
theorem TW.getAttr {o : Value} {n : Str} {v : AV} {ex : Bool} {Q : AV → Sto → Prop} (h : S.getA (er o) n = some v) (hq : Q v S) : TW c k env m (PySem.getAttr o n ex) (fun u => Q (er u)) S := by
  intro A β s r F I
  cases o with
  | ref a => exact getAttr_ok I h fun u hu => ⟨S, by show Q (er u) S; rw [hu]; exact hq, I.toks _⟩
  | _ => cases h
theorem Sto.setA_other {S S' : Sto} {a : Addr} {n : Str} {v : AV} (h : S.setA (.ref a) n v = some S') : S'.ro = S.ro := by
  unfold Sto.setA at h
  dsimp only at h
  repeat' (split at h)
  all_goals first
    | (cases h; done)
    | (obtain ⟨_, _, rfl⟩ := Option.map_eq_some_iff.mp h; rfl)
    | (cases h; rfl)
theorem setAttr_ok {β : Bas} {s : Shared} {A : Around} {a : Addr} {n : Str} {v : Value} {S' : Sto} {Q : Unit → Shared → Prop} (I : InvS c β S s) (h : S.setA (.ref a) n (er v) = some S')
    (hq : ∀ h', InvS c β S' { s with heap := h', toks := s.toks + 2 } → Q () { s with heap := h', toks := s.toks + 2 }) :
    wpAny c.M A (setAttr (.ref a) n v) Q NoE s := by
  obtain ⟨σ, L, e⟩ := I.rest
  obtain ⟨C, d, fs, hok, hlen, h1, h2, e'⟩ := e.setA h
  obtain ⟨hC, hf⟩ := c.noFld hok
  obtain ⟨ds, nn, hfr, IA, eo⟩ := InvS.inst L h1 h2
  have X := I.X
  refine set_plain X IA (c.hsa C hC) (osa_open (s := { s with toks := s.toks + 1 }) X IA (c.hplain C hC) (r := none) (by unfold takerIn; rw [hf]; rfl) fun b => ?_)
  have hh := c.hdict C hC
  unfold hasDictIn at hh
  obtain ⟨cd, hc, hd'⟩ := any_some hh
  refine wpAny_bind (wpAny_pure (wpAny_bind (wpAny_bind (wpAny_loadPart (show ({ s with toks := s.toks + 1 } : Shared).heap.get? a = some (instObj C d) from IA.at_) (wpAny_bind ((looks_clsIn X hc).at ?_))))))
  rw [hd']
  refine wpAny_pure (a := some d) (wpAny_bind (wpAny_pure (wpAny_bind ?_)))
  unfold nsSet
  refine wpAny_bind (wpAny_bind (wpAny_askSetting (wpAny_pure (wpAny_bind (wpAny_mkText (wpAny_bind (wpAny_loadPart (show ({ s with toks := s.toks + 1 } : Shared).heap.get? d = some (dictOf ds nn) from eo) ?_)))))))
  dsimp only
  have cc : (!ds.toArray.any (·.key.isStr n) && ds.toArray.any (·.refKey)) = false := by
    have z : ds.toArray.any (·.refKey) = false := by rw [List.any_toArray]; exact hfr.noRef
    rw [z, Bool.and_false]
  rw [aRefKeyMayBeTheName_at, cc]
  refine wpAny_updatePart eo ?_
  have U := putName_dict n (PyData.keyHash c.w.params n) (.str n ({ s with toks := s.toks + 1 } : Shared).toks) v ds nn
  have D' : (s.heap.update d (Obj.putName n (PyData.keyHash c.w.params n) (.str n (s.toks + 1)) v)).get? d = some (dictOf (putL n (PyData.keyHash c.w.params n) (.str n (s.toks + 1)) v ds) (putN n ds nn)) := by
    rw [← U]; exact Heap.get?_update_self _ eo (by rw [U]; rfl)
  have hl : (putL n (PyData.keyHash c.w.params n) (.str n (s.toks + 1)) v ds).length ≤ 1000 := by
    rw [(hfr.put n _ _ v).length]
    have := setL_length n (er v) fs
    omega
  refine wpAny_bind (wpAny_lookBehind (o := dictOf (putL n (PyData.keyHash c.w.params n) (.str n (s.toks + 1)) v ds) (putN n ds nn)) D' (pastItsLine_dict (by rw [List.size_toArray]; exact Nat.le_succ_of_le (sl_le hl))) ?_)
  refine wpAny_pure (hq _ ⟨I.gens, I.os, I.base, fun b xs z => I.ro b xs (by rw [← Sto.setA_other h]; exact z), _, L.upd (Heap.SameBut.extBut (Heap.SameBut.update ..)) (L.apart d _ h2) (show Rep c _ _ (.flds a (setL n (er v) fs)) from ⟨_, _, D', hfr.put n _ _ v⟩), e'⟩)
theorem TW.setAttr {o v : Value} {n : Str} {S' : Sto} {Q : Unit → Sto → Prop} (h : S.setA (er o) n (er v) = some S') (hq : Q () S') : TW c k env m (PySem.setAttr o n v) Q S := by
  intro A β s r F I
  cases o with
  | ref a => exact setAttr_ok I h fun h' I' => ⟨S', hq, I'⟩
  | _ => cases h
theorem InvS.newLs {β : Bas} {s : Shared} (I : InvS c β S s) (vs : List Value) (hz : vs.length ≤ 1000) : InvS c β (S.setLs s.heap.objs.size (vs.map er)) { s with heap := s.heap.push { cls := .type "list", data := .seq vs.toArray } } := by
  obtain ⟨σ, L, e⟩ := I.rest
  have f := L.fresh (Nat.le_refl s.heap.objs.size)
  exact ⟨I.gens, I.os, I.base, I.ro, _, L.upd (fun b o _ q => Heap.get?_push_of_some _ q) f.2 (show Rep c _ _ (.list (vs.map er)) from ⟨by simpa using hz, vs.toArray, ⟨0, Heap.get?_push_size _ rfl⟩, by simp⟩), e.setLs (.inl f.1)⟩
theorem InvS.newTp {β : Bas} {s : Shared} (I : InvS c β S s) (vs : List Value) (hz : vs.length ≤ 1000) : InvS c β (S.setTp s.heap.objs.size (vs.map er)) { s with heap := s.heap.push { cls := .type "tuple", data := .seq vs.toArray } } := by
  obtain ⟨σ, L, e⟩ := I.rest
  have f := L.fresh (Nat.le_refl s.heap.objs.size)
  exact ⟨I.gens, I.os, I.base, I.ro, _, L.upd (fun b o _ q => Heap.get?_push_of_some _ q) f.2 (show Rep c _ _ (.tup (vs.map er)) from ⟨by simpa using hz, vs.toArray, ⟨_, Heap.get?_push_size _ rfl, rfl, 0, rfl⟩, by simp⟩), e.setTp f.1⟩
theorem InvS.newDt {β : Bas} {s : Shared} (I : InvS c β S s) : InvS c β (S.setDt s.heap.objs.size []) { s with heap := s.heap.push { cls := .type "dict", data := .dict #[] } } := by
  obtain ⟨σ, L, e⟩ := I.rest
  have f := L.fresh (Nat.le_refl s.heap.objs.size)
  have hlow : s.heap.objs.size ≠ sysModules := by
    have := (I.T.nolimit)
    obtain ⟨mc, N, _⟩ := this
    have := N.lt
    intro q
    rw [q] at this
    exact absurd this (by decide)
  exact ⟨I.gens, I.os, I.base, I.ro, _, L.upd (fun b o _ q => Heap.get?_push_of_some _ q) f.2 (show Rep c _ _ (.dict []) from ⟨hlow, Nat.zero_le _, [], Heap.DictOf.new _, rfl⟩), e.setDt (.inl f.1)⟩
theorem TW.newList {vs : List Value} {Q : AV → Sto → Prop} (hz : vs.length ≤ 1000) (h : ∀ l, S.Free l → Q (.ref l) (S.setLs l (vs.map er))) : TW c k env m (PySem.newList vs) (fun u => Q (er u)) S :=
  fun _ _ _ _ _ I => wpAny_newList ⟨_, h _ (I.free (Nat.le_refl _)), I.newLs vs hz⟩ (sl_le hz)
theorem TW.newTuple {vs : List Value} {Q : AV → Sto → Prop} (hz : vs.length ≤ 1000) (h : ∀ l, S.Free l → Q (.ref l) (S.setTp l (vs.map er))) : TW c k env m (PySem.newTuple vs) (fun u => Q (er u)) S :=
  fun _ _ _ _ _ I => wpAny_newTuple ⟨_, h _ (I.free (Nat.le_refl _)), I.newTp vs hz⟩ (sl_le hz)
theorem TW.dictEmpty {p : Pos} {Q : AV → Sto → Prop} (h : ∀ l, S.Free l → Q (.ref l) (S.setDt l [])) : TW c k env m (eval (.Dict [] [] p) env) (fun u => Q (er u)) S :=
  fun _ _ _ _ _ I => wpAny_Dict_empty ⟨_, h _ (I.free (Nat.le_refl _)), I.newDt⟩
end
end
section
noncomputable abbrev Es := List (Int × AV)
noncomputable def getE (es : Es) (k : Int) : Option AV := (es.find? fun p => decide (p.1 = k)).map (·.2)
noncomputable def putE (es : Es) (k : Int) (v : AV) : Es := if es.any (fun p => decide (p.1 = k)) then es.map (fun p => if p.1 = k then (p.1, v) else p) else es ++ [(k, v)]
noncomputable def delE (es : Es) (k : Int) : Es := es.filter fun p => decide (p.1 ≠ k)
noncomputable def erP (p : Int × Value) : Int × AV := (p.1, er p.2)
theorem getE_er (kvs : List (Int × Value)) (k : Int) : getE (kvs.map erP) k = (valueAt kvs k).map er := by
  unfold getE valueAt
  rw [List.find?_map]
  cases q : kvs.find? ((fun p => decide (p.1 = k)) ∘ erP) with
  | none =>
    have : kvs.find? (fun kv => decide (kv.1 = k)) = none := q
    rw [this]; rfl
  | some x =>
    have : kvs.find? (fun kv => decide (kv.1 = k)) = some x := q
    rw [this]; rfl
theorem putE_er (kvs : List (Int × Value)) (k : Int) (v : Value) : (stored kvs k v).map erP = putE (kvs.map erP) k (er v) := by
  unfold stored putE
  have h : (kvs.map erP).any (fun p => decide (p.1 = k)) = kvs.any (fun kv => decide (kv.1 = k)) := by
    rw [List.any_map]; rfl
  rw [h]
  split
  · rw [List.map_map, List.map_map]
    refine List.map_congr_left fun x _ => ?_
    show erP (if x.1 = k then (x.1, v) else x) = if x.1 = k then (x.1, er v) else erP x
    split <;> rfl
  · rw [List.map_append]; rfl
theorem delE_er (kvs : List (Int × Value)) (k : Int) : (without kvs k).map erP = delE (kvs.map erP) k := by
  unfold without delE
  rw [List.filter_map]; rfl
theorem putE_length (es : Es) (k : Int) (v : AV) : (putE es k v).length ≤ es.length + 1 := by
  unfold putE; split <;> simp
theorem delE_length (es : Es) (k : Int) : (delE es k).length ≤ es.length := List.length_filter_le ..
section
variable {c : Cst} {k : Nat} {env : Env} {m : Loc} {S : Sto}
theorem InvS.list {β : Bas} {s : Shared} (I : InvS c β S s) {l : Addr} {xs : List AV} (h : S.ls l = some xs) :
    xs.length ≤ 1000 ∧ ∃ items : Array Value, s.heap.PlainList l items ∧ items.toList.map er = xs :=
  let ⟨_, L, e⟩ := I.rest; L.rep l _ (e.ls l xs h)
theorem InvS.tup {β : Bas} {s : Shared} (I : InvS c β S s) {l : Addr} {xs : List AV} (h : S.tp l = some xs) :
    xs.length ≤ 1000 ∧ ∃ items : Array Value, s.heap.IsTuple l items ∧ items.toList.map er = xs :=
  let ⟨_, L, e⟩ := I.rest; L.rep l _ (e.tp l xs h)
theorem InvS.dict {β : Bas} {s : Shared} (I : InvS c β S s) {l : Addr} {es : Es} (h : S.dt l = some es) :
    l ≠ sysModules ∧ es.length ≤ 1000 ∧ ∃ kvs : List (Int × Value), s.heap.DictOf (intKind c.prog c.w) l kvs ∧ kvs.map erP = es :=
  let ⟨_, L, e⟩ := I.rest; L.rep l _ (e.dt l es h)
theorem InvS.setLs {β : Bas} {s : Shared} {h' : Heap} {t : Nat} (I : InvS c β S s) {l : Addr} {xs ys : List AV} (h : S.ls l = some xs) (hs : Heap.ExtBut l s.heap h')
    (hr : Rep c h' l (.list ys)) : InvS c β (S.setLs l ys) { s with heap := h', toks := t } := by
  obtain ⟨σ, L, e⟩ := I.rest
  have z := e.ls l xs h
  exact ⟨I.gens, I.os, I.base, I.ro, _, L.upd hs (L.apart l _ z) hr, e.setLs (.inr ⟨xs, z⟩)⟩
theorem InvS.setDt {β : Bas} {s : Shared} {h' : Heap} {t : Nat} (I : InvS c β S s) {l : Addr} {xs ys : Es} (h : S.dt l = some xs) (hs : Heap.ExtBut l s.heap h')
    (hr : Rep c h' l (.dict ys)) : InvS c β (S.setDt l ys) { s with heap := h', toks := t } := by
  obtain ⟨σ, L, e⟩ := I.rest
  have z := e.dt l xs h
  exact ⟨I.gens, I.os, I.base, I.ro, _, L.upd hs (L.apart l _ z) hr, e.setDt (.inr ⟨xs, z⟩)⟩
noncomputable def lsMeth (n : Str) (a : Addr) (xs : List AV) (args : List AV) (Q : AV → Sto → Prop) (S : Sto) : Prop :=
  if n == "append" then ∃ v, args = [v] ∧ xs.length < 1000 ∧ Q .none (S.setLs a (xs ++ [v]))
  else if n == "pop" then (args = [] ∧ ∃ ys y, xs = ys ++ [y] ∧ Q y (S.setLs a ys)) ∨ (args = [.int 0] ∧ ∃ y ys, xs = y :: ys ∧ Q y (S.setLs a ys))
  else False
noncomputable def dtMeth (n : Str) (a : Addr) (es : Es) (args : List AV) (Q : AV → Sto → Prop) (S : Sto) : Prop :=
  if n == "get" then ∃ i d, args = [.int i, d] ∧ Q ((getE es i).getD d) S
  else if n == "pop" then ∃ i v, args = [.int i] ∧ getE es i = some v ∧ Q v (S.setDt a (delE es i))
  else False
theorem map_er_one {vs : List Value} {v : AV} (h : vs.map er = [v]) : ∃ u, vs = [u] ∧ er u = v := by
  cases vs with
  | nil => cases h
  | cons u r => cases r with
    | nil => simp at h; exact ⟨u, rfl, h⟩
    | cons _ _ => simp at h
theorem map_er_two {vs : List Value} {v w : AV} (h : vs.map er = [v, w]) : ∃ u t, vs = [u, t] ∧ er u = v ∧ er t = w := by
  cases vs with
  | nil => cases h
  | cons u r =>
    rw [List.map_cons] at h
    obtain ⟨h1, h2⟩ := List.cons.inj h
    obtain ⟨t, rfl, ht⟩ := map_er_one h2
    exact ⟨u, t, rfl, h1, ht⟩
theorem map_er_nil {vs : List Value} (h : vs.map er = []) : vs = [] := by cases vs with | nil => rfl | cons _ _ => cases h
theorem map_snoc {items : Array Value} {ys : List AV} {y : AV} (h : items.toList.map er = ys ++ [y]) : ∃ p u, items = (p ++ [u]).toArray ∧ p.map er = ys ∧ er u = y := by
  obtain ⟨p, q, e, h1, h2⟩ := List.map_eq_append_iff.mp h
  obtain ⟨u, rfl, hu⟩ := map_er_one h2
  exact ⟨p, u, by rw [← e, Array.toArray_toList], h1, hu⟩
noncomputable def lsId (n : Str) : Option String := if n == "append" then some "list.append" else if n == "pop" then some "list.pop" else none
noncomputable def dtId (n : Str) : Option String := if n == "get" then some "dict.get" else if n == "pop" then some "dict.pop" else none
theorem lsGetM {β : Bas} {s : Shared} {A : Around} {n : Str} {l : Addr} {xs : List AV} {id : String} {pl : Sem Bool} {P : Value × List Value → Shared → Prop} (I : InvS c β S s) (hl : S.ls l = some xs)
    (hi : lsId n = some id) (h : P (.builtin id, [.ref l]) s) : wpAny c.M A (getMethod (.ref l) n pl) P NoE s := by
  obtain ⟨_, items', ⟨n', hp'⟩, _⟩ := I.list hl
  have getM : ∀ (id : String) (slot : Slot "list" n id) (hty : typeOf (.builtin id) = pure (.type "method_descriptor")), P (.builtin id, [.ref l]) s → wpAny c.M A (getMethod (.ref l) n pl) P NoE s :=
    fun id slot hty h' => getMethod_builtin ⟨_, hp', rfl⟩ PySem.F.plainAttrs_list slot hty (fun a e => by cases e; exact ⟨_, hp', rfl⟩) h'
  unfold lsId at hi
  split at hi
  · rename_i q; obtain rfl := eq_of_beq q; cases hi; exact getM _ PySem.F.slot_list_append PySem.F.type_list_append h
  · split at hi
    · rename_i q; obtain rfl := eq_of_beq q; cases hi; exact getM _ PySem.F.slot_list_pop PySem.F.type_list_pop h
    · cases hi
theorem dtGetM {β : Bas} {s : Shared} {A : Around} {n : Str} {l : Addr} {xs : Es} {id : String} {pl : Sem Bool} {P : Value × List Value → Shared → Prop} (I : InvS c β S s) (hl : S.dt l = some xs)
    (hi : dtId n = some id) (h : P (.builtin id, [.ref l]) s) : wpAny c.M A (getMethod (.ref l) n pl) P NoE s := by
  obtain ⟨_, _, kvs', hd', _⟩ := I.dict hl
  have getM : ∀ (id : String) (slot : Slot "dict" n id) (hty : typeOf (.builtin id) = pure (.type "method_descriptor")), P (.builtin id, [.ref l]) s → wpAny c.M A (getMethod (.ref l) n pl) P NoE s :=
    fun id slot hty h' => getMethod_builtin hd'.typeIs PySem.F.plainAttrs_dict slot hty hd'.mapOf.noDict h'
  unfold dtId at hi
  split at hi
  · rename_i q; obtain rfl := eq_of_beq q; cases hi; exact getM _ PySem.F.slot_dict_get PySem.F.type_dict_get h
  · split at hi
    · rename_i q; obtain rfl := eq_of_beq q; cases hi; exact getM _ PySem.F.slot_dict_pop PySem.F.type_dict_pop h
    · cases hi
theorem lsMeth_ok {β : Bas} {s : Shared} {A : Around} {n : Str} {l : Addr} {xs : List AV} {vs : List Value} {Q : AV → Sto → Prop} (I : InvS c β S s) (hl : S.ls l = some xs)
    {id : String} (hi : lsId n = some id) (h : lsMeth n l xs (vs.map er) Q S) : wpAny c.M A (call (.builtin id) (.ref l :: vs)) (fun v s' => ∃ S', Q (er v) S' ∧ InvS c β S' s') NoE s := by
  obtain ⟨hz, items, ⟨nn, hp⟩, hm⟩ := I.list hl
  have hsz : items.size ≤ 1000 := by rw [← hm] at hz; simpa using hz
  unfold lsMeth at h
  split at h
  · rename_i q
    obtain rfl := eq_of_beq q
    obtain ⟨v, hv, hlt, hq⟩ := h
    obtain ⟨u, rfl, rfl⟩ := map_er_one hv
    obtain rfl : "list.append" = id := Option.some.inj hi
    refine wpAny_list_append_plain ⟨nn, hp⟩ (fun h' hp' hs => ⟨_, hq, I.setLs hl hs.extBut ⟨?_, _, hp', ?_⟩⟩) (by first | exact sl_le hsz | exact sl_le (Nat.succ_le_succ hsz))
    · simp; omega
    · simp [hm]
  · split at h
    · rename_i q
      obtain rfl := eq_of_beq q
      rcases h with ⟨ha, ys, y, hx, hq⟩ | ⟨ha, y, ys, hx, hq⟩
      · obtain rfl := map_er_nil ha
        obtain rfl : "list.pop" = id := Option.some.inj hi
        obtain ⟨p, u, rfl, hp1, hu⟩ := map_snoc (hm.trans hx)
        have hz' : (p ++ [u]).toArray.size ≤ sizeLine := sl_le hsz
        have hk : (p ++ [u]).toArray.size - 1 = p.length := by rw [List.size_toArray, List.length_append]; rfl
        have hy : (p ++ [u]).toArray[(p ++ [u]).toArray.size - 1]? = some u := by rw [hk]; simp
        refine call_meets PySem.F.slot_list_pop ⟨_, hp, rfl⟩ PySem.F.entry_list_pop (PySem.F.args_list_pop_1 _) (PySem.MeetsSeq.list_pop_last l _ nn u hy hz') ⟨hp, ?_⟩
        refine ⟨_, by rw [hu]; exact hq, I.setLs hl (Heap.SameBut.update ..).extBut ⟨by rw [hx] at hz; simp at hz ⊢; omega, p.toArray, ⟨nn + 1, ?_⟩, by simpa using hp1⟩⟩
        have q := PySem.IsL.update hp (fun xs => xs.eraseIdxIfInBounds ((p ++ [u]).toArray.size - 1))
        have e : (p ++ [u]).toArray.eraseIdxIfInBounds ((p ++ [u]).toArray.size - 1) = p.toArray := by rw [hk, kl_erase, List.append_nil]
        rw [e, if_neg (by simp)] at q
        exact q
      · obtain ⟨z, rfl, hzz⟩ := map_er_one ha
        obtain ⟨t, rfl⟩ := er_int hzz
        obtain rfl : "list.pop" = id := Option.some.inj hi
        obtain ⟨u, r, hr, hu, hr2⟩ := List.map_eq_cons_iff.mp (hm.trans hx)
        obtain rfl : items = (u :: r).toArray := by rw [← hr, Array.toArray_toList]
        have hz' : (u :: r).toArray.size ≤ sizeLine := sl_le hsz
        refine call_meets PySem.F.slot_list_pop ⟨_, hp, rfl⟩ PySem.F.entry_list_pop (PySem.F.args_list_pop_2 _ _) (PySem.MeetsSeq.list_pop_at l _ nn 0 t 0 u rfl (by simp [seqIndex?]) (by simp) hz') ⟨hp, ?_⟩
        refine ⟨_, by rw [hu]; exact hq, I.setLs hl (Heap.SameBut.update ..).extBut ⟨by rw [hx] at hz; simp at hz ⊢; omega, r.toArray, ⟨nn + 1, ?_⟩, by simpa using hr2⟩⟩
        have q := PySem.IsL.update hp (fun xs => xs.eraseIdxIfInBounds 0)
        have e : (u :: r).toArray.eraseIdxIfInBounds 0 = r.toArray := kl_erase [] r u
        rw [e, if_neg (by simp)] at q
        exact q
    · exact h.elim
theorem dtMeth_ok {β : Bas} {s : Shared} {A : Around} {n : Str} {l : Addr} {es : Es} {vs : List Value} {Q : AV → Sto → Prop} (I : InvS c β S s) (hl : S.dt l = some es)
    {id : String} (hi : dtId n = some id) (h : dtMeth n l es (vs.map er) Q S) : wpAny c.M A (call (.builtin id) (.ref l :: vs)) (fun v s' => ∃ S', Q (er v) S' ∧ InvS c β S' s') NoE s := by
  obtain ⟨hsm, hz, kvs, hd, hm⟩ := I.dict hl
  have hsz : kvs.length ≤ 1000 := by rw [← hm] at hz; simpa using hz
  have hsm' : (l == sysModules) = false := by simpa using hsm
  unfold dtMeth at h
  split at h
  · rename_i q
    obtain rfl := eq_of_beq q
    obtain ⟨i, d, hv, hq⟩ := h
    obtain ⟨u, t, rfl, hu, rfl⟩ := map_er_two hv
    obtain ⟨tk, rfl⟩ := er_int hu
    obtain rfl : "dict.get" = id := Option.some.inj hi
    refine call_meetsIn PySem.F.slot_dict_get hd.typeIs PySem.F.entry_dict_get (PySem.F.args_dict_get_3 _ _ _) (meets_dict_get_default (intKind c.prog c.w) l (intKind_is c.prog c.w i tk) hsm' t) ⟨_, hd.mapOf, ?_⟩
    refine ⟨_, ?_, I.toks _⟩
    rw [← hm, getE_er] at hq
    cases q : valueAt kvs i with
    | none => rw [q] at hq; exact hq
    | some x => rw [q] at hq; exact hq
  · split at h
    · rename_i q
      obtain rfl := eq_of_beq q
      obtain ⟨i, v, hv, hg, hq⟩ := h
      obtain ⟨u, rfl, hu⟩ := map_er_one hv
      obtain ⟨tk, rfl⟩ := er_int hu
      obtain rfl : "dict.pop" = id := Option.some.inj hi
      rw [← hm, getE_er] at hg
      obtain ⟨x, hx, rfl⟩ := Option.map_eq_some_iff.mp hg
      refine call_meetsIn PySem.F.slot_dict_pop hd.typeIs PySem.F.entry_dict_pop (PySem.F.args_dict_pop_2 _ _) (meets_dict_pop_there (intKind c.prog c.w) l (intKind_is c.prog c.w i tk) [] (.inl rfl) rfl)
        ⟨kvs, x, hd, by first | exact sl_le hsz | exact sl_le (Nat.succ_le_succ hsz), hx, fun h' hd' hs => ?_⟩
      refine ⟨_, hq, I.setDt hl hs.extBut ⟨hsm, Nat.le_trans (delE_length _ _) hz, _, hd', ?_⟩⟩
      rw [← hm]; exact delE_er kvs i
    · exact h.elim
end
end
section
noncomputable def Sto.isNode (S : Sto) (a : Addr) : Bool := (S.nd a).isSome || (S.tr a).isSome
noncomputable def Sto.isQ (S : Sto) (a b : AV) : Option Bool := match a with
  | .none => (match b with | .none => some true | .ref _ => some false | _ => none)
  | .ref x => (match b with | .none => some false | .ref y => if S.isNode x && S.isNode y then some (decide (x = y)) else none | _ => none)
  | .str _ => (match b with | .none => some false | _ => none)
  | _ => none
inductive IsR (S : Sto) : AV → AV → Bool → Prop
  | nn : IsR S .none .none true
  | nr (a : Addr) : IsR S .none (.ref a) false
  | rn (a : Addr) : IsR S (.ref a) .none false
  | sn (x : Str) : IsR S (.str x) .none false
  | rr (x y : Addr) : S.isNode x = true → S.isNode y = true → IsR S (.ref x) (.ref y) (decide (x = y))
theorem Ans.ite {α : Type} {P : α → Prop} {p : Prop} [Decidable p] {a : α} (h : p → P a) : Ans P (if p then some a else none) := by
  by_cases q : p
  · rw [if_pos q]; exact h q
  · rw [if_neg q]; exact trivial
theorem isQ_inv {S : Sto} {a b : AV} {t : Bool} (h : S.isQ a b = some t) : IsR S a b t := by
  refine Ans.of (P := fun t => IsR S a b t) ?_ h
  clear h
  cases a <;> cases b <;> first | exact trivial | exact .nn | exact .nr _ | exact .rn _ | exact .sn _ | exact Ans.ite fun q => .rr _ _ (Bool.and_eq_true_iff.mp q).1 (Bool.and_eq_true_iff.mp q).2
noncomputable def cmpI : CmpOp → Int → Int → Option Bool
  | .Eq, i, j => some (decide (i = j))
  | .NotEq, i, j => some (decide (i ≠ j))
  | .Lt, i, j => some (decide (i < j))
  | .LtE, i, j => some (decide (i ≤ j))
  | .Gt, i, j => some (decide (j < i))
  | .GtE, i, j => some (decide (j ≤ i))
  | _, _, _ => none
noncomputable def intsOf : List AV → Option (List Int)
  | [] => some []
  | v :: r => v.int?.bind fun i => (intsOf r).map (i :: ·)
noncomputable def Sto.tupsOf (S : Sto) : List AV → Option (List (List Int))
  | [] => some []
  | v :: r => v.ref?.bind fun a => (S.tp a).bind fun xs => (intsOf xs).bind fun t => (S.tupsOf r).map (t :: ·)
noncomputable def Sto.listEq (S : Sto) (x y : Addr) : Option Bool := (S.ls x).bind fun xs => (S.ls y).bind fun ys =>
  match (intsOf xs).bind fun a => (intsOf ys).map fun b => decide (a = b) with
  | some t => some t
  | none => (S.tupsOf xs).bind fun a => (S.tupsOf ys).map fun b => decide (a = b)
noncomputable def Sto.cmp (S : Sto) (op : CmpOp) (a b : AV) : Option Bool := match op with
  | .Is => S.isQ a b
  | .IsNot => (S.isQ a b).map (!·)
  | op => match a with
    | .int i => b.int?.bind fun j => cmpI op i j
    | .ref x => b.ref?.bind fun y => (match op with
      | .Eq => S.listEq x y
      | .NotEq => (S.listEq x y).map (!·)
      | _ => none)
    | _ => none
noncomputable def binI (op : Operator) (i j : Int) : Option Int := match op with
  | .Add => some (i + j)
  | .Sub => some (i - j)
  | .FloorDiv => if j ≠ 0 ∧ j.natAbs < 1073741824 then some (i.fdiv j) else none
  | .Mod => if j ≠ 0 then some (i.fmod j) else none
  | _ => none
section
variable {c : Cst} {k : Nat} {env : Env} {m : Loc} {S : Sto}
theorem Sto.isNode_alive {β : Bas} {s : Shared} (I : InvS c β S s) {a : Addr} (h : S.isNode a = true) : ∃ o, s.heap.get? a = some o ∧ o.cls ≠ .type "tuple" := by
  obtain ⟨σ, L, e⟩ := I.rest
  unfold Sto.isNode at h
  rw [Bool.or_eq_true] at h
  rcases h with h | h
  · obtain ⟨r, q⟩ := Option.isSome_iff_exists.mp h
    obtain ⟨d, h1, _⟩ := e.nd a r q
    exact ⟨_, L.rep a _ h1, nofun⟩
  · obtain ⟨r, q⟩ := Option.isSome_iff_exists.mp h
    obtain ⟨d, h1, _⟩ := e.tr a r q
    exact ⟨_, L.rep a _ h1, nofun⟩
theorem TW.isQ {a b : Value} {t : Bool} {Q : AV → Sto → Prop} (h : S.isQ (er a) (er b) = some t) (hq : Q (.bool t) S) : TW c k env m (compareOp .Is a b) (fun u => Q (er u)) S := by
  intro A β s r F I
  have h := isQ_inv h
  generalize ha : er a = x at h
  generalize hb : er b = y at h
  cases h with
  | nn => obtain rfl := er_none ha; obtain rfl := er_none hb; exact wpAny_is_plain rfl ⟨S, hq, I⟩
  | nr => obtain rfl := er_none ha; obtain rfl := er_ref hb; exact wpAny_is_plain rfl ⟨S, hq, I⟩
  | rn => obtain rfl := er_ref ha; obtain rfl := er_none hb; exact wpAny_is_plain rfl ⟨S, hq, I⟩
  | sn => obtain ⟨_, rfl⟩ := er_str ha; obtain rfl := er_none hb; exact wpAny_is_plain rfl ⟨S, hq, I⟩
  | rr x y h1 h2 =>
    obtain rfl := er_ref ha
    obtain rfl := er_ref hb
    by_cases z : x = y
    · subst z
      exact wpAny_is_ref_self ⟨S, by rw [decide_eq_true rfl] at hq; exact hq, I⟩
    · obtain ⟨ox, hx, hx'⟩ := Sto.isNode_alive I h1
      obtain ⟨oy, hy, _⟩ := Sto.isNode_alive I h2
      exact wpAny_is_ref_other z hx hy hx' ⟨S, by rw [decide_eq_false z] at hq; exact hq, I⟩
theorem TW.isNotQ {a b : Value} {t : Bool} {Q : AV → Sto → Prop} (h : S.isQ (er a) (er b) = some t) (hq : Q (.bool (!t)) S) : TW c k env m (compareOp .IsNot a b) (fun u => Q (er u)) S := by
  intro A β s r F I
  have h := isQ_inv h
  generalize ha : er a = x at h
  generalize hb : er b = y at h
  cases h with
  | nn => obtain rfl := er_none ha; obtain rfl := er_none hb; exact wpAny_isNot_plain rfl ⟨S, hq, I⟩
  | nr => obtain rfl := er_none ha; obtain rfl := er_ref hb; exact wpAny_isNot_plain rfl ⟨S, hq, I⟩
  | rn => obtain rfl := er_ref ha; obtain rfl := er_none hb; exact wpAny_isNot_plain rfl ⟨S, hq, I⟩
  | sn => obtain ⟨_, rfl⟩ := er_str ha; obtain rfl := er_none hb; exact wpAny_isNot_plain rfl ⟨S, hq, I⟩
  | rr x y h1 h2 =>
    obtain rfl := er_ref ha
    obtain rfl := er_ref hb
    by_cases z : x = y
    · subst z
      exact wpAny_isNot_ref_self ⟨S, by rw [decide_eq_true rfl] at hq; exact hq, I⟩
    · obtain ⟨ox, hx, hx'⟩ := Sto.isNode_alive I h1
      obtain ⟨oy, hy, _⟩ := Sto.isNode_alive I h2
      exact wpAny_isNot_ref_other z hx hy hx' ⟨S, by rw [decide_eq_false z] at hq; exact hq, I⟩
theorem ne_bne (i j : Int) : (i != j) = decide (i ≠ j) := by
  by_cases z : i = j
  · rw [decide_eq_false (fun h => h z)]; exact bne_eq_false_iff_eq.mpr z
  · rw [decide_eq_true z]; exact bne_iff_ne.mpr z
theorem TW.cmpI {op : CmpOp} {i j : Int} {x y : Tok} {t : Bool} {Q : AV → Sto → Prop} (h : Mine.cmpI op i j = some t) : Q (.bool t) S → TW c k env m (compareOp op (.int i x) (.int j y)) (fun u => Q (er u)) S := by
  refine Ans.of (P := fun t => Q (.bool t) S → TW c k env m (compareOp op (.int i x) (.int j y)) (fun u => Q (er u)) S) ?_ h
  clear h
  cases op with
  | Eq => exact fun hq A β s r F I => P.eq_int ⟨S, hq, I⟩
  | NotEq => exact fun hq A β s r F I => P.ne_int ⟨S, by show Q (.bool (i != j)) S; rw [ne_bne]; exact hq, I⟩
  | Lt => exact fun hq A β s r F I => P.lt_int ⟨S, hq, I⟩
  | LtE => exact fun hq A β s r F I => P.le_int ⟨S, hq, I⟩
  | Gt => exact fun hq A β s r F I => P.gt_int ⟨S, hq, I⟩
  | GtE => exact fun hq A β s r F I => P.ge_int ⟨S, hq, I⟩
  | _ => exact trivial
theorem intsOf_er : ∀ {vs : List Value} {ns : List Int}, intsOf (vs.map er) = some ns → IntsAre vs ns
  | [], ns, h => by cases h; exact .nil
  | v :: r, ns, h => by
    obtain ⟨i, hi, h⟩ := Option.bind_eq_some_iff.mp h
    obtain ⟨t, ht, rfl⟩ := Option.map_eq_some_iff.mp h
    obtain ⟨_, rfl⟩ := er_int (int?_eq hi)
    exact .cons _ _ (intsOf_er ht)
noncomputable def tupD (t : List Int) : PyData := .tuple (t.map .int)
theorem tupsOf_reads {β : Bas} {s : Shared} (I : InvS c β S s) : ∀ {vs : List Value} {ts : List (List Int)}, S.tupsOf (vs.map er) = some ts → ∃ as, ReadsAll s.heap vs (ts.map tupD) as
  | [], ts, h => by cases h; exact ⟨_, .nil⟩
  | v :: r, ts, h => by
    obtain ⟨a, ha, h⟩ := Option.bind_eq_some_iff.mp h
    obtain ⟨xs, hx, h⟩ := Option.bind_eq_some_iff.mp h
    obtain ⟨t, ht, h⟩ := Option.bind_eq_some_iff.mp h
    obtain ⟨us, hu, rfl⟩ := Option.map_eq_some_iff.mp h
    obtain rfl := er_ref (ref?_eq ha)
    obtain ⟨as, ra⟩ := tupsOf_reads I hu
    obtain ⟨_, items, ⟨o, ho, hc, n, hd⟩, hm⟩ := I.tup hx
    have hi : IntsAre items.toList t := intsOf_er (by rw [hm]; exact ht)
    exact ⟨_, ReadsAll.cons (reads_tuple_at ho hc hd (readsAll_of_ints hi)) ra⟩
theorem eqv_tup (a b : List Int) : PyData.eqv (tupD a) (tupD b) = decide (a = b) := by
  unfold tupD
  rw [PyData.eqv]
  exact ked_eqvAll a b
theorem eqvAll_tup : ∀ a b : List (List Int), PyData.eqvAll (a.map tupD) (b.map tupD) = decide (a = b)
  | [], [] => by simp [PyData.eqvAll]
  | [], _ :: _ => by simp [PyData.eqvAll]
  | _ :: _, [] => by simp [PyData.eqvAll]
  | a :: r, b :: t => by
    simp only [List.map_cons, PyData.eqvAll, eqvAll_tup r t, eqv_tup]
    by_cases h : a = b <;> by_cases h' : r = t <;> simp [h, h']
theorem tup_lay (a : List Int) : (tupD a).canLay0 = true ∧ (tupD a).depth ≤ 1 := by
  unfold tupD
  constructor
  · rw [PyData.canLay0]; exact ke_canLayAll0 a
  · rw [PyData.depth, ke_depthAll]; exact Nat.le_refl _
theorem tups_lay : ∀ a : List (List Int), PyData.canLayAll0 (a.map tupD) = true ∧ PyData.depthAll (a.map tupD) ≤ 1
  | [] => ⟨rfl, Nat.zero_le _⟩
  | a :: r => by
    have h1 := tup_lay a
    have h2 := tups_lay r
    constructor
    · rw [List.map_cons, PyData.canLayAll0, h1.1, h2.1]; rfl
    · rw [List.map_cons, PyData.depthAll]; exact Nat.max_le.mpr ⟨h1.2, h2.2⟩
theorem Room.u64 {A : Around} {k : Nat} (r : Room A k) : A.units + 64 < cLine := by
  have := r.units
  show A.units + 64 < 9900
  omega
theorem listEq_ok {β : Bas} {s : Shared} {A : Around} (r : Room A k) (I : InvS c β S s) {x y : Addr} {t : Bool} (h : S.listEq x y = some t) {Q : Value → Shared → Prop} :
    (Q (.bool t) s → wpAny c.M A (compareOp .Eq (.ref x) (.ref y)) Q NoE s) ∧ (Q (.bool (!t)) s → wpAny c.M A (compareOp .NotEq (.ref x) (.ref y)) Q NoE s) := by
  obtain ⟨xs, hx, h⟩ := Option.bind_eq_some_iff.mp h
  obtain ⟨ys, hy, h⟩ := Option.bind_eq_some_iff.mp h
  obtain ⟨_, ix, px, mx⟩ := I.list hx
  obtain ⟨_, iy, py, my⟩ := I.list hy
  cases q : (intsOf xs).bind fun a => (intsOf ys).map fun b => decide (a = b) with
  | some t' =>
    rw [q] at h
    cases h
    obtain ⟨a, ha, q⟩ := Option.bind_eq_some_iff.mp q
    obtain ⟨b, hb, rfl⟩ := Option.map_eq_some_iff.mp q
    have ia : IntsAre ix.toList a := intsOf_er (by rw [mx]; exact ha)
    have ib : IntsAre iy.toList b := intsOf_er (by rw [my]; exact hb)
    have lx : s.heap.IsList x ix.toList.toArray := by rw [Array.toArray_toList]; exact px.isList
    have ly : s.heap.IsList y iy.toList.toArray := by rw [Array.toArray_toList]; exact py.isList
    exact ⟨fun q => ke_eq_ints lx ly ia ib r.u64 q, fun q => ke_ne_ints lx ly ia ib r.u64 q⟩
  | none =>
    rw [q] at h
    obtain ⟨a, ha, h⟩ := Option.bind_eq_some_iff.mp h
    obtain ⟨b, hb, rfl⟩ := Option.map_eq_some_iff.mp h
    obtain ⟨as, ra⟩ := tupsOf_reads I (vs := ix.toList) (by rw [mx]; exact ha)
    obtain ⟨bs, rb⟩ := tupsOf_reads I (vs := iy.toList) (by rw [my]; exact hb)
    obtain ⟨nx, ex⟩ := px
    obtain ⟨ny, ey⟩ := py
    have R1 := reads_list_at ex rfl rfl ra
    have R2 := reads_list_at ey rfl rfl rb
    have sh : ∀ t : List (List Int), PySem.SeqAt.shaped (.list (t.map tupD)) = true := fun t => by
      have z := tups_lay t
      unfold PySem.SeqAt.shaped
      rw [PyData.canLay0, z.1, PyData.depth, Bool.true_and]
      exact decide_eq_true (Nat.le_trans (Nat.succ_le_succ z.2) (by decide))
    have e : PyData.eqv (.list (a.map tupD)) (.list (b.map tupD)) = decide (a = b) := by rw [PyData.eqv]; exact eqvAll_tup a b
    exact ⟨fun q => eq_dataH R1 R2 (sh a) (sh b) r.u64 (by rw [e]; exact q), fun q => ne_dataH R1 R2 (sh a) (sh b) r.u64 (by rw [e]; exact q)⟩
theorem TW.cmpL {op : CmpOp} {a b : Value} {t : Bool} {Q : AV → Sto → Prop} {f : Addr → Addr → Option Bool} (h : (match er a with | .int i => (er b).int?.bind fun j => Mine.cmpI op i j | .ref x => (er b).ref?.bind (f x) | _ => none) = some t) (hq : Q (.bool t) S)
    (hf : ∀ x y, f x y = some t → TW c k env m (compareOp op (.ref x) (.ref y)) (fun u => Q (er u)) S) : TW c k env m (compareOp op a b) (fun u => Q (er u)) S := by
  generalize ha : er a = v at h
  cases v with
  | int i =>
    obtain ⟨j, hj, h⟩ := Option.bind_eq_some_iff.mp h
    obtain ⟨_, rfl⟩ := er_int ha
    obtain ⟨_, rfl⟩ := er_int (int?_eq hj)
    exact TW.cmpI h hq
  | ref x =>
    obtain ⟨y, hy, h⟩ := Option.bind_eq_some_iff.mp h
    obtain rfl := er_ref ha
    obtain rfl := er_ref (ref?_eq hy)
    exact hf x y h
  | _ => cases h
theorem TW.cmp {op : CmpOp} {a b : Value} {t : Bool} {Q : AV → Sto → Prop} (h : S.cmp op (er a) (er b) = some t) (hq : Q (.bool t) S) : TW c k env m (compareOp op a b) (fun u => Q (er u)) S := by
  cases op with
  | Is => exact TW.isQ h hq
  | IsNot =>
    obtain ⟨t', h', rfl⟩ := Option.map_eq_some_iff.mp h
    exact TW.isNotQ h' hq
  | Eq => exact TW.cmpL (f := S.listEq) h hq fun x y h A β s r F I => (listEq_ok r I h).1 ⟨S, hq, I⟩
  | NotEq =>
    refine TW.cmpL (f := fun x y => (S.listEq x y).map (!·)) h hq fun x y h A β s r F I => ?_
    obtain ⟨t', h', rfl⟩ := Option.map_eq_some_iff.mp h
    exact (listEq_ok r I h').2 ⟨S, hq, I⟩
  | _ => exact TW.cmpL (f := fun _ _ => none) h hq nofun
theorem of_ite {α : Type} {p : Prop} [Decidable p] {x y : α} (h : (if p then some x else none) = some y) : p ∧ x = y := by
  by_cases q : p
  · rw [if_pos q] at h; exact ⟨q, Option.some.inj h⟩
  · rw [if_neg q] at h; cases h
theorem TW.binI {op : Operator} {a b : Value} {i j n : Int} {Q : AV → Sto → Prop} (ha : er a = .int i) (hb : er b = .int j) (h : Mine.binI op i j = some n) : Q (.int n) S → TW c k env m (binaryOp op a b) (fun u => Q (er u)) S := by
  obtain ⟨x, rfl⟩ := er_int ha
  obtain ⟨y, rfl⟩ := er_int hb
  refine Ans.of (P := fun n => Q (.int n) S → TW c k env m (binaryOp op (.int i x) (.int j y)) (fun u => Q (er u)) S) ?_ h
  clear h ha hb
  cases op with
  | Add => exact fun hq A β s r F I => P.add_int ⟨S, hq, I.toks _⟩
  | Sub => exact fun hq A β s r F I => P.sub_int ⟨S, hq, I.toks _⟩
  | Mod => exact Ans.ite fun hj hq A β s r F I => PyProof.Rows.mod_int' hj ⟨S, hq, I.toks _⟩
  | FloorDiv => exact Ans.ite fun hj hq A β s r F I => PyProof.Rows.floordiv_int hj.1 ⟨S, hq, I.toks _⟩ (Or.inl (PyProof.noPylong_small hj.2))
  | _ => exact trivial
theorem TW.neg {a : Value} {i : Int} {Q : AV → Sto → Prop} (ha : er a = .int i) (hq : Q (.int (-i)) S) : TW c k env m (unaryOp .USub a) (fun u => Q (er u)) S := by
  obtain ⟨x, rfl⟩ := er_int ha
  exact fun A β s r F I => P.neg_int ⟨S, hq, I.toks _⟩
noncomputable def itemL (xs : List AV) (i : Int) : Option AV := if 0 ≤ i then xs[i.toNat]? else if -(xs.length : Int) ≤ i then xs[(i + xs.length).toNat]? else none
noncomputable def Sto.itemAt (S : Sto) (a : Addr) (i : Int) : Option AV := match S.ls a with
  | some xs => itemL xs i
  | none => (S.dt a).bind fun es => getE es i
noncomputable def Sto.item (S : Sto) (o i : AV) : Option AV := o.ref?.bind fun a => i.int?.bind fun j => S.itemAt a j
noncomputable def Sto.setItemAt (S : Sto) (a : Addr) (i : Int) (v : AV) : Option Sto := match S.ls a with
  | some xs => if 0 ≤ i ∧ i < xs.length then some (S.setLs a (xs.set i.toNat v)) else none
  | none => (S.dt a).bind fun es => if es.length < 1000 then some (S.setDt a (putE es i v)) else none
noncomputable def Sto.setItem (S : Sto) (o i v : AV) : Option Sto := o.ref?.bind fun a => i.int?.bind fun j => S.setItemAt a j v
theorem sub_tail {A : Around} {s : Shared} {value slice : Expr} {o i : Value} {T id : String} {Q : Value → Shared → Prop} (hT : s.TypeIs o T)
    (hl : typeLookup (.type T) "__getitem__" = pure (some (.builtin id))) (h : wpAny c.M A (getItem o i) Q NoE s) : wpAny c.M A (subscriptTail value slice o i) Q NoE s := by
  unfold subscriptTail
  refine wpAny_bind ?_
  rw [getitemInPython_of_ne hT.not_modules]
  refine wpAny_bind (wpAny_specialOf hT hl ?_)
  have e : ∃ vs, subscripted slice false o i = operate vs (getItem o i) := by
    cases slice with
    | Slice _ _ st _ => cases st <;> exact ⟨_, rfl⟩
    | _ => exact ⟨_, rfl⟩
  obtain ⟨vs, e⟩ := e
  have fin : wpAny c.M A (subscripted slice false o i) (fun r s₃ => wpAny c.M A (letTemporaryGo value o r >>= fun _ => pure r) Q NoE s₃) NoE s := by
    rw [e]
    exact wpAny_operating (wpAny_mono h (fun r s₃ h₃ => wpAny_bind (wpAny_letTemporaryGo (wpAny_pure h₃))) fun _ _ x => x)
  first
    | exact wpAny_pure (wpAny_bind fin)
    | exact wpAny_bind (wpAny_pure (wpAny_bind fin))
    | exact wpAny_bind fin
theorem get_map {items : Array Value} {xs : List AV} {j : Nat} {v : AV} (hm : items.toList.map er = xs) (h : xs[j]? = some v) : ∃ u, items[j]? = some u ∧ er u = v := by
  rw [← hm, List.getElem?_map] at h
  obtain ⟨u, hu, e⟩ := Option.map_eq_some_iff.mp h
  exact ⟨u, by rw [← hu]; simp, e⟩
theorem small_lt {j : Int} {n : Nat} (h0 : 0 ≤ j) (h : j.toNat < n) (hz : n ≤ 1000) : j < 2 ^ 63 := Int.lt_of_lt_of_le ((Int.toNat_lt h0).mp (Nat.lt_of_lt_of_le h hz)) (by decide)
theorem TW.item {value slice : Expr} {o i : Value} {v : AV} {Q : AV → Sto → Prop} (h : S.item (er o) (er i) = some v) (hq : Q v S) : TW c k env m (subscriptTail value slice o i) (fun u => Q (er u)) S := by
  intro A β s r F I
  obtain ⟨a, ha, h⟩ := Option.bind_eq_some_iff.mp h
  obtain ⟨j, hj, h0⟩ := Option.bind_eq_some_iff.mp h
  clear h
  obtain rfl := er_ref (ref?_eq ha)
  obtain ⟨tk, rfl⟩ := er_int (int?_eq hj)
  clear ha hj
  cases hx : S.ls a with
  | some xs =>
    have h : itemL xs j = some v := by unfold Sto.itemAt at h0; rw [hx] at h0; exact h0
    obtain ⟨hz, items, hp, hm⟩ := I.list hx
    have hsz : items.size = xs.length := by rw [← hm, List.length_map, Array.length_toList]
    refine sub_tail hp.isList.typeIs slot_list_getitem.lookup ?_
    clear h0
    by_cases h0 : 0 ≤ j
    · have h : xs[j.toNat]? = some v := (if_pos h0).symm.trans h
      have lt := (List.getElem?_eq_some_iff.mp h).1
      obtain ⟨u, hu, rfl⟩ := get_map hm h
      exact wpAny_getItem_list hp.isList h0 (small_lt h0 lt hz) hu ⟨S, hq, I⟩
    · have h : (if -(xs.length : Int) ≤ j then xs[(j + xs.length).toNat]? else none) = some v := (if_neg h0).symm.trans h
      by_cases h1 : -(xs.length : Int) ≤ j
      · obtain ⟨u, hu, rfl⟩ := get_map hm ((if_pos h1).symm.trans h)
        exact wpAny_getItem_list_neg hp.isList (Int.not_le.mp h0) (by rw [hsz]; exact h1) (by omega) (by rw [hsz]; exact hu) ⟨S, hq, I⟩
      · cases (if_neg h1).symm.trans h
  | none =>
    have h : (S.dt a).bind (fun es => getE es j) = some v := by unfold Sto.itemAt at h0; rw [hx] at h0; exact h0
    obtain ⟨es, hx, h⟩ := Option.bind_eq_some_iff.mp h
    obtain ⟨_, _, kvs, hd, hm⟩ := I.dict hx
    refine sub_tail hd.typeIs slot_dict_getitem.lookup ?_
    rw [← hm, getE_er] at h
    obtain ⟨u, hu, rfl⟩ := Option.map_eq_some_iff.mp h
    exact wpAny_getItem_of (intKind_is c.prog c.w j tk) hd.mapOf hu ⟨S, hq, I.toks _⟩
theorem TW.setItem {o i v : Value} {S' : Sto} {Q : Unit → Sto → Prop} (h : S.setItem (er o) (er i) (er v) = some S') (hq : Q () S') : TW c k env m (PySem.setItem o i v) Q S := by
  intro A β s r F I
  obtain ⟨a, ha, h⟩ := Option.bind_eq_some_iff.mp h
  obtain ⟨j, hj, h0⟩ := Option.bind_eq_some_iff.mp h
  clear h
  obtain rfl := er_ref (ref?_eq ha)
  obtain ⟨tk, rfl⟩ := er_int (int?_eq hj)
  clear ha hj
  cases hx : S.ls a with
  | some xs =>
    have h : (if 0 ≤ j ∧ j < xs.length then some (S.setLs a (xs.set j.toNat (er v))) else none) = some S' := by unfold Sto.setItemAt at h0; rw [hx] at h0; exact h0
    obtain ⟨hi, rfl⟩ := of_ite h
    obtain ⟨hz, items, ⟨n, hp⟩, hm⟩ := I.list hx
    have hsz : items.size = xs.length := by rw [← hm, List.length_map, Array.length_toList]
    refine ki_setAt hp hi.1 (small_lt hi.1 ((Int.toNat_lt hi.1).mpr hi.2) hz) (by rw [hsz]; exact hi.2) ⟨_, hq, I.setLs hx (Heap.SameBut.update ..).extBut ⟨by rw [List.length_set]; exact hz, items.setIfInBounds j.toNat v, ⟨n, ?_⟩, ?_⟩⟩
    · have q := PySem.IsL.update hp (·.setIfInBounds j.toNat v)
      rw [if_pos (by simp)] at q
      exact q
    · rw [Array.toList_setIfInBounds, List.map_set, hm]
  | none =>
    have h : (S.dt a).bind (fun es => if es.length < 1000 then some (S.setDt a (putE es j (er v))) else none) = some S' := by unfold Sto.setItemAt at h0; rw [hx] at h0; exact h0
    obtain ⟨es, hx, h⟩ := Option.bind_eq_some_iff.mp h
    obtain ⟨hlt, rfl⟩ := of_ite h
    obtain ⟨hsm, hz, kvs, hd, hm⟩ := I.dict hx
    have hk : kvs.length ≤ 1000 := by rw [← hm, List.length_map] at hz; exact hz
    refine wpAny_setItem_pairs (intKind_is c.prog c.w j tk) hd (fun h' hd' hs => ⟨_, hq, I.setDt hx hs.extBut ⟨hsm, Nat.le_trans (putE_length ..) hlt, _, hd', ?_⟩⟩) (by first | exact sl_le hk | exact sl_le (Nat.succ_le_succ hk))
    rw [← hm]; exact putE_er kvs j v
end
end
section
noncomputable def EWs (c : Cst) (k : Nat) (m : Loc) (e : PySem.Expr) (Q : AV → Sto → Prop) (S : Sto) : Prop := ∀ env, TW c k env m (eval e env) (fun v => Q (er v)) S
noncomputable def TWs (c : Cst) (k : Nat) (m : Loc) (e : PySem.Expr) (Q : Bool → Sto → Prop) (S : Sto) : Prop := ∀ env, TW c k env m (isTrue e env (eval e env)) Q S
noncomputable abbrev FE := PySem.Expr → (AV → Sto → Prop) → Sto → Prop
noncomputable abbrev FT := PySem.Expr → (Bool → Sto → Prop) → Sto → Prop
noncomputable def isOr : PySem.BoolOp → Bool
  | .Or => true
  | .And => false
noncomputable def wpBool (f : FE) (op : PySem.BoolOp) : List PySem.Expr → (AV → Sto → Prop) → Sto → Prop
  | [], _, _ => False
  | [e], Q, S => f e Q S
  | e :: es, Q, S => f e (fun v S' => ∃ b, v = .bool b ∧ (b = isOr op → Q (.bool b) S') ∧ (b = !isOr op → wpBool f op es Q S')) S
noncomputable def wpTests (f : FT) (op : PySem.BoolOp) : List PySem.Expr → (Bool → Sto → Prop) → Sto → Prop
  | [], Q, S => Q (!isOr op) S
  | e :: es, Q, S => f e (fun b S' => (b = isOr op → Q b S') ∧ (b = !isOr op → wpTests f op es Q S')) S
noncomputable def wpEs (f : FE) : List PySem.Expr → (List AV → Sto → Prop) → Sto → Prop
  | [], Q, S => Q [] S
  | e :: es, Q, S => f e (fun v S' => wpEs f es (fun vs S'' => Q (v :: vs) S'') S') S
noncomputable def plainBase (e : PySem.Expr) : Bool := e.ctorIdx == 23 || e.ctorIdx == 20
noncomputable def isStar (e : PySem.Expr) : Bool := e.ctorIdx == 22
inductive PartC : Option PySem.Expr → Option Int → Prop
  | no : PartC none none
  | int (i : Int) (a : Nat) (p : Pos) : PartC (some (.Constant (.int i) a p)) (some i)
  | neg (i : Int) (a : Nat) (p q : Pos) : PartC (some (.UnaryOp .USub (.Constant (.int i) a p) q)) (some (-i))
noncomputable def partC : (e : Option PySem.Expr) → Option { l // PartC e l }
  | none => some ⟨_, .no⟩
  | some e => match e with
    | .Constant v _ _ => (match v with
      | .int _ => some ⟨_, .int _ _ _⟩
      | _ => none)
    | .UnaryOp op x _ => (match op with
      | .USub => (match x with
        | .Constant v _ _ => (match v with
          | .int _ => some ⟨_, .neg _ _ _ _⟩
          | _ => none)
        | _ => none)
      | _ => none)
    | _ => none
inductive Sliced (xs : List AV) : Option Int → Option Int → Option Int → List AV → Prop
  | rev : Sliced xs none none (some (-1)) xs.reverse
  | take (h : Int) : 0 ≤ h → Sliced xs none (some h) none (xs.take h.toNat)
  | drop (l : Int) : 0 ≤ l → Sliced xs (some l) none none (xs.drop l.toNat)
theorem sl_rev {xs ys : List AV} (e : xs.reverse = ys) : Sliced xs none none (some (-1)) ys := e ▸ .rev
noncomputable def isSlice (e : PySem.Expr) : Bool := e.ctorIdx == 26
section
variable {c : Cst} {k : Nat} {env : Env} {m : Loc} {S : Sto}
theorem star_each : ∀ {args : List PySem.Expr}, args.any isStar = false → ∀ (pos : Pos) (env : Env), backTo pos (starEach args env) = args.map fun e => (false, eval e env)
  | [], _, _, _ => rfl
  | e :: es, h, pos, env => by
    rw [List.any_cons, Bool.or_eq_false_iff] at h
    have ih := star_each h.2 pos env
    have e1 : starEach (e :: es) env = (false, eval e env) :: starEach es env := by
      have h1 := h.1
      clear h ih
      cases e <;> first | rfl | exact ff h1.symm
    rw [e1]
    unfold backTo at ih ⊢
    rw [List.map_cons, ih]
    rfl
theorem spliced_soundL {f : FE} (hf : ∀ e Q S, f e Q S → EWs c k m e Q S) : ∀ {args : List PySem.Expr} {Q : List AV → Sto → Prop} {S : Sto}, wpEs f args Q S →
    TW c k env m (spliced (args.map fun e => (false, eval e env))) (fun vs S' => vs.length = args.length ∧ Q (vs.map er) S') S
  | [], _, _, h => TW.splicedNil ⟨rfl, h⟩
  | e :: es, Q, S, h => by
    refine TW.splicedCons ((hf e _ S h env).mono fun v S' h' => ?_)
    exact (spliced_soundL hf (Q := fun vs S'' => Q (er v :: vs) S'') h').mono fun vs S'' h'' => ⟨congrArg Nat.succ h''.1, h''.2⟩
theorem spliced_sound {f : FE} (hf : ∀ e Q S, f e Q S → EWs c k m e Q S) {args : List PySem.Expr} {Q : List AV → Sto → Prop} {S : Sto} (h : wpEs f args Q S) :
    TW c k env m (spliced (args.map fun e => (false, eval e env))) (fun vs S' => Q (vs.map er) S') S :=
  (spliced_soundL hf h).mono fun _ _ h' => h'.2
theorem any_false_map {α : Type} (args : List PySem.Expr) (g : PySem.Expr → α) : (args.map fun e => (false, g e)).any (·.1) = false := by
  rw [List.any_map]; simp
set_option backward.match.sparseCases true in
theorem bool_sound {f : FE} (hf : ∀ e Q S, f e Q S → EWs c k m e Q S) (pos : Pos) (op : PySem.BoolOp) : ∀ {es : List PySem.Expr} {Q : AV → Sto → Prop} {S : Sto}, wpBool f op es Q S →
    TW c k env m (boolOp pos op (evalEach es env)) (fun v => Q (er v)) S
  | [], _, _, h => h.elim
  | [e], Q, S, h => hf e Q S h env
  | e :: e2 :: es, Q, S, h => by
    show TW c k env m (do
      let v ← eval e env
      standAt pos
      let t ← holding [v] (truthy v)
      match op, t with
      | .And, false | .Or, true => pure v
      | _, _ => boolOp pos op (evalEach (e2 :: es) env)) _ S
    refine TW.bind ((hf e _ S h env).mono fun v S' h' => ?_)
    obtain ⟨b, hb, h1, h2⟩ := h'
    obtain rfl := er_bool hb
    refine TW.bind (TW.standAt (TW.bind (TW.holding (fun A β s r F I => wpAny_truthy_bool ⟨S', ?_, I⟩))))
    cases op <;> cases b
    · exact TW.pure (h1 rfl)
    · exact bool_sound hf pos .And (h2 rfl)
    · exact bool_sound hf pos .Or (h2 rfl)
    · exact TW.pure (h1 rfl)
set_option backward.match.sparseCases true in
theorem tests_sound {f : FT} (hf : ∀ e Q S, f e Q S → TWs c k m e Q S) (op : PySem.BoolOp) : ∀ {es : List PySem.Expr} {Q : Bool → Sto → Prop} {S : Sto}, wpTests f op es Q S →
    TW c k env m (allTrue op es env) Q S
  | [], Q, S, h => by cases op <;> exact TW.pure h
  | e :: es, Q, S, h => by
    show TW c k env m (do
      match op, ← isTrue e env (eval e env) with
      | .And, false => pure false
      | .Or, true => pure true
      | _, _ => allTrue op es env) Q S
    refine TW.bind ((hf e _ S h env).mono fun b S' h' => ?_)
    cases op <;> cases b
    · exact TW.pure (h'.1 rfl)
    · exact tests_sound hf .And (h'.2 rfl)
    · exact tests_sound hf .Or (h'.2 rfl)
    · exact TW.pure (h'.1 rfl)
theorem base_plain {o : PySem.Expr} (h : plainBase o = true) (a : Str) (t : Sem Value) : attributeBase o a env t = t := by
  cases o <;> first | rfl | exact ff h
theorem part_sound {pe : Option PySem.Expr} {lo : Option Int} {A : Around} {s : Shared} (h : PartC pe lo) {Q : Value → Shared → Prop} (hq : ∀ v t, IsPart v lo → Q v { s with toks := t }) : wpAny c.M A (evalPart pe env) Q NoE s := by
  cases h with
  | no => exact wpAny_pure (hq _ _ .none)
  | int i a p => exact wpAny_Constant_int (k := a) (pos := p) (hq _ _ (.int _ _))
  | neg i a p q => exact wpAny_UnaryOp (wpAny_Constant_int (P.neg_int (hq _ _ (.int _ _))))
theorem InvS.lst {β : Bas} {s : Shared} (I : InvS c β S s) {l : Addr} {xs : List AV} (h : S.lst l = some xs) :
    xs.length ≤ 1000 ∧ ∃ items : Array Value, s.heap.IsList l items ∧ items.toList.map er = xs := by
  unfold Sto.lst at h
  split at h
  · rename_i ys q
    cases h
    obtain ⟨hz, items, hp, hm⟩ := I.list q
    exact ⟨hz, items, hp.isList, hm⟩
  · obtain ⟨hz, items, ⟨o, ho, r⟩, hm⟩ := I.ro l xs h
    exact ⟨hz, items, ⟨o, I.keepB _ _ ho, r⟩, hm⟩
theorem slice_pick {items : Array Value} {xs : List AV} {lo hi st : Option Int} {ys : List AV} (hm : items.toList.map er = xs) (h : Sliced xs lo hi st ys) :
    st ≠ some 0 ∧ (slicePick items lo hi st).toList.map er = ys ∧ ys.length ≤ xs.length := by
  subst hm
  cases h with
  | rev => exact ⟨by decide, by rw [krv_pick, List.toList_toArray, List.map_reverse], by rw [List.length_reverse]; exact Nat.le_refl _⟩
  | take z h0 =>
    refine ⟨nofun, ?_, by rw [List.length_take]; exact Nat.min_le_right _ _⟩
    rw [kms_pick_eq, List.toList_toArray]
    unfold kms_pick kms_lo kms_hi
    simp only [if_neg (show ¬ z < 0 from Int.not_lt.mpr h0)]
    rw [List.drop_zero, Nat.sub_zero, kmk_take_min, ← List.map_take]
  | drop z h0 =>
    refine ⟨nofun, ?_, by rw [List.length_drop]; exact Nat.sub_le _ _⟩
    rw [kms_pick_eq, List.toList_toArray]
    unfold kms_pick kms_lo kms_hi
    simp only [if_neg (show ¬ z < 0 from Int.not_lt.mpr h0)]
    rw [kmk_drop_min, ← List.map_drop, List.map_take]
    exact List.take_of_length_le (by rw [List.map_drop, List.length_drop, List.length_map, Array.length_toList]; exact Nat.sub_le_sub_left (Nat.min_le_left _ _) _)
theorem slice_sound {f : FE} (hf : ∀ e Q S, f e Q S → EWs c k m e Q S) {o : PySem.Expr} {lo hi st : Option PySem.Expr} {sp p : Pos} {Q : AV → Sto → Prop}
    (h : f o (fun ov S' => ∃ a xs l h s ys, ov = .ref a ∧ S'.lst a = some xs ∧ PartC lo l ∧ PartC hi h ∧ PartC st s ∧ Sliced xs l h s ys ∧ ∀ l, S'.Free l → Q (.ref l) (S'.setLs l ys)) S) :
    TW c k env m (eval (.Subscript o (.Slice lo hi st sp) p) env) (fun v => Q (er v)) S := by
  intro A β s r F I
  refine Subscript_ (wpAny_mono (hf _ _ _ h env A β s r F I) (fun ov s1 h1 => ?_) fun _ _ e => e)
  obtain ⟨S', ⟨a, xs, l, h, st', ys, hov, hx, p1, p2, p3, hy, hq⟩, I1⟩ := h1
  obtain rfl := er_ref hov
  obtain ⟨hz, items, hl, hm⟩ := I1.lst hx
  refine wpAny_Slice (part_sound p1 fun v1 t1 i1 => part_sound p2 fun v2 t2 i2 => part_sound p3 fun v3 t3 i3 => ?_)
  obtain ⟨h0, hp, hle⟩ := slice_pick hm hy
  have hsz : items.size ≤ 1000 := by rw [← hm] at hz; simpa using hz
  have gr : ∀ b ob, s1.heap.get? b = some ob → (s1.heap.push { cls := .type "slice", data := .fields #[v1, v2, v3] }).get? b = some ob := fun b ob e => Heap.get?_push_of_some _ e
  have I2 : InvS c β S' { s1 with heap := s1.heap.push { cls := .type "slice", data := .fields #[v1, v2, v3] }, toks := t3 } := (I1.toks t3).grow gr
  have hl2 : (s1.heap.push { cls := .type "slice", data := .fields #[v1, v2, v3] }).IsList a items := hl.push _
  refine sub_tail (T := "list") hl2.typeIs slot_list_getitem.lookup (wpAny_getItem_list_slice hl2 (Heap.IsSliceOf.new ..) i1 i2 i3 h0 ?_ (sl_le hsz))
  have hys : ys.length ≤ 1000 := Nat.le_trans hle hz
  have I3 := I2.newLs (slicePick items l h st').toList (by rw [← List.length_map (f := er), hp]; exact hys)
  rw [hp] at I3
  refine ⟨_, hq _ (I2.free (Nat.le_refl _)), ?_⟩
  simpa using I3
end
end
section
section
variable {c : Cst} {k : Nat} {env : Env} {m : Loc} {S : Sto}
theorem attr_sound {f : FE} (hf : ∀ e Q S, f e Q S → EWs c k m e Q S) {o : PySem.Expr} {a : Str} {p : Pos} {Q : AV → Sto → Prop} (hb : plainBase o = true)
    (h : f o (fun ov S' => ∃ v, S'.getA ov a = some v ∧ Q v S') S) : TW c k env m (eval (.Attribute o a p) env) (fun v => Q (er v)) S := by
  rw [arm_eval_Attribute, base_plain hb]
  refine TW.bind ((hf _ _ _ h env).mono fun ov S' h' => ?_)
  obtain ⟨v, hv, hq⟩ := h'
  exact TW.bind (TW.standAt (TW.bind (TW.holding ((TW.getAttr (Q := fun v' S'' => v' = v ∧ S'' = S') hv ⟨rfl, rfl⟩).mono fun u S'' hu => TW.bind (TW.letTemp (TW.pure (by obtain ⟨rfl, rfl⟩ := hu; exact hq)))))))
theorem marks_no {op : CmpOp} (h : (op == CmpOp.In || op == CmpOp.NotIn) = false) (r : PySem.Expr) : behindInMarks op r = false := by
  cases r with
  | Set elts k p => show (k == 0 && (op == CmpOp.In || op == CmpOp.NotIn) && elts.all (constantsAlone 8)) = false; rw [h, Bool.and_false, Bool.false_and]
  | _ => rfl
theorem cmp_eval {l r : PySem.Expr} {op : CmpOp} {p : Pos} (h : op ≠ .In ∧ op ≠ .NotIn) : markedEach [op] [r] (evalEach [r] env) = [eval r env] := by
  show [markedBehindIn op r (eval r env)] = _
  rw [markedBehindIn_of_false (marks_no (by cases op <;> first | rfl | exact absurd rfl h.1 | exact absurd rfl h.2) r)]
theorem compare_sound {f : FE} (hf : ∀ e Q S, f e Q S → EWs c k m e Q S) {l r : PySem.Expr} {op : CmpOp} {p : Pos} {Q : AV → Sto → Prop} (ho : op ≠ .In ∧ op ≠ .NotIn)
    (h : f l (fun a S' => f r (fun b S'' => ∃ t, S''.cmp op a b = some t ∧ Q (.bool t) S'') S') S) : TW c k env m (eval (.Compare l [op] [r] p) env) (fun v => Q (er v)) S := by
  rw [arm_eval_Compare, cmp_eval (l := l) (p := p) ho]
  refine TW.bind ((hf _ _ _ h env).mono fun lv S' h' => ?_)
  show TW c k env m (do
    let rv ← holding [lv] (eval r env)
    standAt p
    operate [lv, rv] (compareOp op lv rv)) _ _
  refine TW.bind (TW.holding ((hf _ _ _ h' env).mono fun rv S'' h'' => ?_))
  obtain ⟨t, ht, hq⟩ := h''
  exact TW.bind (TW.standAt (TW.operate (TW.cmp ht hq)))
theorem test_sound {f : FE} (hf : ∀ e Q S, f e Q S → EWs c k m e Q S) {l r : PySem.Expr} {op : CmpOp} {p : Pos} {Q : Bool → Sto → Prop} {w : Sem Value} (ho : op ≠ .In ∧ op ≠ .NotIn)
    (h : f l (fun a S' => f r (fun b S'' => ∃ t, S''.cmp op a b = some t ∧ Q t S'') S') S) : TW c k env m (isTrue (.Compare l [op] [r] p) env w) Q S := by
  have e : isTrue (.Compare l [op] [r] p) env w = (do testChain p (← eval l env) [op] (markedEach [op] [r] (evalEach [r] env))) := rfl
  rw [e, cmp_eval (l := l) (p := p) ho]
  refine TW.bind ((hf _ _ _ h env).mono fun lv S' h' => ?_)
  show TW c k env m (do
    let rv ← holding [lv] (eval r env)
    standAt p
    let c ← operate [lv, rv] (compareOp op lv rv)
    holding [c] (truthy c)) _ _
  refine TW.bind (TW.holding ((hf _ _ _ h' env).mono fun rv S'' h'' => ?_))
  obtain ⟨t, ht, hq⟩ := h''
  refine TW.bind (TW.standAt (TW.bind (TW.operate ((TW.cmp (Q := fun v' S3 => v' = .bool t ∧ S3 = S'') ht ⟨rfl, rfl⟩).mono fun u S3 hu => ?_))))
  obtain ⟨hu, rfl⟩ := hu
  obtain rfl := er_bool hu
  exact TW.holding fun A β s r F I => wpAny_truthy_bool ⟨_, hq, I⟩
theorem plainTest_sound {f : FE} (hf : ∀ e Q S, f e Q S → EWs c k m e Q S) {e : PySem.Expr} {Q : Bool → Sto → Prop}
    (he : ∀ w, isTrue e env w = (do let v ← w; standAt e.pos; holding [v] (truthy v)))
    (h : f e (fun v S' => ∃ b, v = .bool b ∧ Q b S') S) : TW c k env m (isTrue e env (eval e env)) Q S := by
  rw [he]
  refine TW.bind ((hf _ _ _ h env).mono fun v S' h' => ?_)
  obtain ⟨b, hb, hq⟩ := h'
  obtain rfl := er_bool hb
  exact TW.bind (TW.standAt (TW.holding fun A β s r F I => wpAny_truthy_bool ⟨_, hq, I⟩))
theorem call_sound {f : FE} (hf : ∀ e Q S, f e Q S → EWs c k m e Q S) {x : Str} {xp p : Pos} {args : List PySem.Expr} {Q : AV → Sto → Prop} (hx : m.lookup x = some .glob) (hs : args.any isStar = false)
    {fv : Value} (hv : GlobVal c x fv) (hk : KeepOk c fv) (h : wpEs f args (fun vs S' => CW c k fv vs Q S') S) : TW c k env m (eval (.Call (.Name x xp) args [] p) env) (fun v => Q (er v)) S := by
  rw [arm_eval_Call_Name']
  refine TW.bind (TW.gname hx hv ?_)
  show TW c k env m (PySem.callWith p fv [] (backTo p (starEach args env)) []) _ _
  rw [star_each hs]
  refine TW.callWith hk (any_false_map args fun e => eval e env) ((spliced_sound hf h).mono fun vs S' h' => ?_)
  intro A β s r F I
  exact h' A β s vs r I rfl
theorem keep_builtin (id : String) : KeepOk c (.builtin id) := fun h X => ⟨.machine, .inr (.inl rfl), Looks.of_pure rfl⟩
theorem method_sound {f : FE} (hf : ∀ e Q S, f e Q S → EWs c k m e Q S) {o : PySem.Expr} {meth : Str} {ap p : Pos} {args : List PySem.Expr} {Q : AV → Sto → Prop} (hb : plainBase o = true) (hl : (ap.endLine == p.line) = true)
    (hs : args.any isStar = false) (hn : args.length < 20)
    (h : f o (fun ov S' => ∃ a, ov = .ref a ∧
        (((∃ xs, S'.ls a = some xs) ∧ (lsId meth).isSome = true ∧ wpEs f args (fun vs S'' => ∃ xs, S''.ls a = some xs ∧ lsMeth meth a xs vs Q S'') S') ∨
         ((∃ es, S'.dt a = some es) ∧ (dtId meth).isSome = true ∧ wpEs f args (fun vs S'' => ∃ es, S''.dt a = some es ∧ dtMeth meth a es vs Q S'') S'))) S) :
    TW c k env m (eval (.Call (.Attribute o meth ap) args [] p) env) (fun v => Q (er v)) S := by
  rw [arm_eval_Call, base_plain hb]
  refine TW.bind ((hf _ _ _ h env).mono fun ov S' h' => TW.bind (TW.standAt ?_))
  obtain ⟨a, hov, h'⟩ := h'
  obtain rfl := er_ref hov
  have form : methodCallForm (args.length + ([] : List Keyword).length) (backTo p (starEach args env)) (backToKw p (keywordEach [] env)) = true := by
    rw [star_each hs]
    unfold methodCallForm
    have e1 : (args.map fun e => (false, eval e env)).all (fun x => !x.1) = true := by rw [List.all_map]; simp
    rw [e1]
    show (true && true && decide (args.length + 0 + 0 < 30)) = true
    simp; omega
  have pos : ∀ {α : Type} (g : Pos → Sem α), (methodCallPos true o env ap p >>= g) = g p := by
    intro α g
    unfold methodCallPos
    rw [hl]
    rfl
  unfold methodCall
  rw [form]
  have callee : ∀ (P : Value × List Value → Sto → Prop), (∃ id, ((lsId meth = some id ∧ ∃ xs, S'.ls a = some xs) ∨ (dtId meth = some id ∧ ∃ xs, S'.dt a = some xs)) ∧ P (.builtin id, [.ref a]) S') →
      TW c k env m (calleeOf true o env (.ref a) meth) P S' := by
    rintro P ⟨id, hid, hP⟩
    show TW c k env m (getMethod (.ref a) meth _) P S'
    intro A β s r F I
    rcases hid with ⟨hi, xs, hx⟩ | ⟨hi, xs, hx⟩
    · exact lsGetM I hx hi ⟨S', hP, I⟩
    · exact dtGetM I hx hi ⟨S', hP, I⟩
  rcases h' with ⟨⟨xs, hx⟩, hi, hargs⟩ | ⟨⟨xs, hx⟩, hi, hargs⟩
  · obtain ⟨id, hid⟩ := Option.isSome_iff_exists.mp hi
    refine TW.bind (TW.holding (callee _ ⟨id, .inl ⟨hid, xs, hx⟩, ?_⟩))
    dsimp only
    rw [pos, star_each hs]
    refine TW.callWith (keep_builtin id) (any_false_map args fun e => eval e env) ((spliced_sound hf hargs).mono fun vs S'' h'' => ?_)
    obtain ⟨ys, hy, hm⟩ := h''
    intro A β s r F I
    exact lsMeth_ok I hy hid hm
  · obtain ⟨id, hid⟩ := Option.isSome_iff_exists.mp hi
    refine TW.bind (TW.holding (callee _ ⟨id, .inr ⟨hid, xs, hx⟩, ?_⟩))
    dsimp only
    rw [pos, star_each hs]
    refine TW.callWith (keep_builtin id) (any_false_map args fun e => eval e env) ((spliced_sound hf hargs).mono fun vs S'' h'' => ?_)
    obtain ⟨ys, hy, hm⟩ := h''
    intro A β s r F I
    exact dtMeth_ok I hy hid hm
theorem ifexp_sound {f : FE} {g : FT} (hf : ∀ e Q S, f e Q S → EWs c k m e Q S) (hg : ∀ e Q S, g e Q S → TWs c k m e Q S) {t a b : PySem.Expr} {p : Pos} {Q : AV → Sto → Prop}
    (h : g t (fun x S' => (x = true → f a Q S') ∧ (x = false → f b Q S')) S) : TW c k env m (eval (.IfExp t a b p) env) (fun v => Q (er v)) S := by
  rw [arm_eval_IfExp]
  refine TW.bind ((hg _ _ _ h env).mono fun x S' h' => ?_)
  cases x
  · exact hf _ _ _ (h'.2 rfl) env
  · exact hf _ _ _ (h'.1 rfl) env
theorem binop_sound {f : FE} (hf : ∀ e Q S, f e Q S → EWs c k m e Q S) {l r : PySem.Expr} {op : PySem.Operator} {p : Pos} {Q : AV → Sto → Prop}
    (h : f l (fun a S' => f r (fun b S'' => ∃ i j q, a = .int i ∧ b = .int j ∧ binI op i j = some q ∧ Q (.int q) S'') S') S) : TW c k env m (eval (.BinOp l op r p) env) (fun v => Q (er v)) S := by
  show TW c k env m (do
    let a ← eval l env
    let b ← holding [a] (eval r env)
    standAt p
    operate [a, b] (binaryOp op a b)) _ _
  refine TW.bind ((hf _ _ _ h env).mono fun lv S' h' => TW.bind (TW.holding ((hf _ _ _ h' env).mono fun rv S'' h'' => ?_)))
  obtain ⟨i, j, q, h1, h2, h3, hq⟩ := h''
  exact TW.bind (TW.standAt (TW.operate (TW.binI h1 h2 h3 hq)))
theorem unary_sound {f : FE} (hf : ∀ e Q S, f e Q S → EWs c k m e Q S) {x : PySem.Expr} {p : Pos} {Q : AV → Sto → Prop} :
    (f x (fun v S' => ∃ b, v = .bool b ∧ Q (.bool !b) S') S → TW c k env m (eval (.UnaryOp .Not x p) env) (fun v => Q (er v)) S) ∧
    (f x (fun v S' => ∃ i, v = .int i ∧ Q (.int (-i)) S') S → TW c k env m (eval (.UnaryOp .USub x p) env) (fun v => Q (er v)) S) := by
  constructor
  · intro h
    show TW c k env m (do let v ← eval x env; standAt p; holding [v] (unaryOp .Not v)) _ _
    refine TW.bind ((hf _ _ _ h env).mono fun v S' h' => TW.bind (TW.standAt (TW.holding ?_)))
    obtain ⟨b, hb, hq⟩ := h'
    obtain rfl := er_bool hb
    intro A β s r F I
    exact not_of (wpAny_truthy_bool ⟨S', hq, I⟩)
  · intro h
    show TW c k env m (do let v ← eval x env; standAt p; holding [v] (unaryOp .USub v)) _ _
    refine TW.bind ((hf _ _ _ h env).mono fun v S' h' => TW.bind (TW.standAt (TW.holding ?_)))
    obtain ⟨i, hb, hq⟩ := h'
    exact TW.neg hb hq
theorem disp_sound {f : FE} (hf : ∀ e Q S, f e Q S → EWs c k m e Q S) {es : List PySem.Expr} {n : Nat} {p : Pos} {Q : AV → Sto → Prop} (hs : es.any isStar = false) (hz : es.length ≤ 1000) :
    (wpEs f es (fun vs S' => ∀ l, S'.Free l → Q (.ref l) (S'.setLs l vs)) S → TW c k env m (eval (.List es p) env) (fun v => Q (er v)) S) ∧
    (wpEs f es (fun vs S' => ∀ l, S'.Free l → Q (.ref l) (S'.setTp l vs)) S → TW c k env m (eval (.Tuple es n p) env) (fun v => Q (er v)) S) := by
  constructor
  · intro h
    rw [arm_eval_List, star_each hs]
    refine TW.bind (TW.standAt (TW.bind ((spliced_soundL hf h).mono fun vs S' h' => ?_)))
    exact TW.newList (by rw [h'.1]; exact hz) h'.2
  · intro h
    rw [arm_eval_Tuple, star_each hs]
    refine TW.bind (TW.standAt (TW.bind ((spliced_soundL hf h).mono fun vs S' h' => ?_)))
    exact TW.newTuple (by rw [h'.1]; exact hz) h'.2
end
end
section
inductive Fl where
  | next | brk | cont
  | ret (v : AV)
noncomputable def erF : Flow → Fl
  | .next => .next
  | .brk => .brk
  | .cont => .cont
  | .ret v => .ret (er v)
noncomputable def fa (env : Env) : List Addr := env.locals :: env.cells.map (·.2)
noncomputable def pushB (β : Bas) (h : Heap) (as : List Addr) : Bas := fun a => if a ∈ as then h.get? a else β a
structure Inv (c : Cst) (β : Bas) (env : Env) (m : Loc) (S : Sto) (s : Shared) : Prop where
  base : ∀ a o, c.B.heap.get? a = some o → β a = some o
  fresh : ∀ a ∈ fa env, β a = none
  nodup : (fa env).Nodup
  alive : ∀ a ∈ fa env, ∃ o, s.heap.get? a = some o
  frame : FrameIn s.heap.get? env m
  inv : InvS c (pushB β s.heap (fa env)) S s
noncomputable def setV (x : Str) (v : AV) : Loc → Option Loc
  | [] => none
  | (y, b) :: r => if x == y then (match b with
      | .var _ => some ((y, .var (some v)) :: r)
      | .cell _ => some ((y, .cell (some v)) :: r)
      | _ => none) else (setV x v r).map ((y, b) :: ·)
theorem setV_spec {x : Str} {v : AV} : ∀ {m m' : Loc}, setV x v m = some m' →
    ((∃ w, m.lookup x = some (.var w)) ∧ ∀ y, m'.lookup y = if y = x then some (.var (some v)) else m.lookup y) ∨
    ((∃ w, m.lookup x = some (.cell w)) ∧ ∀ y, m'.lookup y = if y = x then some (.cell (some v)) else m.lookup y)
  | [], m', h => by cases h
  | (z, b) :: r, m', h => by
    unfold setV at h
    split at h
    · rename_i q
      obtain rfl := eq_of_beq q
      split at h
      · cases h
        refine .inl ⟨⟨_, List.lookup_cons_self⟩, fun y => ?_⟩
        by_cases hy : y = x
        · subst hy; simp
        · simp [List.lookup, beq_eq_false_iff_ne.mpr hy, hy]
      · cases h
        refine .inr ⟨⟨_, List.lookup_cons_self⟩, fun y => ?_⟩
        by_cases hy : y = x
        · subst hy; simp
        · simp [List.lookup, beq_eq_false_iff_ne.mpr hy, hy]
      · cases h
    · rename_i q
      have q' : (x == z) = false := by simpa using q
      obtain ⟨r', hr, rfl⟩ := Option.map_eq_some_iff.mp h
      have ne : ¬ z = x := fun e => by subst e; simp at q
      have step : ∀ y, ((z, b) :: r').lookup y = if y = z then some b else r'.lookup y := fun y => by
        by_cases hy : y = z
        · subst hy; simp
        · simp [List.lookup, beq_eq_false_iff_ne.mpr hy, hy]
      have step2 : ∀ y, ((z, b) :: r).lookup y = if y = z then some b else r.lookup y := fun y => by
        by_cases hy : y = z
        · subst hy; simp
        · simp [List.lookup, beq_eq_false_iff_ne.mpr hy, hy]
      have xz : ¬ x = z := fun e => ne e.symm
      rcases setV_spec hr with ⟨⟨w, h1⟩, h2⟩ | ⟨⟨w, h1⟩, h2⟩
      · refine .inl ⟨⟨w, by rw [step2, if_neg xz]; exact h1⟩, fun y => ?_⟩
        rw [step, step2, h2]
        by_cases hy : y = z
        · subst hy; simp [ne]
        · simp [hy]
      · refine .inr ⟨⟨w, by rw [step2, if_neg xz]; exact h1⟩, fun y => ?_⟩
        rw [step, step2, h2]
        by_cases hy : y = z
        · subst hy; simp [ne]
        · simp [hy]
section
variable {c : Cst} {k : Nat} {β : Bas} {env : Env} {m : Loc} {S : Sto} {s : Shared}
theorem pushB_in {h : Heap} {as : List Addr} {a : Addr} (q : a ∈ as) : pushB β h as a = h.get? a := if_pos q
theorem pushB_out {h : Heap} {as : List Addr} {a : Addr} (q : a ∉ as) : pushB β h as a = β a := if_neg q
theorem Inv.touch {h' : Heap} {t : Nat} {m' : Loc} {x : Addr} (I : Inv c β env m S s) (hx : x ∈ fa env) (hs : Heap.ExtBut x s.heap h') (ha : ∃ o, h'.get? x = some o) (hF : FrameIn h'.get? env m') :
    Inv c β env m' S { s with heap := h', toks := t } where
  base := I.base
  fresh := I.fresh
  nodup := I.nodup
  alive := fun a ha' => by
    by_cases z : a = x
    · subst z; exact ha
    · obtain ⟨o, e⟩ := I.alive a ha'; exact ⟨o, hs a o z e⟩
  frame := hF
  inv := by
    obtain ⟨g, o, b, ro, σ, L, e⟩ := I.inv
    have un : ∀ a ob, σ a = some ob → a ∉ fa env := fun a ob q z => by
      have := L.apart a ob q
      rw [pushB_in z] at this
      obtain ⟨ob', h2⟩ := (L.rep a ob q).alive
      rw [this] at h2; cases h2
    refine ⟨g, o, fun a ob q => ?_, ro, σ, ⟨fun a ob q => ?_, fun a ob q => ?_, fun a ob q => ?_⟩, e⟩
    · have z := I.base a ob q
      rw [pushB_out]
      · exact z
      · intro y; rw [I.fresh a y] at z; cases z
    · by_cases y : a ∈ fa env
      · rw [pushB_in y] at q; exact q
      · rw [pushB_out y] at q
        exact hs a ob (fun w => by subst w; exact y hx) (L.keep a ob (by rw [pushB_out y]; exact q))
    · exact (L.rep a ob q).at fun ob' => hs a ob' (fun w => by subst w; exact un a ob q hx)
    · rw [pushB_out (un a ob q)]
      have := L.apart a ob q
      rwa [pushB_out (un a ob q)] at this
theorem Inv.weaken {β' : Bas} (I : Inv c β' env m S s) (hb : ∀ a o, c.B.heap.get? a = some o → β a = some o) (h : ∀ a o, β a = some o → β' a = some o) : Inv c β env m S s where
  base := hb
  fresh := fun a ha => by
    cases q : β a with
    | none => rfl
    | some o => have := h a o q; rw [I.fresh a ha] at this; cases this
  nodup := I.nodup
  alive := I.alive
  frame := I.frame
  inv := by
    obtain ⟨g, o, b, ro, σ, L, e⟩ := I.inv
    have up : ∀ a ob, pushB β s.heap (fa env) a = some ob → pushB β' s.heap (fa env) a = some ob := fun a ob q => by
      by_cases y : a ∈ fa env
      · rw [pushB_in y] at q ⊢; exact q
      · rw [pushB_out y] at q ⊢; exact h a ob q
    refine ⟨g, o, fun a ob q => ?_, ro, σ, ⟨fun a ob q => L.keep a ob (up a ob q), L.rep, fun a ob q => ?_⟩, e⟩
    · by_cases y : a ∈ fa env
      · rw [pushB_in y]
        have := b a ob q
        rwa [pushB_in y] at this
      · rw [pushB_out y]; exact hb a ob q
    · cases z : pushB β s.heap (fa env) a with
      | none => rfl
      | some o' => have := up a o' z; rw [L.apart a ob q] at this; cases this
theorem Inv.expr {α : Type} {A : Around} {t : Sem α} {Q : α → Sto → Prop} (I : Inv c β env m S s) (r : Room A k) (h : TW c k env m t Q S) :
    wpAny c.M A t (fun v s' => ∃ S', Q v S' ∧ Inv c β env m S' s') NoE s := by
  have F : FrameIn (pushB β s.heap (fa env)) env m := by
    have F0 := I.frame
    refine ⟨F0.ok, F0.names, ?_, fun x v q => ?_, fun x v q => ?_, F0.glob⟩
    · obtain ⟨o, es, ep, mv, e, r⟩ := F0.loc
      exact ⟨o, es, ep, mv, by rw [pushB_in (by simp [fa])]; exact e, r⟩
    · obtain ⟨h, a, o, u, e1, e2, r⟩ := F0.cell x v q
      exact ⟨h, a, o, u, e1, by rw [pushB_in (by simp only [fa, List.mem_cons]; exact .inr (List.mem_map.mpr ⟨_, mem_of_lookup e1, rfl⟩))]; exact e2, r⟩
    · obtain ⟨h, a, o, u, e1, e2, r⟩ := F0.free x v q
      exact ⟨h, a, o, u, e1, by rw [pushB_in (by simp only [fa, List.mem_cons]; exact .inr (List.mem_map.mpr ⟨_, mem_of_lookup e1, rfl⟩))]; exact e2, r⟩
  refine wpAny_mono (h A _ s r F I.inv) (fun v s' ⟨S', hq, I'⟩ => ⟨S', hq, ?_⟩) fun _ _ e => e
  have keep := I'.keep
  have same : ∀ a, a ∈ fa env → ∀ o, s.heap.get? a = some o → s'.heap.get? a = some o := fun a ha o e => keep a o (by rw [pushB_in ha]; exact e)
  refine ⟨I.base, I.fresh, I.nodup, fun a ha => let ⟨o, e⟩ := I.alive a ha; ⟨o, same a ha o e⟩, ?_, ?_⟩
  · exact F.keeps fun a o e => keep a o e
  · obtain ⟨g, o, b, ro, σ, L, e⟩ := I'
    have eq : ∀ a ob, pushB β s'.heap (fa env) a = some ob → s'.heap.get? a = some ob := fun a ob q => by
      by_cases y : a ∈ fa env
      · rw [pushB_in y] at q; exact q
      · rw [pushB_out y] at q; exact L.keep a ob (by rw [pushB_out y]; exact q)
    refine ⟨g, o, fun a ob q => ?_, ro, σ, ⟨eq, L.rep, fun a ob q => ?_⟩, e⟩
    · have := I.base a ob q
      rw [pushB_out]
      · exact this
      · intro y; rw [I.fresh a y] at this; cases this
    · have z := L.apart a ob q
      by_cases y : a ∈ fa env
      · rw [pushB_in y] at z
        exfalso
        obtain ⟨o', e'⟩ := I.alive a y
        rw [e'] at z; cases z
      · rw [pushB_out y] at z ⊢; exact z
end
end
section
section
variable {c : Cst} {k : Nat} {β : Bas} {env : Env} {m : Loc} {S : Sto} {s : Shared}
theorem cells_inj (h : (env.cells.map (·.2)).Nodup) {x y : Str} {a : Addr} (h1 : env.cells.lookup x = some a) (h2 : env.cells.lookup y = some a) : x = y := by
  have m1 := mem_of_lookup h1
  have m2 := mem_of_lookup h2
  revert m1 m2 h
  generalize env.cells = l
  intro h m1 m2
  induction l with
  | nil => cases m1
  | cons p r ih =>
    rw [List.map_cons, List.nodup_cons] at h
    rcases List.mem_cons.mp m1 with e1 | m1
    · rcases List.mem_cons.mp m2 with e2 | m2
      · have := e1.trans e2.symm; cases this; rfl
      · exact absurd (List.mem_map.mpr ⟨_, m2, by rw [← e1]⟩) h.1
    · rcases List.mem_cons.mp m2 with e2 | m2
      · exact absurd (List.mem_map.mpr ⟨_, m1, by rw [← e2]⟩) h.1
      · exact ih h.2 m1 m2
theorem Inv.store {A : Around} {x : Str} {v : Value} {m' : Loc} {Q : Unit → Shared → Prop} (I : Inv c β env m S s) (h : setV x (er v) m = some m')
    (hq : ∀ s', Inv c β env m' S s' → Q () s') : wpAny c.M A (storeName env x v) Q NoE s := by
  obtain ⟨o, es, ep, mv, e1, e2, e3, e4, e5⟩ := I.frame.loc
  have nd := I.nodup
  unfold fa at nd
  rw [List.nodup_cons] at nd
  have cellMem : ∀ {y : Str} {a : Addr}, env.cells.lookup y = some a → a ∈ env.cells.map (·.2) := fun q => List.mem_map.mpr ⟨_, mem_of_lookup q, rfl⟩
  rcases setV_spec h with ⟨⟨w, h1⟩, h2⟩ | ⟨⟨w, h1⟩, h2⟩
  · obtain ⟨hk, _⟩ := e5 x w h1
    refine wpAny_storeName_local hk (m := mv) ⟨o, es, ep, e1, e2, e3, e4⟩ (fun h' N' hs => hq _ (I.touch (x := env.locals) (List.mem_cons_self) hs.extBut (let ⟨o, _, _, e, _⟩ := N'; ⟨o, e⟩) ?_)) ?_
    · have keep : ∀ a, a ∈ env.cells.map (·.2) → h'.get? a = s.heap.get? a := fun a ha => hs.2 a fun z => nd.1 (z ▸ ha)
      refine ⟨I.frame.ok, fun y b q => ?_, ?_, fun y b q => ?_, fun y b q => ?_, fun y q => ?_⟩
      · rw [h2] at q
        split at q
        · rename_i z; subst z; exact I.frame.names y _ h1
        · exact I.frame.names y b q
      · obtain ⟨o', es', ep', f1, f2, f3, f4⟩ := N'
        refine ⟨o', es', ep', _, f1, f2, f3, f4, fun y b q => ?_⟩
        rw [h2] at q
        split at q
        · rename_i z
          cases q
          subst z
          exact ⟨hk, fun w' hw => by cases hw; simp⟩
        · rename_i z
          obtain ⟨g1, g2⟩ := e5 y b q
          exact ⟨g1, fun w' hw => by simp only [if_neg z]; exact g2 w' hw⟩
      · rw [h2] at q
        split at q
        · cases q
        · obtain ⟨g1, a, o', u, g2, g3, g4⟩ := I.frame.cell y b q
          exact ⟨g1, a, o', u, g2, by rw [keep a (cellMem g2)]; exact g3, g4⟩
      · rw [h2] at q
        split at q
        · cases q
        · obtain ⟨g1, a, o', u, g2, g3, g4⟩ := I.frame.free y b q
          exact ⟨g1, a, o', u, g2, by rw [keep a (cellMem g2)]; exact g3, g4⟩
      · rw [h2] at q
        split at q
        · cases q
        · exact I.frame.glob y q
    · rw [I.frame.ok.kind]; rfl
  · obtain ⟨hk, a, oc, u, c1, c2, c3, c4⟩ := I.frame.cell x w h1
    refine wpAny_storeName_cell I.frame.ok.kind hk c1 ⟨oc, c2, c3⟩ fun h' hc hs => hq _ (I.touch (x := a) (t := s.toks) (List.mem_cons_of_mem _ (cellMem c1)) hs.extBut (let ⟨o, e, _⟩ := hc; ⟨o, e⟩) ?_)
    have keep : ∀ b, b ≠ a → h'.get? b = s.heap.get? b := fun b hb => hs.2 b hb
    refine ⟨I.frame.ok, fun y b q => ?_, ?_, fun y b q => ?_, fun y b q => ?_, fun y q => ?_⟩
    · rw [h2] at q
      split at q
      · rename_i z; subst z; exact I.frame.names y _ h1
      · exact I.frame.names y b q
    · refine ⟨o, es, ep, mv, by rw [keep env.locals (fun z : env.locals = a => nd.1 (by rw [z]; exact cellMem c1))]; exact e1, e2, e3, e4, fun y b q => ?_⟩
      rw [h2] at q
      split at q
      · cases q
      · exact e5 y b q
    · rw [h2] at q
      split at q
      · rename_i z
        cases q
        subst z
        obtain ⟨o', d1, d2⟩ := hc
        exact ⟨hk, a, o', some v, c1, d1, d2, fun w' hw => by cases hw; rfl⟩
      · rename_i z
        obtain ⟨g1, a', o', u', g2, g3, g4⟩ := I.frame.cell y b q
        exact ⟨g1, a', o', u', g2, by rw [keep a' fun zz => z (cells_inj nd.2 (zz ▸ g2) c1)]; exact g3, g4⟩
    · rw [h2] at q
      split at q
      · cases q
      · rename_i z
        obtain ⟨g1, a', o', u', g2, g3, g4⟩ := I.frame.free y b q
        exact ⟨g1, a', o', u', g2, by rw [keep a' fun zz => z (cells_inj nd.2 (zz ▸ g2) c1)]; exact g3, g4⟩
    · rw [h2] at q
      split at q
      · cases q
      · exact I.frame.glob y q
noncomputable def prot (β : Bas) (it : Addr) (h : Heap) : Bas := fun a => if a = it then h.get? it else β a
theorem Inv.guard {o : Obj} (I : Inv c β env m S s) (hf : o.isFreed = false) :
    Inv c (prot β s.heap.objs.size (s.heap.push o)) env m S { s with heap := s.heap.push o } ∧ s.heap.objs.size ∉ fa env ∧ β s.heap.objs.size = none ∧ c.B.heap.get? s.heap.objs.size = none := by
  have nf : s.heap.objs.size ∉ fa env := fun q => by obtain ⟨o', e⟩ := I.alive _ q; exact absurd (Heap.lt_size e) (Nat.lt_irrefl _)
  obtain ⟨g, os, b, ro, σ, L, e⟩ := I.inv
  have f := L.fresh (Nat.le_refl s.heap.objs.size)
  have hb : β s.heap.objs.size = none := by have := f.2; rwa [pushB_out nf] at this
  have hB : c.B.heap.get? s.heap.objs.size = none := by
    cases q : c.B.heap.get? s.heap.objs.size with
    | none => rfl
    | some o' => have := I.base _ _ q; rw [hb] at this; cases this
  refine ⟨⟨fun a ob q => ?_, fun a q => ?_, I.nodup, fun a q => ?_, ?_, g, os, fun a ob q => ?_, ro, σ, ⟨fun a ob q => ?_, fun a ob q => ?_, fun a ob q => ?_⟩, e⟩, nf, hb, hB⟩
  · unfold prot
    split
    · rename_i z; subst z; rw [hB] at q; cases q
    · exact I.base a ob q
  · unfold prot
    rw [if_neg (fun z : a = s.heap.objs.size => nf (by rw [← z]; exact q))]; exact I.fresh a q
  · obtain ⟨o', e'⟩ := I.alive a q; exact ⟨o', Heap.get?_push_of_some _ e'⟩
  · exact I.frame.keeps fun a ob q => Heap.get?_push_of_some _ q
  · have z := b a ob q
    by_cases y : a ∈ fa env
    · rw [pushB_in y] at z ⊢; exact Heap.get?_push_of_some _ z
    · rw [pushB_out y] at z ⊢
      unfold prot
      split
      · rename_i w; subst w; rw [hb] at z; cases z
      · exact z
  · by_cases y : a ∈ fa env
    · rw [pushB_in y] at q; exact q
    · rw [pushB_out y] at q
      unfold prot at q
      split at q
      · rename_i w; subst w; exact q
      · exact Heap.get?_push_of_some _ (L.keep a ob (by rw [pushB_out y]; exact q))
  · exact (L.rep a ob q).at fun ob' => Heap.get?_push_of_some _
  · have z := L.apart a ob q
    by_cases y : a ∈ fa env
    · rw [pushB_in y] at z
      obtain ⟨o', e'⟩ := I.alive a y
      rw [e'] at z; cases z
    · rw [pushB_out y] at z ⊢
      unfold prot
      split
      · rename_i w; subst w; rw [f.1] at q; cases q
      · exact z
theorem Inv.turn {it : Addr} {h' : Heap} {t : Nat} (I : Inv c (prot β it s.heap) env m S s) (hn : it ∉ fa env) (ho : ∃ o, s.heap.get? it = some o) (hB : c.B.heap.get? it = none) (hs : Heap.ExtBut it s.heap h') :
    (∃ o, h'.get? it = some o) → Inv c (prot β it h') env m S { s with heap := h', toks := t } := by
  intro ho'
  obtain ⟨g, os, b, ro, σ, L, e⟩ := I.inv
  have un : ∀ a ob, σ a = some ob → a ≠ it := fun a ob q z => by
    subst z
    have := L.apart a ob q
    rw [pushB_out hn] at this
    unfold prot at this
    rw [if_pos rfl] at this
    obtain ⟨o, e⟩ := ho
    rw [e] at this; cases this
  have pe : ∀ a, a ≠ it → prot β it h' a = prot β it s.heap a := fun a z => by unfold prot; rw [if_neg z, if_neg z]
  have fe : ∀ a, a ∈ fa env → a ≠ it := fun a q z => hn (z ▸ q)
  refine ⟨fun a ob q => ?_, fun a q => ?_, I.nodup, fun a q => ?_, ?_, g, os, fun a ob q => ?_, ro, σ, ⟨fun a ob q => ?_, fun a ob q => ?_, fun a ob q => ?_⟩, e⟩
  · have : a ≠ it := fun z => by subst z; rw [hB] at q; cases q
    rw [pe a this]; exact I.base a ob q
  · rw [pe a (fe a q)]; exact I.fresh a q
  · obtain ⟨o', e'⟩ := I.alive a q; exact ⟨o', hs a o' (fe a q) e'⟩
  · have F := I.frame
    refine ⟨F.ok, F.names, ?_, fun x v q => ?_, fun x v q => ?_, F.glob⟩
    · obtain ⟨o, es, ep, mv, e, r⟩ := F.loc
      exact ⟨o, es, ep, mv, hs _ _ (fe _ (by simp [fa])) e, r⟩
    · obtain ⟨h, a, o, u, e1, e2, r⟩ := F.cell x v q
      exact ⟨h, a, o, u, e1, hs _ _ (fe _ (by simp only [fa, List.mem_cons]; exact .inr (List.mem_map.mpr ⟨_, mem_of_lookup e1, rfl⟩))) e2, r⟩
    · obtain ⟨h, a, o, u, e1, e2, r⟩ := F.free x v q
      exact ⟨h, a, o, u, e1, hs _ _ (fe _ (by simp only [fa, List.mem_cons]; exact .inr (List.mem_map.mpr ⟨_, mem_of_lookup e1, rfl⟩))) e2, r⟩
  · have na : a ≠ it := fun z => by subst z; rw [hB] at q; cases q
    have z := b a ob q
    by_cases y : a ∈ fa env
    · rw [pushB_in y] at z ⊢; exact hs a ob na z
    · rw [pushB_out y] at z ⊢; rw [pe a na]; exact z
  · by_cases y : a ∈ fa env
    · rw [pushB_in y] at q; exact q
    · rw [pushB_out y] at q
      by_cases na : a = it
      · subst na; unfold prot at q; rw [if_pos rfl] at q; exact q
      · rw [pe a na] at q; exact hs a ob na (L.keep a ob (by rw [pushB_out y]; exact q))
  · exact (L.rep a ob q).at fun ob' => hs a ob' (un a ob q)
  · have z := L.apart a ob q
    by_cases y : a ∈ fa env
    · rw [pushB_in y] at z
      obtain ⟨o', e'⟩ := I.alive a y
      rw [e'] at z; cases z
    · rw [pushB_out y] at z ⊢; rw [pe a (un a ob q)]; exact z
theorem Inv.unguard {it : Addr} {h' : Heap} {t : Nat} (I : Inv c (prot β it s.heap) env m S s) (hn : it ∉ fa env) (ho : ∃ o, s.heap.get? it = some o) (hB : c.B.heap.get? it = none) (hb : β it = none) (hs : Heap.ExtBut it s.heap h') :
    Inv c β env m S { s with heap := h', toks := t } := by
  obtain ⟨g, os, b, ro, σ, L, e⟩ := I.inv
  have un : ∀ a ob, σ a = some ob → a ≠ it := fun a ob q z => by
    subst z
    have := L.apart a ob q
    rw [pushB_out hn] at this
    unfold prot at this
    rw [if_pos rfl] at this
    obtain ⟨o, e⟩ := ho
    rw [e] at this; cases this
  have pe : ∀ a, a ≠ it → β a = prot β it s.heap a := fun a z => by unfold prot; rw [if_neg z]
  have fe : ∀ a, a ∈ fa env → a ≠ it := fun a q z => hn (z ▸ q)
  refine ⟨fun a ob q => ?_, fun a q => ?_, I.nodup, fun a q => ?_, ?_, g, os, fun a ob q => ?_, ro, σ, ⟨fun a ob q => ?_, fun a ob q => ?_, fun a ob q => ?_⟩, e⟩
  · have : a ≠ it := fun z => by subst z; rw [hB] at q; cases q
    rw [pe a this]; exact I.base a ob q
  · rw [pe a (fe a q)]; exact I.fresh a q
  · obtain ⟨o', e'⟩ := I.alive a q; exact ⟨o', hs a o' (fe a q) e'⟩
  · have F := I.frame
    refine ⟨F.ok, F.names, ?_, fun x v q => ?_, fun x v q => ?_, F.glob⟩
    · obtain ⟨o, es, ep, mv, e, r⟩ := F.loc
      exact ⟨o, es, ep, mv, hs _ _ (fe _ (by simp [fa])) e, r⟩
    · obtain ⟨h, a, o, u, e1, e2, r⟩ := F.cell x v q
      exact ⟨h, a, o, u, e1, hs _ _ (fe _ (by simp only [fa, List.mem_cons]; exact .inr (List.mem_map.mpr ⟨_, mem_of_lookup e1, rfl⟩))) e2, r⟩
    · obtain ⟨h, a, o, u, e1, e2, r⟩ := F.free x v q
      exact ⟨h, a, o, u, e1, hs _ _ (fe _ (by simp only [fa, List.mem_cons]; exact .inr (List.mem_map.mpr ⟨_, mem_of_lookup e1, rfl⟩))) e2, r⟩
  · have na : a ≠ it := fun z => by subst z; rw [hB] at q; cases q
    have z := b a ob q
    by_cases y : a ∈ fa env
    · rw [pushB_in y] at z ⊢; exact hs a ob na z
    · rw [pushB_out y] at z ⊢; rw [pe a na]; exact z
  · by_cases y : a ∈ fa env
    · rw [pushB_in y] at q; exact q
    · rw [pushB_out y] at q
      have na : a ≠ it := fun z => by subst z; rw [hb] at q; cases q
      rw [pe a na] at q
      exact hs a ob na (L.keep a ob (by rw [pushB_out y]; exact q))
  · exact (L.rep a ob q).at fun ob' => hs a ob' (un a ob q)
  · have z := L.apart a ob q
    by_cases y : a ∈ fa env
    · rw [pushB_in y] at z
      obtain ⟨o', e'⟩ := I.alive a y
      rw [e'] at z; cases z
    · rw [pushB_out y] at z ⊢; rw [pe a (un a ob q)]; exact z
end
end
section
noncomputable abbrev QS := Fl → Loc → Sto → Prop
noncomputable def XW (c : Cst) (k : Nat) (t : Env → Sem Flow) (Q : QS) (m : Loc) (S : Sto) : Prop :=
  ∀ env A β s, Room A k → Inv c β env m S s → wpAny c.M A (t env) (fun f s' => ∃ m' S', Q (erF f) m' S' ∧ Inv c β env m' S' s') NoE s
section
variable {c : Cst} {k : Nat} {β : Bas} {env : Env} {m : Loc} {S : Sto} {s : Shared}
theorem Inv.grow {h' : Heap} {t : Nat} (I : Inv c β env m S s) (g : ∀ a o, s.heap.get? a = some o → h'.get? a = some o) : Inv c β env m S { s with heap := h', toks := t } := by
  obtain ⟨gg, os, b, ro, σ, L, e⟩ := I.inv
  refine ⟨I.base, I.fresh, I.nodup, fun a q => let ⟨o, e⟩ := I.alive a q; ⟨o, g _ _ e⟩, I.frame.keeps g, gg, os, fun a ob q => ?_, ro, σ, ⟨fun a ob q => ?_, fun a ob q => (L.rep a ob q).at (g a), fun a ob q => ?_⟩, e⟩
  · have z := b a ob q
    by_cases y : a ∈ fa env
    · rw [pushB_in y] at z ⊢; exact g _ _ z
    · rw [pushB_out y] at z ⊢; exact z
  · by_cases y : a ∈ fa env
    · rw [pushB_in y] at q; exact q
    · rw [pushB_out y] at q; exact g _ _ (L.keep a ob (by rw [pushB_out y]; exact q))
  · have z := L.apart a ob q
    by_cases y : a ∈ fa env
    · rw [pushB_in y] at z
      obtain ⟨o', e'⟩ := I.alive a y
      rw [e'] at z; cases z
    · rw [pushB_out y] at z ⊢; exact z
theorem Inv.lst (I : Inv c β env m S s) {l : Addr} {xs : List AV} (h : S.lst l = some xs) : xs.length ≤ 1000 ∧ ∃ items : Array Value, s.heap.IsList l items ∧ items.toList.map er = xs := I.inv.lst h
theorem XW.mono {t : Env → Sem Flow} {Q Q' : QS} (h : XW c k t Q m S) (q : ∀ f m S, Q f m S → Q' f m S) : XW c k t Q' m S :=
  fun env A β s r I => wpAny_mono (h env A β s r I) (fun _ _ ⟨m', S', hq, I'⟩ => ⟨m', S', q _ _ _ hq, I'⟩) fun _ _ e => e
noncomputable def forVs (body : Loc → QS → Sto → Prop) (x : Str) (P : Sto → Prop) : List AV → Loc → QS → Sto → Prop
  | [], m, Q, S => P S ∧ Q .next m S
  | v :: vs, m, Q, S => P S ∧ ∃ m', setV x v m = some m' ∧ body m' (fun fl m'' S' => match fl with
      | .next => forVs body x P vs m'' Q S'
      | .cont => forVs body x P vs m'' Q S'
      | .brk => Q .next m'' S'
      | .ret w => Q (.ret w) m'' S') S
theorem for_core {A : Around} {β₀ : Bas} {it : Value} {x : Str} {xp : Pos} {body : List Stmt} {bw : Loc → QS → Sto → Prop} (hb : ∀ m Q S, bw m Q S → XW c k (execs body) Q m S) (r : Room A k)
    {J : List AV → Bas → Prop} {P : Sto → Prop} {Q : QS}
    (next : ∀ β vs m S s, J vs β → (∀ a o, β₀ a = some o → β a = some o) → Inv c β env m S s → P S →
      match vs with
      | [] => wpAny c.M A (pyNext it) (fun r s' => r = none ∧ Inv c β₀ env m S s') NoE s
      | v :: rest => wpAny c.M A (pyNext it) (fun o s' => ∃ u β', o = some u ∧ er u = v ∧ (∀ a o, β₀ a = some o → β' a = some o) ∧ J rest β' ∧ Inv c β' env m S s') NoE s)
    (hbase : ∀ a o, c.B.heap.get? a = some o → β₀ a = some o)
    {vs : List AV} (h : forVs bw x P vs m Q S) (hJ : J vs β) (hsub : ∀ a o, β₀ a = some o → β a = some o) (I : Inv c β env m S s) (R : Result → Shared → Prop)
    (hR : ∀ f s', (∃ m' S', Q (erF f) m' S' ∧ Inv c β₀ env m' S' s') → R (.ok f) s') :
    codeAny c.M A (.forLoop (.Name x xp) it body [] env) R s := by
  refine codeAny_forLoop (fun n s => ∃ vs β m S, vs.length = n ∧ forVs bw x P vs m Q S ∧ J vs β ∧ (∀ a o, β₀ a = some o → β a = some o) ∧ Inv c β env m S s) (fun n s hI => ?_) vs.length ⟨vs, β, m, S, rfl, h, hJ, hsub, I⟩
  obtain ⟨vs, β, m, S, rfl, h, hJ, hsub, I⟩ := hI
  cases vs with
  | nil =>
    refine wpAny_mono (next β [] m S s hJ hsub I h.1) (fun o s' h' => ?_) fun _ _ e => e.elim
    obtain ⟨rfl, I'⟩ := h'
    exact wpAny_execs_nil (hR .next s' ⟨m, S, h.2, I'⟩)
  | cons v rest =>
    refine wpAny_mono (next β (v :: rest) m S s hJ hsub I h.1) (fun o s' h' => ?_) fun _ _ e => e.elim
    obtain ⟨u, β', rfl, rfl, hs', hJ', I'⟩ := h'
    obtain ⟨m', hm, hbody⟩ := h.2
    refine wpAny_mono (wpAny_assign_Name (I'.store (Q := fun _ s'' => Inv c β' env m' S s'') hm fun s'' I'' => I'')) (fun _ s'' I'' => ?_) fun _ _ e => e.elim
    refine wpAny_mono (hb _ _ _ hbody env A β' s'' r I'') (fun f s3 h3 => ?_) fun _ _ e => e.elim
    obtain ⟨m3, S3, hq, I3⟩ := h3
    cases f with
    | next => exact ⟨_, Nat.lt_succ_self _, rest, β', m3, S3, rfl, hq, hJ', hs', I3⟩
    | cont => exact ⟨_, Nat.lt_succ_self _, rest, β', m3, S3, rfl, hq, hJ', hs', I3⟩
    | brk => exact hR _ _ ⟨m3, S3, hq, I3.weaken hbase hs'⟩
    | ret w => exact hR _ _ ⟨m3, S3, hq, I3.weaken hbase hs'⟩
theorem for_list {A : Around} {l : Addr} {xs : List AV} {x : Str} {xp : Pos} {body : List Stmt} {bw : Loc → QS → Sto → Prop} (hb : ∀ m Q S, bw m Q S → XW c k (execs body) Q m S) (r : Room A k)
    {Q : QS} (hx : S.lst l = some xs) (h : forVs bw x (fun S => S.lst l = some xs) xs m Q S) (I : Inv c β env m S s) {E : Value → Shared → Prop} (hE : ∀ v s, NoE v s → E v s) :
    wpAny c.M A (pyIter (.ref l)) (fun it s₂ => codeAny c.M A (.forLoop (.Name x xp) it body [] env) (fun r s' => match r with | .ok f => ∃ m' S', Q (erF f) m' S' ∧ Inv c β env m' S' s' | .error e => E e s') s₂) NoE s := by
  obtain ⟨hz, items, hl, hm⟩ := I.lst hx
  refine wpAny_pyIter_list hl ?_
  obtain ⟨I1, hn, hb0, hB⟩ := I.guard (o := { cls := .type "list_iterator", data := .fields #[.ref l, .int 0 0] }) rfl
  refine for_core (β₀ := β) (J := fun vs β' => ∃ i h, h.IsListIter s.heap.objs.size l i ∧ xs.drop i = vs ∧ β' = prot β s.heap.objs.size h) hb r (fun β' vs m S s' hJ hsub I' hP => ?_) I.base h ⟨0, _, ⟨_, Heap.get?_push_size _ rfl, rfl, rfl⟩, rfl, rfl⟩ ?_ I1 _ fun f s' h' => h'
  · obtain ⟨i, hh, hit, hd, rfl⟩ := hJ
    obtain ⟨oi, hoi, hci, hdi⟩ := hit
    obtain ⟨hz', items', hl', hm'⟩ := I'.lst hP
    have here : s'.heap.get? s.heap.objs.size = some oi := I'.inv.keep _ _ (by rw [pushB_out hn]; unfold prot; rw [if_pos rfl]; exact hoi)
    have pe : prot β s.heap.objs.size hh = prot β s.heap.objs.size s'.heap := by
      funext a; unfold prot
      split
      · rw [hoi, here]
      · rfl
    rw [pe] at I'
    have hit' : s'.heap.IsListIter s.heap.objs.size l i := ⟨oi, here, hci, hdi⟩
    have hi : items'[i]? = (items'.toList)[i]? := by simp
    cases vs with
    | nil =>
      have : xs.length ≤ i := by rw [List.drop_eq_nil_iff] at hd; exact hd
      refine wpAny_pyNext_list_end r.hand hit' hl' (by rw [hi, List.getElem?_eq_none_iff, ← List.length_map (f := er), hm']; exact this) fun h' hs => ⟨rfl, I'.unguard hn ⟨_, here⟩ hB hb0 hs⟩
    | cons v rest =>
      have hv : xs[i]? = some v := by rw [← List.head?_drop, hd]; rfl
      obtain ⟨u, hu, hev⟩ := get_map hm' hv
      refine wpAny_pyNext_list_item hit' hl' hu fun h' hit2 hs => ⟨u, prot β s.heap.objs.size h', rfl, hev, fun a o e => ?_, ⟨i + 1, h', hit2, ?_, rfl⟩, I'.turn hn ⟨_, here⟩ hB hs.extBut (let ⟨o, e, _⟩ := hit2; ⟨o, e⟩)⟩
      · unfold prot; split
        · rename_i z; subst z; rw [hb0] at e; cases e
        · exact e
      · rw [← List.drop_drop, hd]; rfl
  · intro a o e
    unfold prot; split
    · rename_i z; subst z; rw [hb0] at e; cases e
    · exact e
theorem for_tupAt {A : Around} {t : Addr} {ot : Obj} {items : Array Value} {nt : Nat} {x : Str} {xp : Pos} {body : List Stmt} {bw : Loc → QS → Sto → Prop} (hb : ∀ m Q S, bw m Q S → XW c k (execs body) Q m S) (r : Room A k)
    {Q : QS} (h : forVs bw x (fun _ => True) (items.toList.map er) m Q S) (I : Inv c β env m S s) (ht : β t = some ot) (hc : ot.cls = .type "tuple") (hd : ot.data = .seq items nt) (htn : t ∉ fa env) {R : Result → Shared → Prop}
    (hR : ∀ f s', (∃ m' S', Q (erF f) m' S' ∧ Inv c β env m' S' s') → R (.ok f) s') :
    wpAny c.M A (pyIter (.ref t)) (fun it s₂ => codeAny c.M A (.forLoop (.Name x xp) it body [] env) R s₂) NoE s := by
  have tup : ∀ {β' : Bas} {m : Loc} {S : Sto} {s' : Shared}, (∀ a o, β a = some o → β' a = some o) → Inv c β' env m S s' → s'.heap.IsTuple t items := fun hs I' => ⟨ot, I'.inv.keep _ _ (by rw [pushB_out htn]; exact hs _ _ ht), hc, nt, hd⟩
  refine wpAny_pyIter_tuple (tup (fun _ _ e => e) I) ?_
  obtain ⟨I1, hn, hb0, hB⟩ := I.guard (o := { cls := .type "tuple_iterator", data := .fields #[.ref t, .int 0 0] }) rfl
  have sub : ∀ (hh : Heap) a o, β a = some o → prot β s.heap.objs.size hh a = some o := fun hh a o e => by
    unfold prot; split
    · rename_i z; subst z; rw [hb0] at e; cases e
    · exact e
  refine for_core (β₀ := β) (J := fun vs β' => ∃ i h, h.IsTupleIter s.heap.objs.size t i ∧ (items.toList.map er).drop i = vs ∧ β' = prot β s.heap.objs.size h) hb r (fun β' vs m S s' hJ hsub I' hP => ?_) I.base h ⟨0, _, ⟨_, Heap.get?_push_size _ rfl, rfl, rfl⟩, rfl, rfl⟩ (sub _) I1 _ hR
  obtain ⟨i, hh, hit, hd', rfl⟩ := hJ
  obtain ⟨oi, hoi, hci, hdi⟩ := hit
  have here : s'.heap.get? s.heap.objs.size = some oi := I'.inv.keep _ _ (by rw [pushB_out hn]; unfold prot; rw [if_pos rfl]; exact hoi)
  have pe : prot β s.heap.objs.size hh = prot β s.heap.objs.size s'.heap := by
    funext a; unfold prot
    split
    · rw [hoi, here]
    · rfl
  have tt := tup (sub _) I'
  rw [pe] at I'
  have hit' : s'.heap.IsTupleIter s.heap.objs.size t i := ⟨oi, here, hci, hdi⟩
  have hi : items[i]? = (items.toList)[i]? := by simp
  cases vs with
  | nil =>
    have : (items.toList.map er).length ≤ i := by rw [List.drop_eq_nil_iff] at hd'; exact hd'
    refine wpAny_pyNext_tuple_end r.hand hit' tt (by rw [hi, List.getElem?_eq_none_iff, ← List.length_map (f := er)]; exact this) fun h' hs => ⟨rfl, I'.unguard hn ⟨_, here⟩ hB hb0 hs⟩
  | cons v rest =>
    have hv : (items.toList.map er)[i]? = some v := by rw [← List.head?_drop, hd']; rfl
    obtain ⟨u, hu, hev⟩ := get_map rfl hv
    refine wpAny_pyNext_tuple_item hit' tt hu fun h' hit2 hs => ⟨u, prot β s.heap.objs.size h', rfl, hev, sub _, ⟨i + 1, h', hit2, ?_, rfl⟩, I'.turn hn ⟨_, here⟩ hB hs.extBut (let ⟨o, e, _⟩ := hit2; ⟨o, e⟩)⟩
    rw [← List.drop_drop, hd']; rfl
theorem for_tup {A : Around} {xs : List Value} {x : Str} {xp : Pos} {body : List Stmt} {bw : Loc → QS → Sto → Prop} (hb : ∀ m Q S, bw m Q S → XW c k (execs body) Q m S) (r : Room A k) (hz : xs.length ≤ 1000)
    {Q : QS} (h : forVs bw x (fun _ => True) (xs.map er) m Q S) (I : Inv c β env m S s) {R : Result → Shared → Prop}
    (hR : ∀ f s', (∃ m' S', Q (erF f) m' S' ∧ Inv c β env m' S' s') → R (.ok f) s') :
    wpAny c.M A (newTuple xs) (fun v s₁ => wpAny c.M A (pyIter v) (fun it s₂ => codeAny c.M A (.forLoop (.Name x xp) it body [] env) R s₂) NoE s₁) NoE s := by
  refine wpAny_newTuple ?_ (sl_le hz)
  obtain ⟨I0, hn0, hb00, hB0⟩ := I.guard (o := { cls := .type "tuple", data := .seq xs.toArray }) rfl
  have sub0 : ∀ a o, β a = some o → prot β s.heap.objs.size (s.heap.push { cls := .type "tuple", data := .seq xs.toArray }) a = some o := fun a o e => by
    unfold prot; split
    · rename_i z; subst z; rw [hb00] at e; cases e
    · exact e
  refine for_tupAt (items := xs.toArray) (nt := 0) hb r (by simpa using h) I0 (ot := { cls := .type "tuple", data := .seq xs.toArray }) (by unfold prot; rw [if_pos rfl]; exact Heap.get?_push_size _ rfl) rfl rfl hn0 fun f s' h' => hR f s' ?_
  obtain ⟨m', S', hq, I'⟩ := h'
  exact ⟨m', S', hq, I'.weaken I.base sub0⟩
theorem for_range {A : Around} {n : Int} {tk : Tok} {x : Str} {xp : Pos} {body : List Stmt} {bw : Loc → QS → Sto → Prop} (hb : ∀ m Q S, bw m Q S → XW c k (execs body) Q m S) (r : Room A k) (hn0 : 0 ≤ n) (hz : n ≤ 1000)
    {Q : QS} (h : forVs bw x (fun _ => True) ((List.range n.toNat).map fun i : Nat => AV.int (i : Int)) m Q S) {rg : Addr} (I : Inv c β env m S s) {t u v : Tok} (hr : IsRange s.heap rg 0 n 1 t u v) {R : Result → Shared → Prop}
    (hR : ∀ f s', (∃ m' S', Q (erF f) m' S' ∧ Inv c β env m' S' s') → R (.ok f) s') :
    wpAny c.M A (pyIter (.ref rg)) (fun it s₂ => codeAny c.M A (.forLoop (.Name x xp) it body [] env) R s₂) NoE s := by
  have fit : ∀ x : Int, 0 ≤ x → x ≤ 1000 → Builtin.Range.rangeFitsLong x = true := fun x h0 h1 => by unfold Builtin.Range.rangeFitsLong; simp; omega
  have sm : Builtin.Range.small 0 n 1 = true := by
    unfold Builtin.Range.small Builtin.Range.rangeSize
    simp
    exact ⟨⟨⟨⟨fit 0 (by omega) (by omega), fit n hn0 hz⟩, fit 1 (by omega) (by omega)⟩, by split; exact fit n hn0 hz; exact fit 0 (by omega) (by omega)⟩, .inr (fit n hn0 hz)⟩
  have sz : Builtin.Range.rangeSize 0 n 1 = n := by unfold Builtin.Range.rangeSize; simp; omega
  refine wpAny_pyIter_range hr sm ?_
  rw [sz]
  obtain ⟨I1, hn, hb0, hB⟩ := I.guard (o := { cls := .type "range_iterator", data := .fields #[rawInt 0, rawInt n, rawInt 1] }) rfl
  have sub : ∀ (hh : Heap) a o, β a = some o → prot β s.heap.objs.size hh a = some o := fun hh a o e => by
    unfold prot; split
    · rename_i z; subst z; rw [hb0] at e; cases e
    · exact e
  refine for_core (β₀ := β) (J := fun vs β' => ∃ (i : Nat) (h : Heap), IsRangeIter h s.heap.objs.size i (n - i) 1 ∧ ((List.range n.toNat).map fun i : Nat => AV.int (i : Int)).drop i = vs ∧ β' = prot β s.heap.objs.size h) hb r (fun β' vs m S s' hJ hsub I' hP => ?_) I.base h ⟨0, _, ?_, rfl, rfl⟩ (sub _) I1 _ hR
  · obtain ⟨i, hh, hit, hd', rfl⟩ := hJ
    have here : s'.heap.get? s.heap.objs.size = hh.get? s.heap.objs.size := by rw [hit]; exact I'.inv.keep _ _ (by rw [pushB_out hn]; unfold prot; rw [if_pos rfl]; exact hit)
    have pe : prot β s.heap.objs.size hh = prot β s.heap.objs.size s'.heap := by
      funext a; unfold prot
      split
      · rw [here]
      · rfl
    rw [pe] at I'
    have hit' : IsRangeIter s'.heap s.heap.objs.size i (n - i) 1 := by unfold IsRangeIter; rw [here]; exact hit
    cases vs with
    | nil =>
      have : n.toNat ≤ i := by rw [List.drop_eq_nil_iff] at hd'; simpa using hd'
      refine wpAny_pyNext_range_end r.hand hit' (by omega) fun h' hs => ⟨rfl, I'.unguard hn ⟨_, here.trans hit⟩ hB hb0 hs⟩
    | cons v rest =>
      have hv : ((List.range n.toNat).map fun i : Nat => AV.int (i : Int))[i]? = some v := by rw [← List.head?_drop, hd']; rfl
      have hlt : i < n.toNat := by
        rcases Nat.lt_or_ge i n.toNat with z | z
        · exact z
        · rw [List.getElem?_eq_none (by simpa using z)] at hv; cases hv
      rw [List.getElem?_map, List.getElem?_range hlt] at hv
      cases hv
      refine wpAny_pyNext_range_item hit' (by omega) fun h' hit2 hs => ⟨_, prot β s.heap.objs.size h', rfl, rfl, sub _, ⟨i + 1, h', ?_, ?_, rfl⟩, I'.turn hn ⟨_, here.trans hit⟩ hB hs.extBut ⟨_, hit2⟩⟩
      · have e1 : ((i : Int) + 1) = ((i + 1 : Nat) : Int) := by omega
        have e2 : n - (i : Int) - 1 = n - ((i + 1 : Nat) : Int) := by omega
        have e3 : n - ((i : Int) + 1) = n - (i : Int) - 1 := by omega
        rw [← e1, e3]; exact hit2
      · rw [← List.drop_drop, hd']; rfl
  · show _ = _
    rw [Heap.get?_push_size _ rfl]
    simp [rawInt]
end
end
section
noncomputable def isComp (e : PySem.Expr) : Bool := e.ctorIdx == 8 || e.ctorIdx == 9 || e.ctorIdx == 10
noncomputable def isSetD (e : PySem.Expr) : Bool := e.ctorIdx == 7
noncomputable def nameTgt : PySem.Expr → Option Str
  | .Name x _ => some x
  | _ => none
noncomputable def nameTgts : List PySem.Expr → Option (List Str)
  | [] => some []
  | e :: es => (nameTgt e).bind fun x => (nameTgts es).map (x :: ·)
theorem nameTgt_eq {e : PySem.Expr} {x : Str} (h : nameTgt e = some x) : ∃ p, e = .Name x p := Ans.of (P := fun x => ∃ p, e = .Name x p) (by cases e <;> first | exact ⟨_, rfl⟩ | exact trivial) h
noncomputable def setVs : List Str → List AV → Loc → Option Loc
  | [], [], m => some m
  | x :: xs, v :: vs, m => (setV x v m).bind (setVs xs vs)
  | _, _, _ => none
noncomputable abbrev FS := Loc → Stmt → QS → Sto → Prop
noncomputable def wpSs (f : FS) : List Stmt → Loc → QS → Sto → Prop
  | [], m, Q, S => Q .next m S
  | st :: r, m, Q, S => f m st (fun fl m' S' => match fl with
      | .next => wpSs f r m' Q S'
      | .brk => Q .brk m' S'
      | .cont => Q .cont m' S'
      | .ret v => Q (.ret v) m' S') S
section
variable (c : Cst) (k : Nat)
end
section
variable {c : Cst} {k : Nat} {β : Bas} {env : Env} {m : Loc} {S : Sto} {s : Shared}
theorem XW.expr {e : PySem.Expr} {p : Pos} {Q : QS} (he : isComp e = false) (h : EWs c k m e (fun _ S' => Q .next m S') S) : XW c k (exec (.Expr e p)) Q m S := by
  intro env A β s r I
  have hi : interactive env = false := by unfold interactive; rw [I.frame.ok.kind]; rfl
  refine wpAny_Expr_any (wpAny_mono (I.expr r (h env)) (fun v s' ⟨S', hq, I'⟩ => ⟨m, S', hq, I'⟩) fun _ _ e => e) hi ?_
  cases e <;> first | rfl | exact ff he.symm
theorem sole_false {t v : PySem.Expr} {line : Nat} (hv : isComp v = false) : swapsWith v (some t) line env = pure false := by
  cases v <;> first | rfl | exact ff hv.symm
theorem XW.assignName {x : Str} {xp p : Pos} {v : PySem.Expr} {Q : QS} (hv : isComp v = false) (h : EWs c k m v (fun w S' => ∃ m', setV x w m = some m' ∧ Q .next m' S') S) : XW c k (exec (.Assign [.Name x xp] v p)) Q m S := by
  intro env A β s r I
  refine wpAny_Assign_Name (wpAny_mono (I.expr r (h env)) (fun u s' h' => ?_) fun _ _ e => e) (sole_false hv)
  obtain ⟨S', ⟨m', hm, hq⟩, I'⟩ := h'
  exact I'.store hm fun s'' I'' => ⟨m', S', hq, I''⟩
theorem XW.assignAttr {o : PySem.Expr} {a : Str} {xp p : Pos} {v : PySem.Expr} {Q : QS} {f : FE} (hf : ∀ e Q S, f e Q S → EWs c k m e Q S) (hv : isComp v = false)
    (h : f v (fun w S' => f o (fun ov S'' => ∃ S3, S''.setA ov a w = some S3 ∧ Q .next m S3) S') S) : XW c k (exec (.Assign [.Attribute o a xp] v p)) Q m S := by
  intro env A β s r I
  refine plainObj_wpAny_Assign_Attribute (wpAny_mono (I.expr r (hf _ _ _ h env)) (fun u s' h' => ?_) fun _ _ e => e) (sole_false hv)
  obtain ⟨S', h', I'⟩ := h'
  refine wpAny_mono (I'.expr r (hf _ _ _ h' env)) (fun w s'' h'' => ?_) fun _ _ e => e
  obtain ⟨S'', ⟨S3, hs, hq⟩, I''⟩ := h''
  exact wpAny_mono (I''.expr r (TW.setAttr (Q := fun _ S4 => S4 = S3) hs rfl)) (fun _ s3 ⟨S4, e, I3⟩ => ⟨m, S3, hq, e ▸ I3⟩) fun _ _ e => e
theorem XW.assignItem {o i : PySem.Expr} {xp p : Pos} {v : PySem.Expr} {Q : QS} {f : FE} (hf : ∀ e Q S, f e Q S → EWs c k m e Q S) (hv : isComp v = false)
    (h : f v (fun w S' => f o (fun ov S'' => f i (fun iv S3 => ∃ S4, S3.setItem ov iv w = some S4 ∧ Q .next m S4) S'') S') S) : XW c k (exec (.Assign [.Subscript o i xp] v p)) Q m S := by
  intro env A β s r I
  refine wpAny_Assign_Subscript (wpAny_mono (I.expr r (hf _ _ _ h env)) (fun u s' h' => ?_) fun _ _ e => e) (sole_false hv)
  obtain ⟨S', h', I'⟩ := h'
  refine wpAny_mono (I'.expr r (hf _ _ _ h' env)) (fun w s'' h'' => ?_) fun _ _ e => e
  obtain ⟨S'', h'', I''⟩ := h''
  refine wpAny_mono (I''.expr r (hf _ _ _ h'' env)) (fun w' s3 h3 => ?_) fun _ _ e => e
  obtain ⟨S3, ⟨S4, hs, hq⟩, I3⟩ := h3
  exact wpAny_mono (I3.expr r (TW.setItem (Q := fun _ S5 => S5 = S4) hs rfl)) (fun _ s3 ⟨S5, e, I3⟩ => ⟨m, S4, hq, e ▸ I3⟩) fun _ _ e => e
theorem names_each : ∀ {ts : List PySem.Expr} {xs : List Str}, nameTgts ts = some xs → ∃ ps : List (Str × Pos), ts = ps.map (fun p => PySem.Expr.Name p.1 p.2) ∧ xs = ps.map (·.1)
  | [], xs, h => by cases h; exact ⟨[], rfl, rfl⟩
  | t :: ts, xs, h => by
    obtain ⟨x, h1, h⟩ := Option.bind_eq_some_iff.mp h
    obtain ⟨ys, h2, rfl⟩ := Option.map_eq_some_iff.mp h
    obtain ⟨ps, rfl, rfl⟩ := names_each h2
    obtain ⟨p, rfl⟩ := nameTgt_eq h1
    exact ⟨(x, p) :: ps, rfl, rfl⟩
theorem each_names (ps : List (Str × Pos)) : assignEach (ps.map fun p => PySem.Expr.Name p.1 p.2) env = ps.map fun p => (false, assign (.Name p.1 p.2) env) := by
  induction ps with
  | nil => rfl
  | cons p r ih => rw [List.map_cons, List.map_cons, ← ih]; rfl
theorem storeAll {A : Around} {fs : List (Value → Sem Unit)} : ∀ {xs : List Str}, (fs.length = xs.length ∧ ∀ i (h : i < fs.length) (h' : i < xs.length) v, ∀ {Q : Unit → Shared → Prop} {s : Shared}, wpAny c.M A (storeName env xs[i] v) Q NoE s → wpAny c.M A (fs[i] v) Q NoE s) →
    ∀ {vs : List Value} {m m' : Loc} {s : Shared} {Q : Unit → Shared → Prop}, setVs xs (vs.map er) m = some m' → Inv c β env m S s → (∀ s', Inv c β env m' S s' → Q () s') → wpAny c.M A (assignInOrder fs vs) Q NoE s := by
  induction fs with
  | nil =>
    intro xs hx vs m m' s Q h I hq
    cases xs with
    | nil =>
      cases vs with
      | nil => cases h; exact wpAny_pure (hq s I)
      | cons _ _ => cases h
    | cons _ _ => cases hx.1
  | cons f fs ih =>
    intro xs hx vs m m' s Q h I hq
    cases xs with
    | nil => cases hx.1
    | cons x xs =>
      cases vs with
      | nil => cases h
      | cons v vs =>
        obtain ⟨m1, h1, h2⟩ := Option.bind_eq_some_iff.mp h
        refine wpAny_assignInOrder_more ?_
        have := hx.2 0 (by simp) (by simp) v (Q := fun _ s₁ => wpAny c.M A (assignInOrder fs vs) Q NoE s₁) (s := s)
        refine this (I.store h1 fun s' I' => ?_)
        refine ih (xs := xs) ⟨by simpa using hx.1, fun i hi hi' v Q s hh => ?_⟩ h2 I' hq
        exact hx.2 (i + 1) (by simpa using hi) (by simpa using hi') v hh
theorem assign_names {A : Around} {ps : List (Str × Pos)} {vs : List Value} {m' : Loc} {Q : Unit → Shared → Prop} (h : setVs (ps.map (·.1)) (vs.map er) m = some m') (I : Inv c β env m S s) (hq : ∀ s', Inv c β env m' S s' → Q () s') :
    wpAny c.M A (assignInOrder ((assignEach (ps.map fun p => PySem.Expr.Name p.1 p.2) env).map (·.2)) vs) Q NoE s := by
  rw [each_names]
  refine storeAll (xs := ps.map (·.1)) ⟨by simp, fun i h1 h2 v Q s hh => ?_⟩ h I hq
  simp only [List.map_map, List.getElem_map] at hh ⊢
  exact wpAny_assign_Name hh
theorem setVs_length : ∀ {xs : List Str} {vs : List AV} {m m' : Loc}, setVs xs vs m = some m' → xs.length = vs.length
  | [], [], _, _, _ => rfl
  | _ :: xs, _ :: vs, m, m', h => by
    obtain ⟨m1, _, h2⟩ := Option.bind_eq_some_iff.mp h
    exact congrArg Nat.succ (setVs_length h2)
  | [], _ :: _, _, _, h => by cases h
  | _ :: _, [], _, _, h => by cases h
theorem XW.assignOwn {ts : List PySem.Expr} {kk : Nat} {tp p : Pos} {y : Str} {yp : Pos} {xs : List Str} {Q : QS} (ht : nameTgts ts = some xs)
    (h : EWs c k m (.Name y yp) (fun w S' => ∃ a vs m', w = .ref a ∧ S'.ls a = some vs ∧ vs.length = ts.length ∧ setVs xs vs m = some m' ∧ Q .next m' S') S) :
    XW c k (exec (.Assign [.Tuple ts kk tp] (.Name y yp) p)) Q m S := by
  intro env A β s r I
  obtain ⟨ps, rfl, rfl⟩ := names_each ht
  refine wpAny_Assign_stores (wpAny_mono (I.expr r (h env)) (fun u s' h' => ?_) fun _ _ e => e) rfl rfl
  obtain ⟨S', ⟨a, vs, m', hu, hl, hlen, hs, hq⟩, I'⟩ := h'
  obtain rfl := er_ref hu
  obtain ⟨_, items, hp, hm⟩ := I'.inv.list hl
  show wpAny _ _ (assign (.Tuple _ kk tp) env (.ref a)) _ _ _
  have e : assign (.Tuple (ps.map fun p => PySem.Expr.Name p.1 p.2) kk tp) env (.ref a) = (do standAt tp; unpack (.ref a) (assignEach (ps.map fun p => PySem.Expr.Name p.1 p.2) env)) := rfl
  rw [e]
  refine wpAny_bind (wpAny_standAt ?_)
  unfold unpack
  have hn : (assignEach (ps.map fun p => PySem.Expr.Name p.1 p.2) env).length = items.size := by
    rw [each_names, List.length_map, ← List.length_map (f := fun p : Str × Pos => PySem.Expr.Name p.1 p.2), ← hlen, ← hm]; simp
  have hst : (assignEach (ps.map fun p => PySem.Expr.Name p.1 p.2) env).findIdx? (·.1) = none := by
    rw [each_names, List.findIdx?_eq_none_iff]; simp
  rw [hn, hst]
  refine wpAny_bind (wpAny_holding (kun_itemsOf r.hand hp.isList fun h' he => ?_))
  have I'' : Inv c β env m S' { s' with heap := h' } := I'.grow (t := s'.toks) fun b o q => he b o (Nat.ne_of_lt (Heap.lt_size q)) q
  exact assign_names (by rw [hm]; exact hs) I'' fun s3 I3 => ⟨m', S', hq, I3⟩
end
end
section
section
variable {c : Cst} {k : Nat} {β : Bas} {env : Env} {m : Loc} {S : Sto} {s : Shared}
theorem stores_some (env : Env) (v : Value) (names : List Str) (st : List (Value → Sem Unit)) : assignStores env v (some names) st = (do
    rule "assign.swapped-stores"
    let items ← unpackItems v names.length none
    assignInOrder (names.reverse.map fun n => bindName env n) items.reverse
    pure .next) := rfl
theorem stores_none (env : Env) (v : Value) (st : Value → Sem Unit) : assignStores env v none [st] = (do st v; pure .next) := rfl
theorem tup_swap {A : Around} {t : Addr} {vs : List Value} {names : List Str} {m' : Loc} {st : List (Value → Sem Unit)} (r : Room A k) (I : Inv c β env m S s) (ht : s.heap.IsTuple t vs.toArray) (hn : names.length = vs.length)
    (hm : setVs names.reverse (vs.map er).reverse m = some m') {Q : Flow → Shared → Prop} (hq : ∀ s', Inv c β env m' S s' → Q .next s') : wpAny c.M A (assignStores env (.ref t) (some names) st) Q NoE s := by
  rw [stores_some]
  have hn' : names.length = vs.toArray.size := by rw [List.size_toArray]; exact hn
  rw [hn']
  refine wpAny_bind (wpAny_rule (wpAny_bind (wpAny_unpackItems_tuple r.hand ht fun h' he => wpAny_bind ?_)))
  have I2 : Inv c β env m S { s with heap := h' } := I.grow (t := s.toks) fun b o q => he b o (Nat.ne_of_lt (Heap.lt_size q)) q
  refine wpAny_mono (storeAll (xs := names.reverse) (Q := fun _ s'' => Inv c β env m' S s'') ⟨by simp, fun i h1 h2 v Q s hh => ?_⟩ (m' := m') (by rw [List.toList_toArray, List.map_reverse]; exact hm) I2 fun s3 I3 => I3) (fun _ s3 I3 => wpAny_pure (hq _ I3)) fun _ _ e => e
  rw [List.getElem_map]
  exact wpAny_bindName hh
theorem tup_plain {A : Around} {t : Addr} {vs : List Value} {ps : List (Str × Pos)} {m' : Loc} {kk : Nat} {tp : Pos} (r : Room A k) (I : Inv c β env m S s) (ht : s.heap.IsTuple t vs.toArray) (hn : ps.length = vs.length)
    (hm : setVs (ps.map (·.1)) (vs.map er) m = some m') {Q : Flow → Shared → Prop} (hq : ∀ s', Inv c β env m' S s' → Q .next s') :
    wpAny c.M A (assignStores env (.ref t) none [assign (.Tuple (ps.map fun p => PySem.Expr.Name p.1 p.2) kk tp) env]) Q NoE s := by
  rw [stores_none]
  refine wpAny_bind ?_
  have hn' : (assignEach (ps.map fun p => PySem.Expr.Name p.1 p.2) env).length = vs.toArray.size := by
    rw [each_names, List.length_map, List.size_toArray]; exact hn
  have hst : (assignEach (ps.map fun p => PySem.Expr.Name p.1 p.2) env).findIdx? (·.1) = none := by
    rw [each_names, List.findIdx?_eq_none_iff]; simp
  refine wpAny_assign_Tuple r.hand ht hn' hst fun h' he => ?_
  have I2 : Inv c β env m S { s with heap := h' } := I.grow (t := s.toks) fun b o q => he b o (Nat.ne_of_lt (Heap.lt_size q)) q
  refine wpAny_mono (assign_names (Q := fun _ s'' => Inv c β env m' S s'') (by rw [List.toList_toArray]; exact hm) I2 fun s3 I3 => I3) (fun _ s3 I3 => ?_) fun _ _ e => e
  exact wpAny_pure (hq _ I3)
theorem fmap_len {α γ : Type} (g : α → Option γ) (w : α → γ) (hg : ∀ a, g a = none ∨ g a = some (w a)) : ∀ l : List α, (l.filterMap g).length = l.length → l.filterMap g = l.map w
  | [], _ => rfl
  | a :: r, h => by
    rcases hg a with e | e
    · rw [List.filterMap_cons_none e] at h
      have := List.length_filterMap_le g r
      simp at h; omega
    · rw [List.filterMap_cons_some e] at h ⊢
      rw [List.map_cons, fmap_len g w hg r (by simpa using h)]
theorem ite_or.{u} {p : Prop} [Decidable p] {α : Type u} {x y : α} (P : α → Prop) (h1 : P x) (h2 : ¬p → P y) : P (if p then x else y) := by
  by_cases h : p
  · rw [if_pos h]; exact h1
  · rw [if_neg h]; exact h2 h
theorem swapped_names (ps : List (Str × Pos)) (kk k2 : Nat) (tp ep : Pos) (es : List PySem.Expr) (env : Env) (hcon : es.all (constantsAlone 8) = false) :
    swappedStores [.Tuple (ps.map fun p => PySem.Expr.Name p.1 p.2) kk tp] (.Tuple es k2 ep) env = pure none ∨ swappedStores [.Tuple (ps.map fun p => PySem.Expr.Name p.1 p.2) kk tp] (.Tuple es k2 ep) env = pure (some (ps.map (·.1))) := by
  unfold swappedStores
  dsimp only
  generalize hl : ((ps.map fun p => PySem.Expr.Name p.1 p.2).head?.map (·.pos.line)).getD 0 = line
  refine ite_or (fun z => z = pure none ∨ z = pure (some (ps.map (·.1)))) (.inl rfl) fun _ => ?_
  refine ite_or (fun z => z = pure none ∨ z = pure (some (ps.map (·.1)))) (.inl rfl) fun _ => ?_
  refine ite_or (fun z => z = pure none ∨ z = pure (some (ps.map (·.1)))) (.inl rfl) fun hname => ?_
  refine ite_or (fun z => z = pure none ∨ z = pure (some (ps.map (·.1)))) (.inl rfl) fun _ => ?_
  rw [hcon]
  refine .inr ?_
  simp only [Bool.false_eq_true, if_false]
  refine congrArg (fun x => pure (some x)) ?_
  simp only [Bool.or_eq_true, bne_iff_ne, ne_eq, not_or, Decidable.not_not] at hname
  have hlen := hname.1
  rw [List.filterMap_map] at hlen ⊢
  rw [fmap_len _ (fun p : Str × Pos => p.1) ?_ ps (by rw [hlen, List.length_map])]
  intro a
  exact ite_or (fun z => z = none ∨ z = some a.1) (.inr rfl) fun _ => .inl rfl
theorem XW.assignTup {ts es : List PySem.Expr} {kk k2 : Nat} {tp ep p : Pos} {xs : List Str} {Q : QS} {f : FE} (hf : ∀ e Q S, f e Q S → EWs c k m e Q S) (ht : nameTgts ts = some xs) (hlen : ts.length = es.length)
    (hs : es.any isStar = false) (hz : es.length ≤ 1000) (hcon : es.all (constantsAlone 8) = false)
    (h : wpEs f es (fun vs S' => ∃ m', setVs xs vs m = some m' ∧ setVs xs.reverse vs.reverse m = some m' ∧ Q .next m' S') S) :
    XW c k (exec (.Assign [.Tuple ts kk tp] (.Tuple es k2 ep) p)) Q m S := by
  intro env A β s r I
  obtain ⟨ps, rfl, rfl⟩ := names_each ht
  have hsw : swapsWithSole [.Tuple (ps.map fun p => PySem.Expr.Name p.1 p.2) kk tp] (.Tuple es k2 ep) p.line env = pure false := rfl
  have e : exec (.Assign [.Tuple (ps.map fun p => PySem.Expr.Name p.1 p.2) kk tp] (.Tuple es k2 ep) p) env = (do
      standAt p
      if ← swapsWithSole [.Tuple (ps.map fun p => PySem.Expr.Name p.1 p.2) kk tp] (.Tuple es k2 ep) p.line env then do
        evalThenUse (.Tuple es k2 ep) env fun v => assignAll v ((assignEach [.Tuple (ps.map fun p => PySem.Expr.Name p.1 p.2) kk tp] env).map (·.2))
        pure .next
      else do
        let v ← eval (.Tuple es k2 ep) env
        assignStores env v (← swappedStores [.Tuple (ps.map fun p => PySem.Expr.Name p.1 p.2) kk tp] (.Tuple es k2 ep) env) ((assignEach [.Tuple (ps.map fun p => PySem.Expr.Name p.1 p.2) kk tp] env).map (·.2))) := rfl
  rw [e, hsw]
  refine wpAny_bind (wpAny_standAt (wpAny_bind (wpAny_pure ?_)))
  rw [if_neg (by decide)]
  refine wpAny_bind ?_
  rw [arm_eval_Tuple, star_each hs]
  refine wpAny_bind (wpAny_standAt (wpAny_bind (wpAny_mono (I.expr r (spliced_soundL hf h)) (fun vs s' h' => ?_) fun _ _ e => e)))
  obtain ⟨S', ⟨hvl, m', hm1, hm2, hq⟩, I'⟩ := h'
  refine wpAny_newTuple ?_ (sl_le (by rw [hvl]; exact hz))
  have I1 : Inv c β env m S' { s' with heap := s'.heap.push { cls := .type "tuple", data := .seq vs.toArray } } := I'.grow (t := s'.toks) fun b o q => Heap.get?_push_of_some _ q
  have ht : (s'.heap.push { cls := .type "tuple", data := .seq vs.toArray }).IsTuple s'.heap.objs.size vs.toArray := ⟨_, Heap.get?_push_size _ rfl, rfl, 0, rfl⟩
  rcases swapped_names ps kk k2 tp ep es env hcon with d | d
  · rw [d]; exact wpAny_bind (wpAny_pure (tup_plain (kk := kk) r I1 ht (by rw [hvl, ← hlen, List.length_map]) hm1 fun s3 I3 => ⟨m', S', hq, I3⟩))
  · rw [d]; exact wpAny_bind (wpAny_pure (tup_swap r I1 ht (by rw [hvl, ← hlen, List.length_map, List.length_map]) hm2 fun s3 I3 => ⟨m', S', hq, I3⟩))
theorem ss_sound {f : FS} (hf : ∀ m st Q S, f m st Q S → XW c k (exec st) Q m S) : ∀ {ss : List Stmt} {m : Loc} {Q : QS} {S : Sto}, wpSs f ss m Q S → XW c k (execs ss) Q m S
  | [], m, Q, S, h => fun env A β s r I => wpAny_execs_nil ⟨m, S, h, I⟩
  | st :: ss, m, Q, S, h => by
    intro env A β s r I
    refine wpAny_execs_cons (wpAny_mono (hf _ _ _ _ h env A β s r I) (fun f s' h' => ?_) fun _ _ e => e)
    obtain ⟨m', S', hq, I'⟩ := h'
    cases f with
    | next => exact ss_sound hf hq env A β s' r I'
    | brk => exact ⟨m', S', hq, I'⟩
    | cont => exact ⟨m', S', hq, I'⟩
    | ret v => exact ⟨m', S', hq, I'⟩
theorem XW.iff {t : PySem.Expr} {a b : List Stmt} {p : Pos} {Q : QS} {g : FT} {f : FS} (hg : ∀ e Q S, g e Q S → TWs c k m e Q S) (hf : ∀ m st Q S, f m st Q S → XW c k (exec st) Q m S)
    (h : g t (fun x S' => (x = true → wpSs f a m Q S') ∧ (x = false → wpSs f b m Q S')) S) : XW c k (exec (.If t a b p)) Q m S := by
  intro env A β s r I
  refine wpAny_If (wpAny_mono (I.expr r (hg _ _ _ h env)) (fun x s' h' => ?_) fun _ _ e => e)
  obtain ⟨S', h', I'⟩ := h'
  cases x
  · exact ss_sound hf (h'.2 rfl) env A β s' r I'
  · exact ss_sound hf (h'.1 rfl) env A β s' r I'
theorem XW.forTup {x : Str} {xp : Pos} {es : List PySem.Expr} {kk : Nat} {tp p : Pos} {b : List Stmt} {Q : QS} {f : FE} {bw : Loc → QS → Sto → Prop} (hf : ∀ e Q S, f e Q S → EWs c k m e Q S) (hb : ∀ m Q S, bw m Q S → XW c k (execs b) Q m S)
    (hs : es.any isStar = false) (hz : es.length ≤ 1000) (h : wpEs f es (fun vs S' => forVs bw x (fun _ => True) vs m Q S') S) : XW c k (exec (.For (.Name x xp) (.Tuple es kk tp) b [] p)) Q m S := by
  intro env A β s r I
  refine wpAny_For ?_
  rw [arm_eval_Tuple, star_each hs]
  refine wpAny_bind (wpAny_standAt (wpAny_bind (wpAny_mono (I.expr r (spliced_soundL hf h)) (fun vs s' h' => ?_) fun _ _ e => e)))
  obtain ⟨S', ⟨hvl, h'⟩, I'⟩ := h'
  exact for_tup hb r (by omega) h' I' fun f s' h' => h'
theorem set_fold {iter : PySem.Expr} (h : isSetD iter = false) (env : Env) (x : Value) : foldedSetIterable iter env x = pure x := by cases iter <;> first | rfl | exact ff h.symm
theorem XW.forList {x : Str} {xp : Pos} {e : PySem.Expr} {p : Pos} {b : List Stmt} {Q : QS} {bw : Loc → QS → Sto → Prop} (hb : ∀ m Q S, bw m Q S → XW c k (execs b) Q m S) (hset : isSetD e = false)
    (h : EWs c k m e (fun v S' => ∃ l xs, v = .ref l ∧ S'.lst l = some xs ∧ forVs bw x (fun S'' => S''.lst l = some xs) xs m Q S') S) : XW c k (exec (.For (.Name x xp) e b [] p)) Q m S := by
  intro env A β s r I
  refine wpAny_For (wpAny_mono (I.expr r (h env)) (fun v s' h' => ?_) fun _ _ e => e) (set_fold hset env)
  obtain ⟨S', ⟨l, xs, hv, hl, h'⟩, I'⟩ := h'
  obtain rfl := er_ref hv
  exact for_list hb r hl h' I' fun _ _ e => e.elim
theorem XW.forRange {x f : Str} {xp fp cp p : Pos} {e : PySem.Expr} {b : List Stmt} {Q : QS} {bw : Loc → QS → Sto → Prop} (hb : ∀ m Q S, bw m Q S → XW c k (execs b) Q m S) (hst : isStar e = false) (hx : m.lookup f = some .glob) (hg : GlobVal c f (.type "range"))
    (h : EWs c k m e (fun v S' => ∃ i : Int, v = .int i ∧ 0 ≤ i ∧ i ≤ 1000 ∧ forVs bw x (fun _ => True) ((List.range i.toNat).map fun j : Nat => AV.int (j : Int)) m Q S') S) :
    XW c k (exec (.For (.Name x xp) (.Call (.Name f fp) [e] [] cp) b [] p)) Q m S := by
  intro env A β s r I
  refine wpAny_For ?_
  rw [arm_eval_Call_Name']
  refine wpAny_bind (wpAny_mono (I.expr r (TW.gname (Q := fun v S' => v = .type "range" ∧ S' = S) hx hg ⟨rfl, rfl⟩)) (fun v s' h' => ?_) fun _ _ e => e)
  obtain ⟨S', ⟨rfl, rfl⟩, I'⟩ := h'
  have hs : [e].any isStar = false := by simp [hst]
  show wpAny c.M A (PySem.callWith cp (.type "range") [] (backTo cp (starEach [e] env)) []) _ _ _
  rw [star_each hs]
  refine PyProof.Rows.callWith_type rfl (evalArgs_plain (Calls.spliced_cons (wpAny_mono (I'.expr r (h env)) (fun v s2 h2 => ?_) fun _ _ e => e)))
  obtain ⟨S2, ⟨i, hv, h0, h1, h2⟩, I2⟩ := h2
  obtain ⟨tk, rfl⟩ := er_int hv
  refine Calls.spliced_nil ?_
  refine call_range_1 ?_
  have I3 : Inv c β env m S2 { s2 with heap := s2.heap.push { cls := .type "range", data := .fields #[.int 0 s2.toks, .int i tk, .int 1 (s2.toks + 1)] }, toks := s2.toks + 1 + 1 } := I2.grow fun b o q => Heap.get?_push_of_some _ q
  exact for_range (tk := tk) hb r h0 h1 h2 I3 (IsRange.new ..) fun f s' h' => h'
theorem XW.while {t : PySem.Expr} {b : List Stmt} {p : Pos} {Q : QS} (I : Nat → Loc → Sto → Prop)
    (turn : ∀ n m S, I n m S → TWs c k m t (fun x S' => (x = true → XW c k (execs b) (fun fl m' S'' => match fl with
        | .next => ∃ n', n' < n ∧ I n' m' S''
        | .cont => ∃ n', n' < n ∧ I n' m' S''
        | .brk => Q .next m' S''
        | .ret v => Q (.ret v) m' S'') m S') ∧ (x = false → Q .next m S')) S)
    {n : Nat} (h : I n m S) : XW c k (exec (.While t b [] p)) Q m S := by
  intro env A β s r Iv
  refine wpAny_While (codeAny_whileLoop (fun n s => ∃ m S, I n m S ∧ Inv c β env m S s) (fun n s hI => ?_) n ⟨m, S, h, Iv⟩)
  obtain ⟨m, S, hI, Iv⟩ := hI
  refine wpAny_mono (Iv.expr r (turn n m S hI env)) (fun x s' h' => ?_) fun _ _ e => e.elim
  obtain ⟨S', h', I'⟩ := h'
  cases x with
  | false => exact wpAny_execs_nil ⟨m, S', h'.2 rfl, I'⟩
  | true =>
    refine wpAny_mono (h'.1 rfl env A β s' r I') (fun f s3 h3 => ?_) fun _ _ e => e.elim
    obtain ⟨m3, S3, hq, I3⟩ := h3
    cases f with
    | next => obtain ⟨n', hn, hi⟩ := hq; exact ⟨n', hn, m3, S3, hi, I3⟩
    | cont => obtain ⟨n', hn, hi⟩ := hq; exact ⟨n', hn, m3, S3, hi, I3⟩
    | brk => exact ⟨m3, S3, hq, I3⟩
    | ret v => exact ⟨m3, S3, hq, I3⟩
end
end
section
noncomputable def initB (bs : List (Str × AV)) : Str × NameKind → Str × Bnd
  | (x, .local) => (x, .var (bs.lookup x))
  | (x, .cell) => (x, .cell (bs.lookup x))
  | (x, _) => (x, .glob)
noncomputable def initM (names : List (Str × NameKind)) (bs : List (Str × AV)) : Loc := names.map (initB bs)
noncomputable def okName : Str × NameKind → Bool
  | (x, k) => x != ("__debug__" : Str) && x != ("__classdict__" : Str) && (k == .local || k == .cell || k == .globalImplicit)
theorem initM_lookup (bs : List (Str × AV)) (x : Str) : ∀ names : List (Str × NameKind), (initM names bs).lookup x = (names.lookup x).map fun k => (initB bs (x, k)).2
  | [] => rfl
  | (y, k) :: r => by
    have ih := initM_lookup bs x r
    by_cases h : x = y
    · subst h
      show List.lookup x (initB bs (x, k) :: initM r bs) = _
      have e : initB bs (x, k) = (x, (initB bs (x, k)).2) := by cases k <;> rfl
      rw [e]; simp
    · show List.lookup x (initB bs (y, k) :: initM r bs) = _
      have e : initB bs (y, k) = (y, (initB bs (y, k)).2) := by cases k <;> rfl
      rw [e, List.lookup_cons, beq_eq_false_iff_ne.mpr h, List.lookup_cons, beq_eq_false_iff_ne.mpr h]
      exact ih
noncomputable def erB (p : Str × Value) : Str × AV := (p.1, er p.2)
theorem lookup_erB (l : List (Str × Value)) (x : Str) : (l.map erB).lookup x = (l.lookup x).map er := by
  induction l with
  | nil => rfl
  | cons p r ih =>
    obtain ⟨y, v⟩ := p
    rw [List.map_cons]
    show List.lookup x ((y, er v) :: r.map erB) = _
    rw [List.lookup_cons, List.lookup_cons]
    cases x == y <;> simp [ih]
section
variable {c : Cst} {k : Nat} {β : Bas} {env : Env} {m : Loc} {S : Sto} {s : Shared}
noncomputable def retQ (Q : AV → Sto → Prop) : QS := fun fl _ S' => match fl with
  | .ret v => Q v S'
  | _ => Q .none S'
theorem Room.down {A : Around} (r : Room A (k + 1)) (env : Env) : Room (A.deeper env) k :=
  ⟨by have := r.depth; show A.depth + 1 + k ≤ 900; omega, by have := r.units; show A.units + 3 + 20 * k ≤ 9000; omega, r.hand⟩
end
end
section
theorem upd_at {α : Type} (f : Addr → Option α) (a b : Addr) (v : α) : upd f a v b = if b = a then some v else f b := rfl
end
section
structure Sub (S' S : Sto) : Prop where
  nd : ∀ a r, S'.nd a = some r → S.nd a = some r
  tr : ∀ a r, S'.tr a = some r → S.tr a = some r
  ls : ∀ a r, S'.ls a = some r → S.ls a = some r
  tp : ∀ a r, S'.tp a = some r → S.tp a = some r
  dt : ∀ a r, S'.dt a = some r → S.dt a = some r
  raw : S'.raw = S.raw
  ro : S'.ro = S.ro
section
variable {c : Cst} {k : Nat} {β : Bas} {S : Sto} {s : Shared} {m : Loc}
theorem InvS.sub {S' : Sto} (I : InvS c β S s) (h : Sub S' S) : InvS c β S' s := by
  refine ⟨I.gens, I.os, I.base, fun a xs q => I.ro a xs (by rw [← h.ro]; exact q), ?_⟩
  obtain ⟨σ, L, e⟩ := I.rest
  refine ⟨σ, L, fun a r q => e.nd a r (h.nd a r q), fun a r q => e.tr a r (h.tr a r q), fun a r q => e.ls a r (h.ls a r q), fun a r q => e.tp a r (h.tp a r q), fun a r q => e.dt a r (h.dt a r q),
    fun a C fs q => e.raw a C fs (by rw [← h.raw]; exact q), fun a q z => ?_⟩
  have ex := e.excl a q (by rw [← h.raw]; exact z)
  refine ⟨none_of fun r y => ?_, none_of fun r y => ?_⟩
  · have := h.nd a r y; rw [ex.1] at this; cases this
  · have := h.tr a r y; rw [ex.2] at this; cases this
theorem CW.forget {f : Value} {args : List AV} {Q : AV → Sto → Prop} (h : CW c k f args (fun v S'' => ∃ S', Sub S' S'' ∧ Q v S') S) : CW c k f args Q S :=
  fun A β s vs r I e => wpAny_mono (h A β s vs r I e) (fun _ _ ⟨_, ⟨S', hs, hq⟩, I'⟩ => ⟨S', hq, I'.sub hs⟩) fun _ _ e => e
theorem CW.max {a b : Int} {Q : AV → Sto → Prop} (h : Q (.int (max a b)) S) : CW c k (.builtin "max") [.int a, .int b] Q S := by
  intro A β s vs r I e
  obtain ⟨x, vs, rfl, hx, e⟩ := List.map_eq_cons_iff.mp e
  obtain ⟨y, vs, rfl, hy, e⟩ := List.map_eq_cons_iff.mp e
  obtain rfl := List.map_eq_nil_iff.mp e
  · obtain ⟨t, rfl⟩ := er_int hx
    obtain ⟨u, rfl⟩ := er_int hy
    refine max_two_ints r.hand fun h' tk hk => ?_
    refine ⟨S, ?_, (I.grow hk).toks tk⟩
    by_cases hc : b > a
    · rw [if_pos hc]; have : Max.max a b = b := by omega
      rw [this] at h; exact h
    · rw [if_neg hc]; have : Max.max a b = a := by omega
      rw [this] at h; exact h
theorem CW.len {l : Addr} {xs : List AV} {Q : AV → Sto → Prop} (hl : S.lst l = some xs) (h : Q (.int xs.length) S) : CW c k (.builtin "len") [.ref l] Q S := by
  intro A β s vs r I e
  obtain ⟨x, vs, rfl, hx, e⟩ := List.map_eq_cons_iff.mp e
  obtain rfl := List.map_eq_nil_iff.mp e
  · skip
    obtain rfl := er_ref hx
    obtain ⟨hz, items, hi, hm⟩ := I.lst hl
    have hs : items.size = xs.length := by rw [← hm]; simp
    refine call_len_list hi (by omega) ⟨S, ?_, I.toks _⟩
    rw [hs]; exact h
theorem CW.abs {a : Int} {Q : AV → Sto → Prop} (h : Q (.int (if a < 0 then -a else a)) S) : CW c k (.builtin "abs") [.int a] Q S := by
  intro A β s vs r I e
  obtain ⟨x, vs, rfl, hx, e⟩ := List.map_eq_cons_iff.mp e
  obtain rfl := List.map_eq_nil_iff.mp e
  · skip
    obtain ⟨t, rfl⟩ := er_int hx
    exact call_abs_int fun u tk => ⟨S, h, I.toks tk⟩
end
end
section
section
variable {c : Cst} {k : Nat} {β : Bas} {as : List Addr} {env : Env} {m : Loc} {S : Sto} {s : Shared}
theorem InvS.weaken {β1 β2 : Bas} (I : InvS c β1 S s) (hb : ∀ a o, c.B.heap.get? a = some o → β2 a = some o) (h : ∀ a o, β2 a = some o → β1 a = some o) : InvS c β2 S s := by
  obtain ⟨g, o, b, ro, σ, L, e⟩ := I
  refine ⟨g, o, hb, ro, σ, ⟨fun a ob q => L.keep a ob (h a ob q), L.rep, fun a ob q => ?_⟩, e⟩
  cases z : β2 a with
  | none => rfl
  | some o' => have := L.apart a ob q; rw [h a o' z] at this; cases this
structure Hold (c : Cst) (β : Bas) (as : List Addr) (S : Sto) (s : Shared) : Prop where
  base : ∀ a o, c.B.heap.get? a = some o → β a = some o
  fresh : ∀ a ∈ as, β a = none
  alive : ∀ a ∈ as, ∃ o, s.heap.get? a = some o
  inv : InvS c (pushB β s.heap as) S s
theorem Hold.nil (I : InvS c β S s) : Hold c β [] S s :=
  ⟨I.base, fun _ h => (nomatch h), fun _ h => (nomatch h), by
    have : pushB β s.heap [] = β := by funext a; exact pushB_out (List.not_mem_nil)
    rw [this]; exact I⟩
theorem Hold.push {o : Obj} (H : Hold c β as S s) (hf : o.isFreed = false) {t : Nat} :
    Hold c β (s.heap.objs.size :: as) S { s with heap := s.heap.push o, toks := t } ∧ s.heap.objs.size ∉ as ∧ β s.heap.objs.size = none := by
  have nf : s.heap.objs.size ∉ as := fun q => by obtain ⟨o', e⟩ := H.alive _ q; exact absurd (Heap.lt_size e) (Nat.lt_irrefl _)
  obtain ⟨g, os, b, ro, σ, L, e⟩ := H.inv
  have f := L.fresh (Nat.le_refl s.heap.objs.size)
  have hb : β s.heap.objs.size = none := by have := f.2; rwa [pushB_out nf] at this
  have inn : ∀ a ∈ s.heap.objs.size :: as, β a = none := fun a q => by
    rcases List.mem_cons.mp q with rfl | q
    · exact hb
    · exact H.fresh a q
  refine ⟨⟨H.base, inn, fun a q => ?_, g, os, fun a ob q => ?_, ro, σ, ⟨fun a ob q => ?_, fun a ob q => ?_, fun a ob q => ?_⟩, e⟩, nf, hb⟩
  · rcases List.mem_cons.mp q with rfl | q
    · exact ⟨o, Heap.get?_push_size _ hf⟩
    · obtain ⟨o', e'⟩ := H.alive a q; exact ⟨o', Heap.get?_push_of_some _ e'⟩
  · have z := H.base a ob q
    rw [pushB_out fun y => by rw [inn a y] at z; cases z]; exact z
  · by_cases y : a ∈ s.heap.objs.size :: as
    · rw [pushB_in y] at q; exact q
    · rw [pushB_out y] at q
      exact Heap.get?_push_of_some _ (L.keep a ob (by rw [pushB_out fun y' => y (List.mem_cons_of_mem _ y')]; exact q))
  · exact (L.rep a ob q).at fun ob' => Heap.get?_push_of_some _
  · have na : a ≠ s.heap.objs.size := fun z => by rw [z, f.1] at q; cases q
    have nas : a ∉ as := fun z => by
      have := L.apart a ob q
      rw [pushB_in z] at this
      obtain ⟨o', e'⟩ := H.alive a z
      rw [e'] at this; cases this
    rw [pushB_out fun y => by rcases List.mem_cons.mp y with y | y; exact na y; exact nas y]
    have := L.apart a ob q
    rwa [pushB_out nas] at this
theorem Hold.touch {x : Addr} {h' : Heap} {t : Nat} (H : Hold c β as S s) (hx : x ∈ as) (hs : Heap.ExtBut x s.heap h') (ha : ∃ o, h'.get? x = some o) : Hold c β as S { s with heap := h', toks := t } := by
  obtain ⟨g, o, b, ro, σ, L, e⟩ := H.inv
  have un : ∀ a ob, σ a = some ob → a ∉ as := fun a ob q z => by
    have := L.apart a ob q
    rw [pushB_in z] at this
    obtain ⟨ob', h2⟩ := H.alive a z
    rw [this] at h2; cases h2
  refine ⟨H.base, H.fresh, fun a q => ?_, g, o, fun a ob q => ?_, ro, σ, ⟨fun a ob q => ?_, fun a ob q => ?_, fun a ob q => ?_⟩, e⟩
  · by_cases z : a = x
    · subst z; exact ha
    · obtain ⟨o, e⟩ := H.alive a q; exact ⟨o, hs a o z e⟩
  · have z := H.base a ob q
    rw [pushB_out fun y => by rw [H.fresh a y] at z; cases z]; exact z
  · by_cases y : a ∈ as
    · rw [pushB_in y] at q; exact q
    · rw [pushB_out y] at q
      exact hs a ob (fun w => by subst w; exact y hx) (L.keep a ob (by rw [pushB_out y]; exact q))
  · exact (L.rep a ob q).at fun ob' => hs a ob' (fun w => by subst w; exact un a ob q hx)
  · rw [pushB_out (un a ob q)]
    have := L.apart a ob q
    rwa [pushB_out (un a ob q)] at this
theorem Hold.run {α : Type} {A : Around} {t : Sem α} {Q : α → Sto → Prop} (H : Hold c β as S s) (r : Room A k) (F : FrameIn (pushB β s.heap as) env m) (h : TW c k env m t Q S) :
    wpAny c.M A t (fun v s' => ∃ S', Q v S' ∧ Hold c β as S' s' ∧ FrameIn (pushB β s'.heap as) env m ∧ ∀ a ∈ as, s'.heap.get? a = s.heap.get? a) NoE s := by
  refine wpAny_mono (h A _ s r F H.inv) (fun v s' ⟨S', hq, I'⟩ => ?_) fun _ _ e => e
  have keep := I'.keep
  have same : ∀ a ∈ as, s'.heap.get? a = s.heap.get? a := fun a ha => by
    obtain ⟨o, e⟩ := H.alive a ha
    rw [e]; exact keep a o (by rw [pushB_in ha]; exact e)
  have pe : pushB β s'.heap as = pushB β s.heap as := by
    funext a
    by_cases y : a ∈ as
    · rw [pushB_in y, pushB_in y, same a y]
    · rw [pushB_out y, pushB_out y]
  refine ⟨S', hq, ⟨H.base, H.fresh, fun a ha => ?_, by rw [pe]; exact I'⟩, by rw [pe]; exact F, same⟩
  obtain ⟨o, e⟩ := H.alive a ha
  exact ⟨o, (same a ha).trans e⟩
theorem Hold.drop (H : Hold c β as S s) : InvS c β S s :=
  H.inv.weaken H.base fun a o q => by
    by_cases y : a ∈ as
    · rw [H.fresh a y] at q; cases q
    · rw [pushB_out y]; exact q
theorem Hold.own {D : Addr} {items : Array Value} (H : Hold c β as S s) (hD : D ∈ as) (hp : s.heap.PlainList D items) (hz : items.size ≤ 1000) : S.Free D ∧ InvS c β (S.setLs D (items.toList.map er)) s := by
  obtain ⟨g, o, b, ro, σ, L, e⟩ := H.drop
  obtain ⟨_, _, _, _, σ', L', e'⟩ := H.inv
  have hn : σ' D = none := by
    cases q : σ' D with
    | none => rfl
    | some ob =>
      have := L'.apart D ob q
      rw [pushB_in hD] at this
      obtain ⟨o', z⟩ := H.alive D hD
      rw [z] at this; cases this
  have L2 : Low c β σ' s.heap := ⟨L.keep, L'.rep, fun a ob q => by
    have := L'.apart a ob q
    by_cases y : a ∈ as
    · exact H.fresh a y
    · rwa [pushB_out y] at this⟩
  exact ⟨e'.free hn, g, o, b, ro, _, L2.upd (x := D) (o := .list (items.toList.map er)) (fun a ob _ q => q) (H.fresh D hD) ⟨by simpa using hz, items, hp, rfl⟩, e'.setLs (.inl hn)⟩
theorem Hold.store {A : Around} {x : Str} {u : Value} {m' : Loc} {Q : Unit → Shared → Prop} (H : Hold c β as S s) (F : FrameIn (pushB β s.heap as) env m) (hC : env.locals ∈ as) (hv : ∃ w, m.lookup x = some (.var w)) (h : setV x (er u) m = some m')
    (hq : ∀ h' t, Heap.SameBut env.locals s.heap h' → Hold c β as S { s with heap := h', toks := t } → FrameIn (pushB β h' as) env m' → Q () { s with heap := h', toks := t }) : wpAny c.M A (storeName env x u) Q NoE s := by
  obtain ⟨o, es, ep, mv, e1, e2, e3, e4, e5⟩ := F.loc
  obtain ⟨w, h1⟩ := hv
  have h2 : ∀ y, m'.lookup y = if y = x then some (.var (some (er u))) else m.lookup y := by
    rcases setV_spec h with ⟨_, h2⟩ | ⟨⟨w', h3⟩, _⟩
    · exact h2
    · rw [h1] at h3; cases h3
  obtain ⟨hk, _⟩ := e5 x w h1
  have e1' := e1
  rw [pushB_in hC] at e1'
  refine wpAny_storeName_local hk (m := mv) ⟨o, es, ep, e1', e2, e3, e4⟩ (fun h' N' hs => hq h' _ hs (H.touch hC hs.extBut (let ⟨o, _, _, e, _⟩ := N'; ⟨o, e⟩)) ?_) (by rw [F.ok.kind]; rfl)
  have keep : ∀ a ob, pushB β s.heap as a = some ob → (∀ q : a = env.locals, False) → pushB β h' as a = some ob := fun a ob q nl => by
    by_cases y : a ∈ as
    · rw [pushB_in y] at q ⊢; exact hs.extBut a ob nl q
    · rw [pushB_out y] at q ⊢; exact q
  refine ⟨F.ok, fun y b q => ?_, ?_, fun y b q => ?_, fun y b q => ?_, fun y q => ?_⟩
  · rw [h2] at q
    split at q
    · rename_i z; subst z; exact F.names y _ h1
    · exact F.names y b q
  · obtain ⟨o', es', ep', f1, f2, f3, f4⟩ := N'
    refine ⟨o', es', ep', _, by rw [pushB_in hC]; exact f1, f2, f3, f4, fun y b q => ?_⟩
    rw [h2] at q
    split at q
    · rename_i z
      cases q
      subst z
      exact ⟨hk, fun w' hw => by cases hw; simp⟩
    · rename_i z
      obtain ⟨g1, g2⟩ := e5 y b q
      exact ⟨g1, fun w' hw => by simp only [if_neg z]; exact g2 w' hw⟩
  · rw [h2] at q
    split at q
    · cases q
    · obtain ⟨g1, a, o', u', g2, g3, g4, g5⟩ := F.cell y b q
      refine ⟨g1, a, o', u', g2, keep a o' g3 fun z => ?_, g4, g5⟩
      rw [z, e1] at g3; cases g3; rw [e2] at g4; cases g4
  · rw [h2] at q
    split at q
    · cases q
    · obtain ⟨g1, a, o', u', g2, g3, g4, g5⟩ := F.free y b q
      refine ⟨g1, a, o', u', g2, keep a o' g3 fun z => ?_, g4, g5⟩
      rw [z, e1] at g3; cases g3; rw [e2] at g4; cases g4
  · rw [h2] at q
    split at q
    · cases q
    · exact F.glob y q
end
noncomputable def closeL (cells : List (Str × Addr)) : List (Str × NameKind) → List (Str × Addr) → List (Str × Addr)
  | [], acc => acc
  | (n, k) :: r, acc => if k == .free then closeL cells r ((n, (cells.lookup n).getD 0) :: acc) else closeL cells r acc
theorem closureFor_eq {scope : Scope} {env : Env} (h : ∀ x ∈ scope.names, x.2 = .free → ∃ a, env.cells.lookup x.1 = some a) : closureFor scope env = pure (closeL env.cells scope.names []) := by
  unfold closureFor
  have key : ∀ (names : List (Str × NameKind)) (acc : List (Str × Addr)), (∀ x ∈ names, x.2 = .free → ∃ a, env.cells.lookup x.1 = some a) →
      (forIn names acc fun (x : Str × NameKind) (cs : List (Str × Addr)) => match x with
        | (name, kind) => if (kind == NameKind.free) = true then do let y ← cellOf env name; pure (ForInStep.yield ((name, y) :: cs)) else pure (ForInStep.yield cs)) = (pure (closeL env.cells names acc) : Sem _) := by
    intro names
    induction names with
    | nil => intro acc _; rfl
    | cons x r ih =>
      obtain ⟨n, kd⟩ := x
      intro acc h
      rw [List.forIn_cons]
      unfold closeL
      dsimp only
      have hr := fun a => ih a fun y hy => h y (List.mem_cons_of_mem _ hy)
      cases q : kd == NameKind.free with
      | false =>
        simp only [Bool.false_eq_true, if_false]
        exact hr acc
      | true =>
        obtain ⟨a, ha⟩ := h (n, kd) List.mem_cons_self (eq_of_beq q)
        simp only [if_true]
        have : cellOf env n = pure a := by unfold cellOf; rw [ha]
        rw [this, ha]
        exact hr ((n, a) :: acc)
  have := key scope.names [] h
  simpa using this
theorem closeL_lookup {cells : List (Str × Addr)} {x : Str} {a : Addr} (ha : cells.lookup x = some a) : ∀ (names : List (Str × NameKind)) (acc : List (Str × Addr)), (∀ b, acc.lookup x = some b → b = a) → ((x, NameKind.free) ∈ names ∨ acc.lookup x = some a) → (closeL cells names acc).lookup x = some a
  | [], acc, h, h' => by
    rcases h' with h' | h'
    · cases h'
    · exact h'
  | (n, kd) :: r, acc, h, h' => by
    unfold closeL
    have go : ∀ acc', (∀ b, acc'.lookup x = some b → b = a) → ((x, NameKind.free) ∈ r ∨ acc'.lookup x = some a) → (closeL cells r acc').lookup x = some a := fun acc' => closeL_lookup ha r acc'
    cases q : kd == NameKind.free with
    | false =>
      simp only [Bool.false_eq_true, if_false]
      refine go acc h ?_
      rcases h' with h' | h'
      · rcases List.mem_cons.mp h' with e | h'
        · cases e; cases q
        · exact .inl h'
      · exact .inr h'
    | true =>
      simp only [if_true]
      have l : ((n, (cells.lookup n).getD 0) :: acc).lookup x = if x = n then some a else acc.lookup x := by
        by_cases e : x = n
        · subst e; simp [ha]
        · simp [List.lookup, beq_eq_false_iff_ne.mpr e, e]
      refine go _ (fun b hb => ?_) ?_
      · rw [l] at hb
        split at hb
        · cases hb; rfl
        · exact h b hb
      · rw [l]
        by_cases e : x = n
        · simp [e]
        · rcases h' with h' | h'
          · rcases List.mem_cons.mp h' with e' | h'
            · cases e'; exact absurd rfl e
            · exact .inl h'
          · exact .inr (by simp [e, h'])
noncomputable def compB (m : Loc) : Str × NameKind → Str × Bnd
  | (x, .local) => (x, .var none)
  | (x, .free) => (x, (m.lookup x).getD .glob)
  | (x, _) => (x, .glob)
noncomputable def compM (m : Loc) (names : List (Str × NameKind)) : Loc := names.map (compB m)
noncomputable def okCell : Option Bnd → Bool
  | some (.cell _) => true
  | _ => false
noncomputable def okComp (m : Loc) : Str × NameKind → Bool
  | (x, .local) => x != ("__debug__" : Str) && x != ("__classdict__" : Str)
  | (x, .free) => okCell (m.lookup x)
  | (x, .globalImplicit) => x != ("__debug__" : Str) && x != ("__classdict__" : Str)
  | _ => false
theorem compM_lookup (m : Loc) (x : Str) : ∀ names : List (Str × NameKind), (compM m names).lookup x = (names.lookup x).map fun k => (compB m (x, k)).2
  | [] => rfl
  | (y, k) :: r => by
    have ih := compM_lookup m x r
    by_cases h : x = y
    · subst h
      show List.lookup x (compB m (x, k) :: compM m r) = _
      have e : compB m (x, k) = (x, (compB m (x, k)).2) := by cases k <;> rfl
      rw [e]; simp
    · show List.lookup x (compB m (y, k) :: compM m r) = _
      have e : compB m (y, k) = (y, (compB m (y, k)).2) := by cases k <;> rfl
      rw [e, List.lookup_cons, beq_eq_false_iff_ne.mpr h, List.lookup_cons, beq_eq_false_iff_ne.mpr h]
      exact ih
theorem lookup_relabel {env : Env} (x : Str) : ∀ names : List (Str × NameKind),
    (names.map fun (n, k) => if (k == NameKind.free && env.scope.kind == .function && env.kindOf n == some .cell) then (n, NameKind.cell) else (n, k)).lookup x =
      (names.lookup x).map fun k => if (k == NameKind.free && env.scope.kind == .function && env.kindOf x == some .cell) = true then NameKind.cell else k
  | [] => rfl
  | (n, k) :: r => by
    have ih := lookup_relabel (env := env) x r
    show List.lookup x ((if (k == NameKind.free && env.scope.kind == .function && env.kindOf n == some .cell) = true then (n, NameKind.cell) else (n, k)) :: _) = _
    by_cases h : x = n
    · subst h
      by_cases hc : (k == NameKind.free && env.scope.kind == .function && env.kindOf x == some .cell) = true
      · rw [if_pos hc, List.lookup_cons_self, List.lookup_cons_self, Option.map_some, if_pos hc]
      · rw [if_neg hc, List.lookup_cons_self, List.lookup_cons_self, Option.map_some, if_neg hc]
    · have hx : (x == n) = false := beq_eq_false_iff_ne.mpr h
      have e : ∀ k' : NameKind, List.lookup x ((n, k') :: (r.map fun (n, k) => if (k == NameKind.free && env.scope.kind == .function && env.kindOf n == some .cell) then (n, NameKind.cell) else (n, k))) = (r.map fun (n, k) => if (k == NameKind.free && env.scope.kind == .function && env.kindOf n == some .cell) then (n, NameKind.cell) else (n, k)).lookup x := fun k' => by rw [List.lookup_cons, hx]
      have e2 : List.lookup x ((n, k) :: r) = List.lookup x r := by rw [List.lookup_cons, hx]
      rw [e2]
      by_cases hc : (k == NameKind.free && env.scope.kind == .function && env.kindOf n == some .cell) = true
      · rw [if_pos hc, e]; exact ih
      · rw [if_neg hc, e]; exact ih
theorem comp_frame {g : Bas} {env : Env} {m : Loc} {scope : Scope} {C : Addr} (F : FrameIn g env m) (hk : scope.kind = .function) (hok : (scope.names.all (okComp m)) = true)
    (hC : ∃ o es ep, g C = some o ∧ o.data = .dict es ep ∧ StrKeys es ∧ ∀ name, nsFind es name = none) : FrameIn g (compEnvC scope (closeL env.cells scope.names []) C env) (compM m scope.names) := by
  have kind : ∀ x b, (compM m scope.names).lookup x = some b → ∃ kd, scope.names.lookup x = some kd ∧ b = (compB m (x, kd)).2 ∧ okComp m (x, kd) = true := by
    intro x b hx
    rw [compM_lookup] at hx
    obtain ⟨kd, h1, h2⟩ := Option.map_eq_some_iff.mp hx
    exact ⟨kd, h1, h2.symm, List.all_eq_true.mp hok _ (PySem.mem_of_lookup h1)⟩
  have kindOf : ∀ x, (compEnvC scope (closeL env.cells scope.names []) C env).kindOf x = (scope.names.lookup x).map fun k => if (k == NameKind.free && env.scope.kind == .function && env.kindOf x == some .cell) = true then NameKind.cell else k := fun x => lookup_relabel x _
  have cellv : ∀ x, okCell (m.lookup x) = true → ∃ v, m.lookup x = some (.cell v) := fun x h => by
    cases q : m.lookup x with
    | none => rw [q] at h; cases h
    | some b => rw [q] at h; cases b <;> first | (cases h; done) | exact ⟨_, rfl⟩
  refine ⟨⟨hk, F.ok.glob, F.ok.blt⟩, fun x b hx => ?_, ?_, fun x v hx => ?_, fun x v hx => ?_, fun x hx => ?_⟩
  · obtain ⟨kd, h1, h2, h3⟩ := kind x b hx
    cases kd <;> simp only [okComp] at h3 <;> first | (cases h3; done) | skip
    · simp only [Bool.and_eq_true, bne_iff_ne, ne_eq] at h3
      exact ⟨beq_eq_false_iff_ne.mpr h3.1, beq_eq_false_iff_ne.mpr h3.2⟩
    · obtain ⟨v, e⟩ := cellv x h3
      exact F.names x _ e
    · simp only [Bool.and_eq_true, bne_iff_ne, ne_eq] at h3
      exact ⟨beq_eq_false_iff_ne.mpr h3.1, beq_eq_false_iff_ne.mpr h3.2⟩
  · obtain ⟨o, es, ep, e1, e2, e3, e4⟩ := hC
    refine ⟨o, es, ep, _, e1, e2, e3, e4, fun x v hx => ?_⟩
    obtain ⟨kd, h1, h2, h3⟩ := kind x _ hx
    cases kd <;> simp only [okComp] at h3 <;> first | (cases h3; done) | skip
    · cases h2
      exact ⟨by rw [kindOf, h1]; rfl, fun w hw => by cases hw⟩
    · obtain ⟨v', e⟩ := cellv x h3
      simp only [compB, e, Option.getD_some] at h2
      cases h2
    · cases h2
  · obtain ⟨kd, h1, h2, h3⟩ := kind x _ hx
    cases kd <;> simp only [okComp] at h3 <;> first | (cases h3; done) | skip
    · cases h2
    · obtain ⟨v', e⟩ := cellv x h3
      simp only [compB, e, Option.getD_some] at h2
      cases h2
      obtain ⟨g1, a, o, u, g2, g3, g4, g5⟩ := F.cell x _ e
      refine ⟨by rw [kindOf, h1, Option.map_some, F.ok.kind, g1]; rfl, a, o, u, ?_, g3, g4, g5⟩
      exact closeL_lookup g2 _ _ (fun _ h => (nomatch h)) (.inl (PySem.mem_of_lookup h1))
    · cases h2
  · obtain ⟨kd, h1, h2, h3⟩ := kind x _ hx
    cases kd <;> simp only [okComp] at h3 <;> first | (cases h3; done) | skip
    · cases h2
    · obtain ⟨v', e⟩ := cellv x h3
      simp only [compB, e, Option.getD_some] at h2
      cases h2
    · cases h2
  · obtain ⟨kd, h1, h2, h3⟩ := kind x _ hx
    cases kd <;> simp only [okComp] at h3 <;> first | (cases h3; done) | skip
    · cases h2
    · obtain ⟨v', e⟩ := cellv x h3
      simp only [compB, e, Option.getD_some] at h2
      cases h2
    · rw [kindOf, h1]; rfl
theorem comp_clos {g : Bas} {env : Env} {m : Loc} {scope : Scope} (F : FrameIn g env m) (hok : (scope.names.all (okComp m)) = true) : closureFor scope env = pure (closeL env.cells scope.names []) := by
  refine closureFor_eq fun x hx hf => ?_
  have h3 := List.all_eq_true.mp hok x hx
  obtain ⟨n, kd⟩ := x
  cases hf
  simp only [okComp] at h3
  cases q : m.lookup n with
  | none => rw [q] at h3; cases h3
  | some b =>
    rw [q] at h3
    cases b <;> first | (cases h3; done) | skip
    obtain ⟨_, a, _, _, e, _⟩ := F.cell n _ q
    exact ⟨a, e⟩
end
section
noncomputable def compVs {α : Type} (test : Loc → (Bool → Sto → Prop) → Sto → Prop) (el : Loc → (AV → Sto → Prop) → Sto → Prop) (set : α → Loc → Loc → Prop) (P : Sto → Prop) : List α → Loc → List AV → (List AV → Sto → Prop) → Sto → Prop
  | [], _, ys, Q, S => P S ∧ Q ys S
  | v :: vs, m, ys, Q, S => P S ∧ ∃ m', set v m m' ∧ test m' (fun ok S1 => (ok = true → el m' (fun y S2 => compVs test el set P vs m' (ys ++ [y]) Q S2) S1) ∧ (ok = false → compVs test el set P vs m' ys Q S1)) S
noncomputable def IW (c : Cst) (k : Nat) (m : Loc) (ifs : List PySem.Expr) (Q : Bool → Sto → Prop) (S : Sto) : Prop :=
  ∀ env, TW c k env m (forIn ifs true fun t r => if r = true then do let ok ← isTrue t env (eval t env); pure (ForInStep.yield ok) else pure (ForInStep.yield r)) Q S
noncomputable def setN (x : Str) (v : AV) (m m' : Loc) : Prop := (∃ w, m.lookup x = some (.var w)) ∧ setV x v m = some m'
structure CSt (c : Cst) (β : Bas) (it D : Addr) (cenv : Env) (m : Loc) (ys : List AV) (S : Sto) (s : Shared) : Prop where
  hold : Hold c β [cenv.locals, D, it] S s
  frame : FrameIn (pushB β s.heap [cenv.locals, D, it]) cenv m
  acc : ∃ items : Array Value, s.heap.PlainList D items ∧ items.toList.map er = ys
section
variable {c : Cst} {k : Nat} {β : Bas} {as : List Addr} {env cenv : Env} {m : Loc} {S : Sto} {s : Shared}
theorem IW.nil {Q : Bool → Sto → Prop} (h : Q true S) : IW c k m [] Q S := fun _ _ _ _ _ _ I => wpAny_tests_nil ⟨S, h, I⟩
theorem IW.one {t : PySem.Expr} {Q : Bool → Sto → Prop} (h : TWs c k m t Q S) : IW c k m [t] Q S := fun env A β s r F I => wpAny_tests_one (h env A β s r F I)
theorem FrameIn.but {x : Addr} {h' : Heap} (F : FrameIn (pushB β s.heap as) env m) (hs : Heap.ExtBut x s.heap h') (hx : ∀ o, s.heap.get? x = some o → (∀ es ep, o.data ≠ .dict es ep) ∧ ∀ u, o.data ≠ .cell u) : FrameIn (pushB β h' as) env m := by
  have keep : ∀ a ob, pushB β s.heap as a = some ob → ((∃ es ep, ob.data = .dict es ep) ∨ ∃ u, ob.data = .cell u) → pushB β h' as a = some ob := fun a ob q hd => by
    by_cases y : a ∈ as
    · rw [pushB_in y] at q ⊢
      refine hs a ob (fun z => ?_) q
      subst z
      rcases hd with ⟨es, ep, e⟩ | ⟨u, e⟩
      · exact (hx ob q).1 es ep e
      · exact (hx ob q).2 u e
    · rw [pushB_out y] at q ⊢; exact q
  refine ⟨F.ok, F.names, ?_, fun y v q => ?_, fun y v q => ?_, F.glob⟩
  · obtain ⟨o, es, ep, mv, e1, e2, r⟩ := F.loc
    exact ⟨o, es, ep, mv, keep _ _ e1 (.inl ⟨_, _, e2⟩), e2, r⟩
  · obtain ⟨h, a, o, u, e1, e2, e3, r⟩ := F.cell y v q
    exact ⟨h, a, o, u, e1, keep _ _ e2 (.inr ⟨_, e3⟩), e3, r⟩
  · obtain ⟨h, a, o, u, e1, e2, e3, r⟩ := F.free y v q
    exact ⟨h, a, o, u, e1, keep _ _ e2 (.inr ⟨_, e3⟩), e3, r⟩
theorem Hold.lose {it : Addr} {as' : List Addr} {h' : Heap} {t : Nat} (H : Hold c β as S s) (hi : it ∈ as) (hs : Heap.ExtBut it s.heap h') (ha : ∀ a ∈ as', a ∈ as ∧ a ≠ it) : Hold c β as' S { s with heap := h', toks := t } := by
  obtain ⟨g, o, b, ro, σ, L, e⟩ := H.inv
  have un : ∀ a ob, σ a = some ob → a ∉ as := fun a ob q z => by
    have := L.apart a ob q
    rw [pushB_in z] at this
    obtain ⟨ob', h2⟩ := H.alive a z
    rw [this] at h2; cases h2
  refine ⟨H.base, fun a q => H.fresh a (ha a q).1, fun a q => ?_, g, o, fun a ob q => ?_, ro, σ, ⟨fun a ob q => ?_, fun a ob q => ?_, fun a ob q => ?_⟩, e⟩
  · obtain ⟨o, e⟩ := H.alive a (ha a q).1; exact ⟨o, hs a o (ha a q).2 e⟩
  · have z := H.base a ob q
    rw [pushB_out fun y => by rw [H.fresh a (ha a y).1] at z; cases z]; exact z
  · by_cases y : a ∈ as'
    · rw [pushB_in y] at q; exact q
    · rw [pushB_out y] at q
      have na : a ∉ as := fun w => by rw [H.fresh a w] at q; cases q
      exact hs a ob (fun w => by subst w; exact na hi) (L.keep a ob (by rw [pushB_out na]; exact q))
  · exact (L.rep a ob q).at fun ob' => hs a ob' (fun w => by subst w; exact un a ob q hi)
  · rw [pushB_out fun y => un a ob q (ha a y).1]
    have := L.apart a ob q
    rwa [pushB_out (un a ob q)] at this
structure CEnd (c : Cst) (β : Bas) (C D : Addr) (ys : List AV) (S : Sto) (s : Shared) : Prop where
  hold : Hold c β [C, D] S s
  ns : ∃ mv, s.heap.Ns C mv
  acc : ∃ items : Array Value, s.heap.PlainList D items ∧ items.toList.map er = ys
  len : ys.length ≤ 1000
theorem comp_after {A : Around} (r : Room A k) {α : Type} {test : Loc → (Bool → Sto → Prop) → Sto → Prop} {el : Loc → (AV → Sto → Prop) → Sto → Prop} {set : α → Loc → Loc → Prop} {P : Sto → Prop} {J : List α → Shared → Prop} {elt : PySem.Expr} {ifs : List PySem.Expr} {it D : Addr}
    (ht : ∀ m Q S, test m Q S → IW c k m ifs Q S) (he : ∀ m Q S, el m Q S → EWs c k m elt Q S) (hJ : ∀ vs s s', J vs s → s'.heap.get? it = s.heap.get? it → J vs s') (hDi : D ≠ it)
    {vs : List α} {ys : List AV} {Q : List AV → Sto → Prop} {n : Nat} {I : Nat → Shared → Prop} {E : Value → Shared → Prop}
    (back : ∀ ys' S s', (ys' = ys ∨ ∃ y, ys' = ys ++ [y]) → compVs test el set P vs m ys' Q S → J vs s' → CSt c β it D cenv m ys' S s' → ∃ n', n' < n ∧ I n' s')
    (h : test m (fun ok S1 => (ok = true → el m (fun y S2 => compVs test el set P vs m (ys ++ [y]) Q S2) S1) ∧ (ok = false → compVs test el set P vs m ys Q S1)) S) (hj : J vs s) (st : CSt c β it D cenv m ys S s) (hlen : ys.length < 1000) :
    wpAny c.M A (forIn ifs true fun t r => if r = true then do let ok ← isTrue t cenv (eval t cenv); pure (ForInStep.yield ok) else pure (ForInStep.yield r))
      (fun ok s₃ => if ok = true then wpAny c.M A (eval elt cenv) (fun x s₄ => wpAny c.M A (call (.builtin "list.append") [.ref D, x]) (fun _ s₅ => ∃ n', n' < n ∧ I n' s₅) E s₄) E s₃ else ∃ n', n' < n ∧ I n' s₃) E s := by
  obtain ⟨items, hp, hm⟩ := st.acc
  have mD : D ∈ [cenv.locals, D, it] := by simp
  have mI : it ∈ [cenv.locals, D, it] := by simp
  refine wpAny_mono (st.hold.run r st.frame (ht _ _ _ h cenv)) (fun ok s₃ h₃ => ?_) fun _ _ e => e.elim
  obtain ⟨S₃, h₃, H₃, F₃, same₃⟩ := h₃
  have hp₃ : s₃.heap.PlainList D items := hp.at fun o e => (same₃ D mD).trans e
  cases ok with
  | false =>
    simp only [Bool.false_eq_true, if_false]
    exact back ys S₃ s₃ (.inl rfl) (h₃.2 rfl) (hJ _ _ _ hj (same₃ it mI)) ⟨H₃, F₃, items, hp₃, hm⟩
  | true =>
    simp only [if_true]
    refine wpAny_mono (H₃.run r F₃ (he _ _ _ (h₃.1 rfl) cenv)) (fun y s₄ h₄ => ?_) fun _ _ e => e.elim
    obtain ⟨S₄, h₄, H₄, F₄, same₄⟩ := h₄
    have hp₄ : s₄.heap.PlainList D items := hp₃.at fun o e => (same₄ D mD).trans e
    have hsz : items.size = ys.length := by rw [← hm]; simp
    refine wpAny_list_append_plain hp₄ (fun h' hp' hs => ?_) (by rw [sizeLine_eq]; omega)
    have hx : ∀ o, s₄.heap.get? D = some o → (∀ es ep, o.data ≠ .dict es ep) ∧ ∀ u, o.data ≠ .cell u := fun o e => by
      obtain ⟨nn, e'⟩ := hp₄
      rw [e'] at e; cases e
      exact ⟨fun _ _ z => by simp at z, fun _ z => by simp at z⟩
    refine back (ys ++ [er y]) S₄ _ (.inr ⟨_, rfl⟩) h₄ (hJ _ _ _ hj ?_) ⟨H₄.touch (t := s₄.toks) mD hs.extBut (let ⟨nn, e⟩ := hp'; ⟨_, e⟩), F₄.but hs.extBut hx, _, hp', by simp [hm]⟩
    exact (hs.2 it hDi.symm).trans ((same₄ it mI).trans (same₃ it mI))
theorem iter_plain {it l : Addr} {i : Nat} {s : Shared} (hit : s.heap.IsListIter it l i) (o : Obj) (e : s.heap.get? it = some o) : (∀ es ep, o.data ≠ .dict es ep) ∧ ∀ u, o.data ≠ .cell u := by
  obtain ⟨o', e', _, e3⟩ := hit
  rw [e'] at e; cases e
  exact ⟨fun _ _ z => (by rw [e3] at z; cases z), fun _ z => (by rw [e3] at z; cases z)⟩
theorem CSt.stop {it D : Addr} {ys : List AV} {h' : Heap} {t : Nat} (st : CSt c β it D cenv m ys S s) (hs : Heap.ExtBut it s.heap h') (hDi : D ≠ it) (hiC : it ≠ cenv.locals) (hlen : ys.length ≤ 1000) : CEnd c β cenv.locals D ys S { s with heap := h', toks := t } := by
  obtain ⟨its, hp, hmm⟩ := st.acc
  refine ⟨st.hold.lose (by simp) hs fun a q => ?_, ?_, ⟨its, hp.at fun o e => hs D o hDi e, hmm⟩, hlen⟩
  · rcases List.mem_cons.mp q with rfl | q
    · exact ⟨by simp, hiC.symm⟩
    · rw [List.mem_singleton] at q; subst q; exact ⟨by simp, hDi⟩
  · obtain ⟨o, es, ep, mv, e1, e2, e3, e4, _⟩ := st.frame.loc
    rw [pushB_in (by simp)] at e1
    exact ⟨mv, o, es, ep, hs _ _ hiC.symm e1, e2, e3, e4⟩
theorem comp_list_loop {A : Around} (r : Room A k) {test : Loc → (Bool → Sto → Prop) → Sto → Prop} {el : Loc → (AV → Sto → Prop) → Sto → Prop} {elt iter : PySem.Expr} {x : Str} {px pos : Pos} {ifs : List PySem.Expr} {scope : Scope} {it D l : Addr} {xs : List AV}
    (ht : ∀ m Q S, test m Q S → IW c k m ifs Q S) (he : ∀ m Q S, el m Q S → EWs c k m elt Q S) (hDi : D ≠ it) (hDC : D ≠ cenv.locals) (hiC : it ≠ cenv.locals)
    {i : Nat} {Q : List AV → Sto → Prop} (hi : s.heap.IsListIter it l i) (h : compVs test el (setN x) (fun S => S.lst l = some xs) (xs.drop i) m [] Q S) (st : CSt c β it D cenv m [] S s) {R : Result → Shared → Prop}
    (hR : ∀ ys S s', Q ys S → CEnd c β cenv.locals D ys S s' → R (.ok .next) s') :
    codeAny c.M A (.compLoop (.ListComp elt [⟨.Name x px, iter, ifs, 0⟩] scope pos) 0 (.ref it) (.ref D) cenv) R s := by
  have mI : it ∈ [cenv.locals, D, it] := by simp
  have mC : cenv.locals ∈ [cenv.locals, D, it] := by simp
  refine codeAny_compLoop_tests (fun n s => ∃ i m ys S, n = xs.length - i ∧ ys.length ≤ i ∧ ys.length ≤ 1000 ∧ s.heap.IsListIter it l i ∧ compVs test el (setN x) (fun S => S.lst l = some xs) (xs.drop i) m ys Q S ∧ CSt c β it D cenv m ys S s) ?_ (xs.length - i)
    ⟨i, m, [], S, rfl, Nat.zero_le _, Nat.zero_le _, hi, h, st⟩
  clear st h hi
  rintro n s ⟨i, m, ys, S, rfl, hys, hlen, hit, h, st⟩
  generalize hd : xs.drop i = vs at h
  have hP : S.lst l = some xs := by cases vs <;> exact h.1
  obtain ⟨hz, items, hl, hm⟩ := st.hold.drop.lst hP
  have hi' : items[i]? = (items.toList)[i]? := by simp
  cases vs with
  | nil =>
    have hle : xs.length ≤ i := by rw [List.drop_eq_nil_iff] at hd; exact hd
    refine wpAny_pyNext_list_end r.hand hit hl (by rw [hi', List.getElem?_eq_none_iff, ← List.length_map (f := er), hm]; exact hle) fun h' hs => ?_
    exact hR ys S _ h.2 (st.stop (t := s.toks) hs hDi hiC hlen)
  | cons v rest =>
    have hv : xs[i]? = some v := by rw [← List.head?_drop, hd]; rfl
    have hlt : i < xs.length := by
      rcases Nat.lt_or_ge i xs.length with z | z
      · exact z
      · rw [List.getElem?_eq_none z] at hv; cases hv
    obtain ⟨u, hu, hev⟩ := get_map hm hv
    obtain ⟨m', ⟨hvar, hset⟩, hbody⟩ := h.2
    subst hev
    refine wpAny_pyNext_list_item hit hl hu fun h' hit2 hs => ?_
    have H2 := st.hold.touch (t := s.toks) mI hs.extBut (let ⟨o, e, _⟩ := hit2; ⟨o, e⟩)
    have F2 := st.frame.but (s := s) hs.extBut (iter_plain hit)
    refine wpAny_assign_Name (wpAny_mono (H2.store (s := { s with heap := h' }) (Q := fun _ s2 => ∃ h2 t, Heap.SameBut cenv.locals h' h2 ∧ s2 = { s with heap := h2, toks := t } ∧ Hold c β [cenv.locals, D, it] S s2 ∧ FrameIn (pushB β h2 [cenv.locals, D, it]) cenv m') F2 mC hvar hset fun h2 t hs2 H3 F3 => ⟨h2, t, hs2, rfl, H3, F3⟩) (fun _ s2 h2 => ?_) fun _ _ e => e.elim)
    obtain ⟨h2, t, hs2, rfl, H3, F3⟩ := h2
    obtain ⟨its, hp, hmm⟩ := st.acc
    have hp3 : h2.PlainList D its := hp.at fun o e => hs2.extBut D o hDC (hs.extBut D o hDi e)
    have hit3 : h2.IsListIter it l (i + 1) := by
      obtain ⟨o, e, r⟩ := hit2
      exact ⟨o, hs2.extBut it o hiC e, r⟩
    refine comp_after (J := fun vs s' => s'.heap.IsListIter it l (i + 1) ∧ xs.drop (i + 1) = vs) (vs := rest) r ht he (fun vs s1 s2 hj e => ⟨let ⟨o, q, r⟩ := hj.1; ⟨o, e.trans q, r⟩, hj.2⟩) hDi (fun ys' S' s' hy hc hj st' => ?_) hbody ⟨hit3, by rw [← List.drop_drop, hd]; rfl⟩ ⟨H3, F3, its, hp3, hmm⟩ (by omega)
    refine ⟨xs.length - (i + 1), by omega, i + 1, m', ys', S', rfl, ?_, ?_, hj.1, by rw [hj.2]; exact hc, st'⟩
    · rcases hy with rfl | ⟨y, rfl⟩
      · omega
      · simp; omega
    · rcases hy with rfl | ⟨y, rfl⟩
      · omega
      · simp; omega
end
end
section
section
variable {c : Cst} {k : Nat} {β : Bas} {as : List Addr} {env cenv : Env} {m : Loc} {S : Sto} {s : Shared}
theorem Hold.own' {D : Addr} {items : Array Value} {as' : List Addr} (H : Hold c β as S s) (hD : D ∈ as) (ha : ∀ a ∈ as', a ∈ as ∧ a ≠ D) (hp : s.heap.PlainList D items) (hz : items.size ≤ 1000) : Hold c β as' (S.setLs D (items.toList.map er)) s := by
  obtain ⟨g, o, b, ro, σ, L, e⟩ := H.inv
  have un : ∀ a ob, σ a = some ob → a ∉ as := fun a ob q z => by
    have := L.apart a ob q
    rw [pushB_in z] at this
    obtain ⟨ob', h2⟩ := H.alive a z
    rw [this] at h2; cases h2
  have hn : σ D = none := by
    cases q : σ D with
    | none => rfl
    | some ob => exact absurd hD (un D ob q)
  have le : ∀ a ob, pushB β s.heap as' a = some ob → pushB β s.heap as a = some ob := fun a ob q => by
    by_cases y : a ∈ as'
    · rw [pushB_in y] at q; rw [pushB_in (ha a y).1]; exact q
    · rw [pushB_out y] at q
      rw [pushB_out fun w => by rw [H.fresh a w] at q; cases q]; exact q
  have L2 : Low c (pushB β s.heap as') σ s.heap := ⟨fun a ob q => L.keep a ob (le a ob q), L.rep, fun a ob q => by
    cases z : pushB β s.heap as' a with
    | none => rfl
    | some o' => have := L.apart a ob q; rw [le a o' z] at this; cases this⟩
  refine ⟨H.base, fun a q => H.fresh a (ha a q).1, fun a q => H.alive a (ha a q).1, g, o, fun a ob q => ?_, ro, _, L2.upd (x := D) (o := .list (items.toList.map er)) (fun a ob _ q => q) ?_ ⟨by simpa using hz, items, hp, rfl⟩, e.setLs (.inl hn)⟩
  · have z := H.base a ob q
    rw [pushB_out fun y => by rw [H.fresh a (ha a y).1] at z; cases z]; exact z
  · rw [pushB_out fun y => (ha D y).2 rfl]; exact H.fresh D hD
theorem comp_block {A : Around} {E : Value → Shared → Prop} (r : Room A k) {test : Loc → (Bool → Sto → Prop) → Sto → Prop} {el : Loc → (AV → Sto → Prop) → Sto → Prop} {elt iter : PySem.Expr} {x : Str} {px pos : Pos} {ifs : List PySem.Expr} {scope : Scope} {l : Addr} {xs : List AV}
    (ht : ∀ m Q S, test m Q S → IW c k m ifs Q S) (he : ∀ m Q S, el m Q S → EWs c k m elt Q S) (F : FrameIn β env m) (hkind : scope.kind = .function) (hok : (scope.names.all (okComp m)) = true)
    {Q : List AV → Sto → Prop} (I : InvS c β S s) (hl : S.lst l = some xs) (h : compVs test el (setN x) (fun S => S.lst l = some xs) xs (compM m scope.names) [] Q S) {RR : Value → Addr → Result → Shared → Prop}
    (hRR : ∀ C D ys S' s', Q ys S' → CEnd c β C D ys S' s' → D ≠ C → RR (.ref D) C (.ok .next) s') :
    wpAny c.M A (pyIter (.ref l)) (fun it s₂ => wpAny c.M A (newList []) (fun acc s₃ =>
      wpAny c.M A (newFunctionEnv scope env.globals (closeL env.cells scope.names []) [] env.qual none .none (some env)) (fun cenv s₄ =>
        codeAny c.M A (.compStart (.ListComp elt [⟨.Name x px, iter, ifs, 0⟩] scope pos) 0 it acc { cenv with scope := relabel scope env }) (RR acc cenv.locals) s₄) E s₃) E s₂) E s := by
  obtain ⟨hz, items, hli, hm⟩ := I.lst hl
  have hcell : ∀ y ∈ scope.names, y.2 ≠ .cell := fun y hy e => by
    have := List.all_eq_true.mp hok y hy
    obtain ⟨n, kd⟩ := y
    cases e
    cases this
  refine wpAny_pyIter_list hli (wpAny_newObj_type (wpAny_newFunctionEnv hcell (by intro y hy; simp at hy) (fun h₁ hns₁ hsb₁ => ?_) hkind))
  dsimp only at hns₁ hsb₁ ⊢
  obtain ⟨H1, n1, b1⟩ := (Hold.nil I).push (o := { cls := .type "list_iterator", data := .fields #[.ref l, .int 0 0] }) rfl (t := s.toks)
  obtain ⟨H2, n2, b2⟩ := H1.push (o := { cls := .type "list", dict := none, data := .seq ([] : List Value).toArray }) rfl (t := s.toks)
  obtain ⟨H3, n3, b3⟩ := H2.push (o := { cls := .type "dict", data := .dict #[] }) rfl (t := s.toks)
  dsimp only at H1 H2 H3 n1 n2 n3 b1 b2 b3
  have hit0 : (s.heap.push { cls := .type "list_iterator", data := .fields #[.ref l, .int 0 0] }).IsListIter s.heap.objs.size l 0 := ⟨_, Heap.get?_push_size _ rfl, rfl, rfl⟩
  generalize hh1 : s.heap.push { cls := .type "list_iterator", data := .fields #[.ref l, .int 0 0] } = h1 at *
  generalize hh2 : h1.push { cls := .type "list", dict := none, data := .seq ([] : List Value).toArray } = h2 at *
  have hD0 : h2.PlainList h1.objs.size #[] := ⟨0, by rw [← hh2]; exact Heap.get?_push_size _ rfl⟩
  have nCD : h1.objs.size ≠ h2.objs.size := fun e => n3 (by rw [← e]; simp)
  have nCi : s.heap.objs.size ≠ h2.objs.size := fun e => n3 (by rw [← e]; simp)
  have nDi : h1.objs.size ≠ s.heap.objs.size := fun e => n2 (by rw [e]; simp)
  have H4 := H3.touch (t := s.toks + ([] : List (Str × Value)).length) (x := h2.objs.size) (by simp) hsb₁.extBut (let ⟨o, _, _, e, _⟩ := hns₁; ⟨o, e⟩)
  dsimp only at H4
  have up : ∀ a o, a ≠ h2.objs.size → h2.get? a = some o → h₁.get? a = some o := fun a o na e => hsb₁.extBut a o na (Heap.get?_push_of_some _ e)
  have hit1 : h₁.IsListIter s.heap.objs.size l 0 := by
    obtain ⟨o, e, q⟩ := hit0
    exact ⟨o, up _ _ nCi (by rw [← hh2]; exact Heap.get?_push_of_some _ e), q⟩
  have hD1 : h₁.PlainList h1.objs.size #[] := hD0.at fun o e => up _ _ nCD e
  have F2 : FrameIn (pushB β h₁ [h2.objs.size, h1.objs.size, s.heap.objs.size]) (compEnvC scope (closeL env.cells scope.names []) h2.objs.size env) (compM m scope.names) := by
    refine comp_frame (F.keeps fun a o q => ?_) hkind hok ?_
    · rw [pushB_out]
      · exact q
      · intro y
        rw [H3.fresh a y] at q; cases q
    · obtain ⟨o, es, ep, e1, e2, e3, e4⟩ := hns₁
      exact ⟨o, es, ep, by rw [pushB_in (by simp)]; exact e1, e2, e3, fun name => by rw [e4]; rfl⟩
  have loop : codeAny c.M A (.compLoop (.ListComp elt [⟨.Name x px, iter, ifs, 0⟩] scope pos) 0 (.ref s.heap.objs.size) (.ref h1.objs.size) (compEnvC scope (closeL env.cells scope.names []) h2.objs.size env)) (RR (.ref h1.objs.size) h2.objs.size)
      { s with heap := h₁, toks := s.toks + ([] : List (Str × Value)).length } :=
    comp_list_loop (cenv := compEnvC scope (closeL env.cells scope.names []) h2.objs.size env) r ht he nDi nCD nCi hit1 h ⟨H4, F2, #[], hD1, rfl⟩ fun ys S' s' hq ce => hRR _ _ ys S' s' hq ce nCD
  exact codeAny_compStart_list loop (wpAny_pyIter_listiter hit1 loop)
theorem EW.comp {test : Loc → (Bool → Sto → Prop) → Sto → Prop} {el : Loc → (AV → Sto → Prop) → Sto → Prop} {elt iter : PySem.Expr} {x : Str} {px pos : Pos} {ifs : List PySem.Expr} {scope : Scope} {Q : AV → Sto → Prop}
    (ht : ∀ m Q S, test m Q S → IW c k m ifs Q S) (he : ∀ m Q S, el m Q S → EWs c k m elt Q S) (hkind : scope.kind = .function) (hok : (scope.names.all (okComp m)) = true)
    (hnames : ∀ y ∈ scope.names, y.2 = .local → scope.names.lookup y.1 = some .local) (hs : ∀ env x, foldedSetIterable iter env x = pure x)
    (h : EWs c k m iter (fun v S1 => ∃ l xs, v = .ref l ∧ S1.lst l = some xs ∧ compVs test el (setN x) (fun S => S.lst l = some xs) xs (compM m scope.names) [] (fun ys S2 => ∀ D, S2.Free D → Q (.ref D) (S2.setLs D ys)) S1) S) :
    EWs c k m (.ListComp elt [⟨.Name x px, iter, ifs, 0⟩] scope pos) Q S := by
  intro env A β s r F I
  rw [eval_ListComp]
  refine wpAny_comprehension_free (use := none) rfl (hs env) (comp_clos F hok) hkind hnames (wpAny_mono (h env A β s r F I) (fun xv s₁ h₁ => ?_) fun _ _ e => e)
  obtain ⟨S1, ⟨l, xs, hv, hl, h₁⟩, I1⟩ := h₁
  obtain rfl := er_ref hv
  refine comp_block (RR := fun acc C => compPost c.M A NoE none (fun v s' => ∃ S', Q (er v) S' ∧ InvS c β S' s') acc C) r ht he F hkind hok I1 hl h₁ fun C D ys S' s' hq ce hDC => ?_
  obtain ⟨mv, hns⟩ := ce.ns
  obtain ⟨items, hp, hmm⟩ := ce.acc
  refine ⟨mv, hns, fun h' hs' => ?_⟩
  have H5 : Hold c β [D] S' { s' with heap := h' } := ce.hold.lose (t := s'.toks) (it := C) (by simp) hs'.extBut fun a q => by
    rw [List.mem_singleton] at q; subst q; exact ⟨by simp, hDC⟩
  obtain ⟨fr, I5⟩ := H5.own (D := D) (items := items) (by simp) (hp.at fun o e => hs'.extBut _ _ hDC e) (by have := ce.len; rw [← hmm] at this; simpa using this)
  rw [hmm] at I5
  exact ⟨_, hq D fr, I5⟩
theorem Inv.frameB (I : Inv c β env m S s) : FrameIn (pushB β s.heap (fa env)) env m := by
  have F0 := I.frame
  refine ⟨F0.ok, F0.names, ?_, fun x v q => ?_, fun x v q => ?_, F0.glob⟩
  · obtain ⟨o, es, ep, mv, e, r⟩ := F0.loc
    exact ⟨o, es, ep, mv, by rw [pushB_in (by simp [fa])]; exact e, r⟩
  · obtain ⟨h, a, o, u, e1, e2, r⟩ := F0.cell x v q
    exact ⟨h, a, o, u, e1, by rw [pushB_in (by simp only [fa, List.mem_cons]; exact .inr (List.mem_map.mpr ⟨_, PySem.mem_of_lookup e1, rfl⟩))]; exact e2, r⟩
  · obtain ⟨h, a, o, u, e1, e2, r⟩ := F0.free x v q
    exact ⟨h, a, o, u, e1, by rw [pushB_in (by simp only [fa, List.mem_cons]; exact .inr (List.mem_map.mpr ⟨_, PySem.mem_of_lookup e1, rfl⟩))]; exact e2, r⟩
theorem Hold.inv' {C : Addr} {s' : Shared} {S' : Sto} (I : Inv c β env m S s) (H : Hold c (pushB β s.heap (fa env)) [C] S' s') : Inv c (prot β C s'.heap) env m S' s' ∧ C ∉ fa env ∧ β C = none ∧ c.B.heap.get? C = none := by
  have fC : pushB β s.heap (fa env) C = none := H.fresh C (by simp)
  have nC : C ∉ fa env := fun q => by
    rw [pushB_in q] at fC
    obtain ⟨o, e⟩ := I.alive C q
    rw [e] at fC; cases fC
  have bC : β C = none := by rwa [pushB_out nC] at fC
  have BC : c.B.heap.get? C = none := by
    cases q : c.B.heap.get? C with
    | none => rfl
    | some o => have := I.base C o q; rw [bC] at this; cases this
  have K : ∀ a o, pushB β s.heap (fa env) a = some o → s'.heap.get? a = some o := H.drop.keep
  have same : ∀ a ∈ fa env, s'.heap.get? a = s.heap.get? a := fun a q => by
    obtain ⟨o, e⟩ := I.alive a q
    rw [e]; exact K a o (by rw [pushB_in q]; exact e)
  refine ⟨⟨fun a o q => ?_, fun a q => ?_, I.nodup, fun a q => ?_, I.frameB.keeps K, H.inv.weaken (fun a o q => ?_) fun a o q => ?_⟩, nC, bC, BC⟩
  · unfold prot
    rw [if_neg fun z => by subst z; rw [BC] at q; cases q]; exact I.base a o q
  · unfold prot
    rw [if_neg fun z : a = C => nC (z ▸ q)]; exact I.fresh a q
  · obtain ⟨o, e⟩ := I.alive a q; exact ⟨o, (same a q).trans e⟩
  · have z := I.base a o q
    rw [pushB_out fun y => by rw [I.fresh a y] at z; cases z]
    unfold prot
    rw [if_neg fun z => by subst z; rw [BC] at q; cases q]; exact z
  · by_cases y : a ∈ fa env
    · rw [pushB_in y] at q
      have na : a ∉ [C] := by rw [List.mem_singleton]; intro z; exact nC (z ▸ y)
      rw [pushB_out na, pushB_in y, ← same a y]; exact q
    · rw [pushB_out y] at q
      unfold prot at q
      split at q
      · rename_i z; subst z; rw [pushB_in (by simp)]; exact q
      · rename_i z
        rw [pushB_out (by rw [List.mem_singleton]; exact z), pushB_out y]; exact q
theorem XW.assignComp {test : Loc → (Bool → Sto → Prop) → Sto → Prop} {el : Loc → (AV → Sto → Prop) → Sto → Prop} {elt iter : PySem.Expr} {x y : Str} {px py pos spos : Pos} {ifs : List PySem.Expr} {scope : Scope} {Q : QS}
    (ht : ∀ m Q S, test m Q S → IW c k m ifs Q S) (he : ∀ m Q S, el m Q S → EWs c k m elt Q S) (hkind : scope.kind = .function) (hok : (scope.names.all (okComp m)) = true)
    (hnames : ∀ y ∈ scope.names, y.2 = .local → scope.names.lookup y.1 = some .local) (hs : ∀ env x, foldedSetIterable iter env x = pure x)
    (hy : ∃ w, m.lookup y = some (.var w)) (hline : (py.line == pos.line) = true) (hnot : (scope.names.any fun p => p.1 == y && (p.2 == .local || p.2 == .cell)) = false)
    (h : EWs c k m iter (fun v S1 => ∃ l xs, v = .ref l ∧ S1.lst l = some xs ∧ compVs test el (setN x) (fun S => S.lst l = some xs) xs (compM m scope.names) [] (fun ys S2 => ∀ D, S2.Free D → ∃ m', setV y (.ref D) m = some m' ∧ Q .next m' (S2.setLs D ys)) S1) S) :
    XW c k (exec (.Assign [.Name y py] (.ListComp elt [⟨.Name x px, iter, ifs, 0⟩] scope pos) spos)) Q m S := by
  intro env A β s r I
  have F := I.frameB
  have ky : env.kindOf y = some .local := by
    obtain ⟨w, hw⟩ := hy
    obtain ⟨o, es, ep, mv, e1, e2, e3, e4, e5⟩ := F.loc
    exact (e5 y w hw).1
  have hsw : swapsWith (.ListComp elt [⟨.Name x px, iter, ifs, 0⟩] scope pos) (some (.Name y py)) spos.line env = pure true := by
    have hb : env.blockKind = .function := by unfold Env.blockKind; rw [F.ok.kind]; rfl
    show (pure (env.blockKind == .function && env.kindOf y == some .local && py.line == pos.line && !(scope.names.any fun p => p.1 == y && (p.2 == .local || p.2 == .cell))) : Sem Bool) = _
    rw [hb, ky, hline, hnot]; rfl
  rw [exec_Assign_Name_used _ _ _ _ hsw]
  refine wpAny_bind (wpAny_standAt (wpAny_bind ?_))
  show wpAny _ A (do let _ ← comprehension (.ListComp elt [⟨.Name x px, iter, ifs, 0⟩] scope pos) scope env _ (newList []) false (eval iter env) (some (assign (.Name y py) env))) _ _ s
  refine wpAny_bind (wpAny_mono (wpAny_comprehension_free (use := some (assign (.Name y py) env)) (Q := fun _ s' => ∃ m' S', Q .next m' S' ∧ Inv c β env m' S' s') rfl (hs env) (comp_clos F hok) hkind hnames
    (wpAny_mono (h env A _ s r F I.inv) (fun xv s₁ h₁ => ?_) fun _ _ e => e)) (fun _ s' hq => wpAny_pure (wpAny_pure hq)) fun _ _ e => e)
  obtain ⟨S1, ⟨l, xs, hv, hl, h₁⟩, I1⟩ := h₁
  obtain rfl := er_ref hv
  refine comp_block (RR := fun acc C => compPost c.M A NoE (some (assign (.Name y py) env)) (fun _ s' => ∃ m' S', Q .next m' S' ∧ Inv c β env m' S' s') acc C) r ht he F hkind hok I1 hl h₁ fun C D ys S' s' hq ce hDC => ?_
  obtain ⟨mv, hns⟩ := ce.ns
  obtain ⟨items, hp, hmm⟩ := ce.acc
  have hz : items.size ≤ 1000 := by have := ce.len; rw [← hmm] at this; simpa using this
  have fr : S'.Free D := (ce.hold.own (D := D) (by simp) hp hz).1
  have H5 : Hold c (pushB β s.heap (fa env)) [C] (S'.setLs D ys) s' := by
    have := ce.hold.own' (D := D) (as' := [C]) (by simp) (fun a q => by rw [List.mem_singleton] at q; subst q; exact ⟨by simp, fun e => hDC e.symm⟩) hp hz
    rwa [hmm] at this
  obtain ⟨I5, nC, bC, BC⟩ := Hold.inv' I H5
  obtain ⟨m', hset, hq⟩ := hq D fr
  show wpAny _ A (assign (.Name y py) env (.ref D)) _ _ _
  refine wpAny_assign_Name (I5.store (v := .ref D) hset fun s'' I6 => ?_)
  obtain ⟨oC, hoC⟩ := H5.alive C (by simp)
  have keepC : s''.heap.get? C = s'.heap.get? C := by
    rw [hoC]
    exact I6.inv.keep C oC (by rw [pushB_out nC]; unfold prot; rw [if_pos rfl]; exact hoC)
  have pe : prot β C s'.heap = prot β C s''.heap := by
    funext a; unfold prot
    split
    · exact keepC.symm
    · rfl
  rw [pe] at I6
  obtain ⟨o, es, ep, g1, g2⟩ := hns
  refine ⟨mv, ⟨o, es, ep, keepC.trans g1, g2⟩, fun h' hs' => ⟨m', _, hq, ?_⟩⟩
  exact I6.unguard (t := s''.toks) nC ⟨oC, keepC.trans hoC⟩ BC bC hs'.extBut
end
end
section
theorem cellsFrom_mem {x : Str} : ∀ (names : List (Str × NameKind)) (n : Nat) (acc : List (Str × Addr)), ((x, NameKind.cell) ∈ names ∨ ∃ a, (x, a) ∈ acc) → ∃ a, (x, a) ∈ cellsFrom n names acc
  | [], _, acc, h => by
    rcases h with h | h
    · cases h
    · exact h
  | (y, kd) :: r, n, acc, h => by
    unfold cellsFrom
    split
    · refine cellsFrom_mem r (n + 1) _ ?_
      rcases h with h | ⟨a, h⟩
      · rcases List.mem_cons.mp h with e | h
        · cases e; exact .inr ⟨n, List.mem_cons_self⟩
        · exact .inl h
      · exact .inr ⟨a, List.mem_cons_of_mem _ h⟩
    · rename_i hk
      refine cellsFrom_mem r n acc ?_
      rcases h with h | h
      · rcases List.mem_cons.mp h with e | h
        · cases e; exact absurd rfl hk
        · exact .inl h
      · exact .inr h
theorem cellsFrom_nodup : ∀ (names : List (Str × NameKind)) (n : Nat) (acc : List (Str × Addr)), (names.map (·.1)).Nodup → (acc.map (·.1)).Nodup → (∀ x ∈ names.map (·.1), x ∉ acc.map (·.1)) → ((cellsFrom n names acc).map (·.1)).Nodup
  | [], _, acc, _, h, _ => h
  | (y, kd) :: r, n, acc, h1, h2, h3 => by
    rw [List.map_cons, List.nodup_cons] at h1
    unfold cellsFrom
    split
    · refine cellsFrom_nodup r (n + 1) _ h1.2 ?_ fun x hx hm => ?_
      · rw [List.map_cons, List.nodup_cons]; exact ⟨h3 y List.mem_cons_self, h2⟩
      · rw [List.map_cons] at hm
        rcases List.mem_cons.mp hm with e | hm
        · exact h1.1 (e ▸ hx)
        · exact h3 x (List.mem_cons_of_mem _ hx) hm
    · exact cellsFrom_nodup r n acc h1.2 h2 fun x hx => h3 x (List.mem_cons_of_mem _ hx)
theorem lookup_of_mem {α : Type} : ∀ {l : List (Str × α)} {x : Str} {a : α}, (l.map (·.1)).Nodup → (x, a) ∈ l → l.lookup x = some a
  | (y, b) :: r, x, a, h, hm => by
    rw [List.map_cons, List.nodup_cons] at h
    rcases List.mem_cons.mp hm with e | hm
    · cases e; simp
    · have : x ≠ y := fun e => h.1 (e ▸ List.mem_map.mpr ⟨_, hm, rfl⟩)
      rw [List.lookup_cons, beq_eq_false_iff_ne.mpr this]
      exact lookup_of_mem h.2 hm
theorem lookup_none {α : Type} {x : Str} : ∀ {l : List (Str × α)}, x ∉ l.map (·.1) → l.lookup x = none
  | [], _ => rfl
  | (y, b) :: r, h => by
    rw [List.map_cons, List.mem_cons, not_or] at h
    rw [List.lookup_cons, beq_eq_false_iff_ne.mpr h.1]
    exact lookup_none h.2
theorem bindL_eq {kindOf : Str → Option NameKind} (x : Str) : ∀ (binds : List (Str × Value)) (m : Str → Option Value), (binds.map (·.1)).Nodup → bindL kindOf binds m x = if kindOf x = some .local then (binds.lookup x).or (m x) else m x
  | [], m, _ => by unfold bindL; split <;> simp
  | (n, v) :: r, m, h => by
    rw [List.map_cons, List.nodup_cons] at h
    unfold bindL
    rw [bindL_eq x r _ h.2]
    by_cases e : x = n
    · subst e
      rw [List.lookup_cons_self, lookup_none h.1]
      by_cases q : kindOf x = some .local
      · simp [q]
      · simp [q]
    · rw [List.lookup_cons, beq_eq_false_iff_ne.mpr e]
      by_cases q : kindOf n = some .local
      · simp [q, e]
      · simp [q]
theorem bindC_eq {kindOf : Str → Option NameKind} (x : Str) : ∀ (binds : List (Str × Value)) (m : Str → Option Value), (binds.map (·.1)).Nodup → bindC kindOf binds m x = if kindOf x = some .local then m x else (binds.lookup x).or (m x)
  | [], m, _ => by unfold bindC; split <;> simp
  | (n, v) :: r, m, h => by
    rw [List.map_cons, List.nodup_cons] at h
    unfold bindC
    rw [bindC_eq x r _ h.2]
    by_cases e : x = n
    · subst e
      rw [List.lookup_cons_self, lookup_none h.1]
      by_cases q : kindOf x = some .local
      · simp [q]
      · simp [q]
    · rw [List.lookup_cons, beq_eq_false_iff_ne.mpr e]
      by_cases q : kindOf n = some .local
      · simp [q]
      · simp [q, e]
section
variable {c : Cst} {k : Nat} {β : Bas} {env : Env} {m : Loc} {S : Sto} {s : Shared}
noncomputable def okLoc (scope : Scope) (x : Str) : Bool := decide (scope.names.lookup x = some .local) || decide (scope.names.lookup x = some .cell)
theorem call_code {A : Around} {f : Addr} {o : Obj} {fd : FuncData} {body : List Stmt} {scope : Scope} {args : List AV} {xs : List Str} {vs : List Value} {Q : AV → Sto → Prop} {m : Loc} {R : Result → Shared → Prop} (r : Room A (k + 1)) (I : InvS c β S s) (hvs : vs.map er = args)
    (ho : s.heap.get? f = some o) (hdata : o.data = .func fd) (hcd : s.heap.CodeRec fd.code fd.qualname) (hbody : fd.body = .stmts body) (hsc : fd.scope = scope) (hclo : fd.closure = []) (hgl : fd.globals = mainGlobals) (hbl : fd.builtins = builtinsNs)
    (hbind : bindArgs fd ⟨vs, []⟩ = pure (xs.zip vs))
    (hk : scope.kind = .function) (hco : scope.isCoroutine = false) (hgen : scope.isGenerator = false) (hnm : (scope.names.map (·.1)).Nodup) (hok : (scope.names.all okName) = true)
    (hloc : (xs.all (okLoc scope)) = true) (hnd : xs.Nodup) (hxl : xs.length = args.length)
    (hm : initM scope.names (xs.zip args) = m)
    (h : XW c k (execs body) (retQ Q) m S) (hR : ∀ v S' s', Q (er v) S' → InvS c β S' s' → R (.ok (.ret v)) s') : codeAny c.M A (.call (.ref f) ⟨vs, []⟩) R s := by
  subst hsc
  generalize hs : fd.scope = scope at *
  have hlen : vs.length = args.length := by rw [← hvs, List.length_map]
  have T := I.T
  have key : ∀ p ∈ xs.zip vs, p.1 ∈ xs := fun p hp => (List.of_mem_zip hp).1
  have cellLk : ∀ x, scope.names.lookup x = some .cell → ∃ a, (cellsFrom (s.heap.objs.size + 1) scope.names []).lookup x = some a := fun x hx => by
    obtain ⟨a, ha⟩ := cellsFrom_mem scope.names (s.heap.objs.size + 1) [] (.inl (PySem.mem_of_lookup hx))
    exact ⟨a, lookup_of_mem (cellsFrom_nodup scope.names _ [] hnm List.nodup_nil fun _ _ h => (nomatch h)) ha⟩
  refine codeAny_call_cells (fd := fd) (body := body) (binds := xs.zip vs) (by have := r.depth; show A.depth < 1000; omega) ho hdata T.nolimit hcd hbody hbind hclo (fun x hx => ?_) (fun s₁ ic => ?_) (by rw [hs]; exact hco) (by rw [hs]; exact hgen) (by rw [hs]; exact hk)
  · rw [hs]
    have := List.all_eq_true.mp hloc x.1 (key x hx)
    unfold okLoc at this
    rw [Bool.or_eq_true] at this
    rcases this with q | q
    · exact .inl (of_decide_eq_true q)
    · obtain ⟨a, ha⟩ := cellLk x.1 (of_decide_eq_true q)
      exact .inr ⟨of_decide_eq_true q, by rw [Option.isSome_iff_exists]; exact ⟨a, ha⟩⟩
  generalize he : callEnvC fd s.heap.objs.size f = env at ic ⊢
  have L : env.locals = s.heap.objs.size := by rw [← he]; rfl
  have Cc : env.cells = cellsFrom (s.heap.objs.size + 1) scope.names [] := by rw [← he, ← hs]; rfl
  have sc : env.scope = scope := by rw [← he, ← hs]; rfl
  have gl : env.globals = mainGlobals := by rw [← he]; exact hgl
  have bl : env.builtins = builtinsNs := by rw [← he]; exact hbl
  have ko : ∀ x, env.kindOf x = scope.names.lookup x := fun x => by unfold Env.kindOf; rw [sc]
  obtain ⟨gg, os, b, ro, σ, Lo, e⟩ := I
  have fa_ge : ∀ a ∈ fa env, s.heap.objs.size ≤ a := fun a ha => by
    unfold fa at ha
    rcases List.mem_cons.mp ha with rfl | ha
    · rw [L]; exact Nat.le_refl _
    · obtain ⟨p, hp, rfl⟩ := List.mem_map.mp ha
      have := ic.above p.1 p.2 hp
      rw [L] at this; exact Nat.le_of_lt this
  have fr : ∀ a ∈ fa env, σ a = none ∧ β a = none := fun a ha => Lo.fresh (fa_ge a ha)
  have cnd : (env.cells.map (·.1)).Nodup := by rw [Cc]; exact cellsFrom_nodup scope.names _ [] hnm List.nodup_nil fun _ _ h => (nomatch h)
  have kp := ic.toInCall.keep
  obtain ⟨h₁, tk, rfl⟩ := ic.toInCall.same
  have Iv : Inv c β env m S { s with heap := h₁, toks := tk } := by
    refine ⟨b, fun a ha => (fr a ha).2, ?_, fun a ha => ?_, ?_, gg, os, fun a o q => ?_, ro, σ, ⟨fun a o q => ?_, fun a o q => (Lo.rep a o q).at (kp a), fun a o q => ?_⟩, e⟩
    · unfold fa
      rw [List.nodup_cons]
      refine ⟨fun hm => ?_, ?_⟩
      · obtain ⟨p, hp, e⟩ := List.mem_map.mp hm
        have := ic.above p.1 p.2 hp
        rw [e] at this; exact Nat.lt_irrefl _ this
      · have := ic.apart
        exact List.pairwise_map.mpr this
    · unfold fa at ha
      rcases List.mem_cons.mp ha with rfl | ha
      · obtain ⟨o, es, ep, e1, _⟩ := ic.toInCall.ns; exact ⟨o, e1⟩
      · obtain ⟨p, hp, rfl⟩ := List.mem_map.mp ha
        obtain ⟨o, e1, _⟩ := ic.cell p.1 p.2 (lookup_of_mem cnd hp)
        exact ⟨o, e1⟩
    · have kind : ∀ x k', m.lookup x = some k' → ∃ kd, scope.names.lookup x = some kd ∧ k' = (initB (xs.zip args) (x, kd)).2 ∧ okName (x, kd) = true := by
        intro x k' hx
        rw [← hm, initM_lookup] at hx
        obtain ⟨kd, h1, h2⟩ := Option.map_eq_some_iff.mp hx
        exact ⟨kd, h1, h2.symm, List.all_eq_true.mp hok _ (PySem.mem_of_lookup h1)⟩
      have nd : ((xs.zip vs).map (·.1)).Nodup := by
        rw [List.map_fst_zip (by omega)]; exact hnd
      have zl : ∀ x, ((xs.zip vs).lookup x).map er = (xs.zip args).lookup x := fun x => by
        rw [← lookup_erB, ← hvs, List.zip_map_right]; rfl
      obtain ⟨o, es, ep, e1, e2, e3, e4⟩ := ic.toInCall.ns
      refine ⟨⟨by rw [sc]; exact hk, gl, bl⟩, fun x k' hx => ?_, ⟨o, es, ep, _, e1, e2, e3, e4, fun x v hx => ?_⟩, fun x v hx => ?_, fun x v hx => ?_, fun x hx => ?_⟩
      · obtain ⟨kd, h1, h2, h3⟩ := kind x k' hx
        simp only [okName, Bool.and_eq_true, bne_iff_ne, ne_eq] at h3
        exact ⟨beq_eq_false_iff_ne.mpr h3.1.1, beq_eq_false_iff_ne.mpr h3.1.2⟩
      · obtain ⟨kd, h1, h2, h3⟩ := kind x _ hx
        cases kd <;> simp only [initB] at h2 <;> first | (cases h2; done) | skip
        cases h2
        have kl : env.kindOf x = some .local := (ko x).trans h1
        refine ⟨kl, fun w hw => ?_⟩
        rw [bindL_eq x _ _ nd, if_pos kl, Option.or_none, zl, hw]
      · obtain ⟨kd, h1, h2, h3⟩ := kind x _ hx
        cases kd <;> simp only [initB] at h2 <;> first | (cases h2; done) | skip
        cases h2
        have kl : env.kindOf x = some .cell := (ko x).trans h1
        obtain ⟨a, ha⟩ := cellLk x h1
        rw [← Cc] at ha
        obtain ⟨oc', g1, g2⟩ := ic.cell x a ha
        refine ⟨kl, a, oc', _, ha, g1, g2, fun w hw => ?_⟩
        rw [bindC_eq x _ _ nd, if_neg (by rw [kl]; decide), Option.or_none, zl, hw]
      · obtain ⟨kd, h1, h2, h3⟩ := kind x _ hx
        cases kd <;> simp only [initB] at h2 <;> cases h2
      · obtain ⟨kd, h1, h2, h3⟩ := kind x _ hx
        cases kd <;> simp only [initB] at h2 <;> first | (cases h2; done) | skip
        all_goals first | exact (ko x).trans h1 | (simp [okName] at h3; done)
    · have z := b a o q
      rw [pushB_out fun y => by rw [(fr a y).2] at z; cases z]; exact z
    · by_cases y : a ∈ fa env
      · rw [pushB_in y] at q; exact q
      · rw [pushB_out y] at q; exact kp a o (Lo.keep a o q)
    · rw [pushB_out fun y => by rw [(fr a y).1] at q; cases q]; exact Lo.apart a o q
  refine wpAny_mono (h _ _ _ _ (r.down _) Iv) (fun fl s' h' => ?_) fun _ _ e => e.elim
  obtain ⟨m', S', hq, I'⟩ := h'
  have back : InvS c β S' s' := I'.inv.weaken b fun a o q => by rw [pushB_out fun y => by rw [(fr a y).2] at q; cases q]; exact q
  cases fl <;> exact hR _ S' s' hq back
theorem call_funC {f : Addr} {oc : Value} {od : Option Addr} {osl : Array (Option Value)} {name qual : Str} {params : Arguments} {body : List Stmt} {scope : Scope} {dV kV doc pm cdv ct : Value} {an : Option Addr} {args : List AV} {xs : List Str} {Q : AV → Sto → Prop} {m : Loc}
    (ho : c.K.lookup f = some ⟨oc, od, .func (fnOf name qual params body scope dV kV doc pm an cdv ct), osl⟩) (hcd : codeIn c.K cdv qual = true)
    (hbind : ∀ vs : List Value, vs.length = args.length → bindArgs (fnOf name qual params body scope dV kV doc pm an cdv ct) ⟨vs, []⟩ = pure (xs.zip vs))
    (hk : scope.kind = .function) (hco : scope.isCoroutine = false) (hgen : scope.isGenerator = false) (hnm : (scope.names.map (·.1)).Nodup) (hok : (scope.names.all okName) = true)
    (hloc : (xs.all (okLoc scope)) = true) (hnd : xs.Nodup) (hxl : xs.length = args.length)
    (hm : initM scope.names (xs.zip args) = m)
    (h : XW c k (execs body) (retQ Q) m S) : CW c (k + 1) (.ref f) args Q S := by
  intro A β s vs r I hvs
  have X := I.X
  exact wpAny_call (call_code r I hvs (X _ _ ho) rfl (codeRec_of X hcd) rfl rfl rfl rfl rfl (hbind vs (by rw [← hvs, List.length_map])) hk hco hgen hnm hok hloc hnd hxl hm h fun v S' s' hq I' => ⟨S', hq, I'⟩)
end
end
section
theorem Emb.newRaw {S : Sto} {σ : Trk} {x d C : Addr} (e : Emb S σ) (hx : σ x = none) (hd : σ d = none) (hxd : x ≠ d) : Emb (S.setRaw x C []) (upd (upd σ d (.flds x [])) x (.inst C d)) := by
  have fr := e.free hx
  have old : ∀ a o, σ a = some o → upd (upd σ d (.flds x [])) x (.inst C d) a = some o := fun a o q => by
    exact (upd_ne fun z : a = x => by rw [z, hx] at q; cases q).trans ((upd_ne fun z : a = d => by rw [z, hd] at q; cases q).trans q)
  refine ⟨fun a r q => ?_, fun a r q => ?_, fun a r q => old _ _ (e.ls a r q), fun a r q => old _ _ (e.tp a r q), fun a r q => old _ _ (e.dt a r q), fun a C' fs q => ?_, fun a q z => ?_⟩
  · obtain ⟨d', h1, h2⟩ := e.nd a r q; exact ⟨d', old _ _ h1, old _ _ h2⟩
  · obtain ⟨d', h1, h2⟩ := e.tr a r q; exact ⟨d', old _ _ h1, old _ _ h2⟩
  · have q' : upd S.raw x (C, []) a = some (C', fs) := q
    by_cases z : a = x
    · subst z
      rw [upd_same] at q'; cases q'
      exact ⟨d, upd_same .., by rw [upd_ne (Ne.symm hxd)]; exact upd_same ..⟩
    · rw [upd_ne z] at q'
      obtain ⟨d', h1, h2⟩ := e.raw a C' fs q'; exact ⟨d', old _ _ h1, old _ _ h2⟩
  · have z' : upd S.raw x (C, []) a = some q := z
    by_cases w : a = x
    · subst w; exact ⟨fr.nd, fr.tr⟩
    · rw [upd_ne w] at z'; exact e.excl a q z'
section
variable {c : Cst} {k : Nat} {β : Bas} {S : Sto} {s : Shared}
theorem InvS.newRaw {C : Addr} (I : InvS c β S s) (hf : (instObj C s.heap.objs.size).isFreed = false) : S.Free (s.heap.objs.size + 1) ∧ InvS c β (S.setRaw (s.heap.objs.size + 1) C []) { s with heap := (s.heap.push emptyDict).push (instObj C s.heap.objs.size) } := by
  have fr := I.free (Nat.le_succ s.heap.objs.size)
  obtain ⟨g, os, b, ro, σ, L, e⟩ := I
  have f0 := L.fresh (Nat.le_refl s.heap.objs.size)
  have f1 := L.fresh (Nat.le_succ s.heap.objs.size)
  have ne : s.heap.objs.size + 1 ≠ s.heap.objs.size := Nat.succ_ne_self _
  have hx : ((s.heap.push emptyDict).push (instObj C s.heap.objs.size)).get? (s.heap.objs.size + 1) = some (instObj C s.heap.objs.size) := by
    have := Heap.get?_push_size (s.heap.push emptyDict) (o := instObj C s.heap.objs.size) hf
    rwa [Heap.size_push] at this
  have hd : ((s.heap.push emptyDict).push (instObj C s.heap.objs.size)).get? s.heap.objs.size = some emptyDict := Heap.get?_push_of_some _ (Heap.get?_push_size _ rfl)
  have k : ∀ a o, s.heap.get? a = some o → ((s.heap.push emptyDict).push (instObj C s.heap.objs.size)).get? a = some o := fun a o q => Heap.get?_push_of_some _ (Heap.get?_push_of_some _ q)
  refine ⟨fr, g, os, b, ro, _, ?_, e.newRaw f1.1 f0.1 ne⟩
  have L1 : Low c β σ ((s.heap.push emptyDict).push (instObj C s.heap.objs.size)) := L.keeps k
  have L2 := L1.upd (x := s.heap.objs.size) (o := .flds (s.heap.objs.size + 1) []) (fun a o _ q => q) f0.2 ⟨[], 0, hd, .nil⟩
  exact L2.upd (x := s.heap.objs.size + 1) (o := .inst C s.heap.objs.size) (fun a o _ q => q) f1.2 hx
theorem InvS.toNd {x : Addr} {r : NodeRec} (I : InvS c β (S.setRaw x cNode r.fs) s) (fr : S.Free x) : InvS c β (S.setNd x r) s := by
  obtain ⟨g, os, b, ro, σ, L, e⟩ := I
  obtain ⟨d, h1, h2⟩ := e.raw x cNode r.fs (upd_same ..)
  refine ⟨g, os, b, ro, σ, L, fun a q z => ?_, e.tr, e.ls, e.tp, e.dt, fun a C fs z => ?_, fun a q z => ?_⟩
  · have z' : upd S.nd x r a = some q := z
    by_cases w : a = x
    · subst w; rw [upd_same] at z'; cases z'; exact ⟨d, h1, h2⟩
    · rw [upd_ne w] at z'; exact e.nd a q z'
  · have w : a ≠ x := fun w => by rw [w] at z; have := fr.raw; rw [show S.raw x = some (C, fs) from z] at this; cases this
    exact e.raw a C fs ((upd_ne w).trans z)
  · have w : a ≠ x := fun w => by rw [w] at z; have := fr.raw; rw [show S.raw x = some q from z] at this; cases this
    have := e.excl a q ((upd_ne w).trans z)
    exact ⟨(upd_ne w).trans this.1, this.2⟩
theorem InvS.toTr {x : Addr} {r : Option Addr × Int} (I : InvS c β (S.setRaw x cTree (treeFs r)) s) (fr : S.Free x) : InvS c β (S.setTr x r) s := by
  obtain ⟨g, os, b, ro, σ, L, e⟩ := I
  obtain ⟨d, h1, h2⟩ := e.raw x cTree (treeFs r) (upd_same ..)
  refine ⟨g, os, b, ro, σ, L, e.nd, fun a q z => ?_, e.ls, e.tp, e.dt, fun a C fs z => ?_, fun a q z => ?_⟩
  · have z' : upd S.tr x r a = some q := z
    by_cases w : a = x
    · subst w; rw [upd_same] at z'; cases z'; exact ⟨d, h1, h2⟩
    · rw [upd_ne w] at z'; exact e.tr a q z'
  · have w : a ≠ x := fun w => by rw [w] at z; have := fr.raw; rw [show S.raw x = some (C, fs) from z] at this; cases this
    exact e.raw a C fs ((upd_ne w).trans z)
  · have w : a ≠ x := fun w => by rw [w] at z; have := fr.raw; rw [show S.raw x = some q from z] at this; cases this
    have := e.excl a q ((upd_ne w).trans z)
    exact ⟨this.1, (upd_ne w).trans this.2⟩
noncomputable def CC (c : Cst) (k : Nat) (f : Value) (args : List AV) (Q : AV → Sto → Prop) (S : Sto) : Prop :=
  ∀ (A : Around) (β : Bas) (s : Shared) (vs : List Value) (R : Result → Shared → Prop), Room A k → InvS c β S s → vs.map er = args → (∀ v S' s', Q (er v) S' → InvS c β S' s' → R (.ok (.ret v)) s') → codeAny c.M A (.call f ⟨vs, []⟩) R s
theorem call_funCC {f : Addr} {oc : Value} {od : Option Addr} {osl : Array (Option Value)} {name qual : Str} {params : Arguments} {body : List Stmt} {scope : Scope} {dV kV doc pm cdv ct : Value} {an : Option Addr} {args : List AV} {xs : List Str} {Q : AV → Sto → Prop} {m : Loc}
    (ho : c.K.lookup f = some ⟨oc, od, .func (fnOf name qual params body scope dV kV doc pm an cdv ct), osl⟩) (hcd : codeIn c.K cdv qual = true)
    (hbind : ∀ vs : List Value, vs.length = args.length → bindArgs (fnOf name qual params body scope dV kV doc pm an cdv ct) ⟨vs, []⟩ = pure (xs.zip vs))
    (hk : scope.kind = .function) (hco : scope.isCoroutine = false) (hgen : scope.isGenerator = false) (hnm : (scope.names.map (·.1)).Nodup) (hok : (scope.names.all okName) = true)
    (hloc : (xs.all (okLoc scope)) = true) (hnd : xs.Nodup) (hxl : xs.length = args.length)
    (hm : initM scope.names (xs.zip args) = m)
    (h : XW c k (execs body) (retQ Q) m S) : CC c (k + 1) (.ref f) args Q S := by
  intro A β s vs R r I hvs hR
  have X := I.X
  exact call_code r I hvs (X _ _ ho) rfl (codeRec_of X hcd) rfl rfl rfl rfl rfl (hbind vs (by rw [← hvs, List.length_map])) hk hco hgen hnm hok hloc hnd hxl hm h hR
theorem call_class {C fI : Addr} {args : List AV} {Q : AV → Sto → Prop} (hm : makesIn c.K C = true) (hi : findIn c.K (.ref C) "__init__" = some (some (.ref fI))) (hf : typeIn c.K (.ref fI) = some (.type "function"))
    (h : ∀ x, S.Free x → CC c k (.ref fI) (.ref x :: args) (fun v S' => v = .none ∧ ∀ β s, InvS c β S' s → ∃ S'', Q (.ref x) S'' ∧ InvS c β S'' s) (S.setRaw x C [])) : CW c (k + 1) (.ref C) args Q S := by
  intro A β s vs r I hvs
  have X := I.X
  obtain ⟨fr, I2⟩ := I.newRaw (C := C) rfl
  obtain ⟨hh, g, d, t, os⟩ := s
  refine wpAny_call (make_core (makes_of X hm) (looks_findIn X hi) (fun self => bind_fn X self hf) (.inl rfl) ?_)
  refine h _ fr _ β _ _ _ ⟨?_, ?_, r.hand⟩ I2 (by rw [List.map_cons, hvs]; rfl) fun v S' s' hq I' => ?_
  · have := r.depth; show A.depth + 1 + k ≤ 900; omega
  · have := r.units; show A.units + 1 + 20 * k ≤ 9000; omega
  · obtain ⟨hv, hq⟩ := hq
    exact ⟨er_none hv, hq β s' I'⟩
theorem set_raw {a C : Addr} {n : Str} {v : AV} {fs : Fs} (h1 : S.nd a = none) (h2 : S.tr a = none) (h3 : S.raw a = some (C, fs)) (h4 : okField C n = true) (h5 : fs.length < 100) : S.setA (.ref a) n v = some (S.setRaw a C (setL n v fs)) := by
  unfold Sto.setA; dsimp only; rw [h1, h2, h3]; dsimp only
  rw [if_pos (by rw [h4, Bool.true_and]; exact decide_eq_true h5)]
theorem setRaw_setRaw (S : Sto) (a C C' : Addr) (r r' : Fs) : (S.setRaw a C r).setRaw a C' r' = S.setRaw a C' r' := by
  unfold Sto.setRaw
  congr 1
  funext b
  simp only [upd_at]
  split <;> rfl
end
end
section
section
variable {c : Cst} {k : Nat} {β : Bas} {S : Sto} {s : Shared}
theorem InvS.addLs (I : InvS c β S s) {h' : Heap} {t : Nat} {D : Addr} {items : Array Value} {xs : List AV} (hk : ∀ a o, s.heap.get? a = some o → h'.get? a = some o) (hD : s.heap.objs.size ≤ D) (hp : h'.PlainList D items) (hm : items.toList.map er = xs) (hz : items.size ≤ 1000) :
    S.Free D ∧ InvS c β (S.setLs D xs) { s with heap := h', toks := t } := by
  have fr := I.free hD
  obtain ⟨g, os, b, ro, σ, L, e⟩ := I
  have f := L.fresh hD
  refine ⟨fr, g, os, b, ro, _, (L.keeps hk).upd (x := D) (o := .list xs) (fun a o _ q => q) f.2 ⟨by rw [← hm]; simpa using hz, items, hp, hm⟩, e.setLs (.inl f.1)⟩
theorem ints_er : ∀ {vs : List Value} {ns : List Int}, IntsAre vs ns → vs.map er = ns.map .int
  | _, _, .nil => rfl
  | _, _, .cons n t h => by rw [List.map_cons, ints_er h]; rfl
theorem ints_of : ∀ {vs : List Value} {ns : List Int}, vs.map er = ns.map .int → IntsAre vs ns
  | [], [], _ => .nil
  | [], _ :: _, h => by cases h
  | _ :: _, [], h => by cases h
  | v :: vs, n :: ns, h => by
    rw [List.map_cons, List.map_cons] at h
    obtain ⟨h1, h2⟩ := List.cons.inj h
    obtain ⟨t, rfl⟩ := er_int h1
    exact .cons n t (ints_of h2)
theorem intsOf_map (ns : List Int) : intsOf (ns.map .int) = some ns := by
  induction ns with
  | nil => rfl
  | cons n r ih => rw [List.map_cons]; show (intsOf (r.map .int)).map _ = _; rw [ih]; rfl
theorem CW.sortedInts {l : Addr} {ns : List Int} {Q : AV → Sto → Prop} (hl : S.lst l = some (ns.map .int)) (h64 : ns.length < 64) (h : ∀ (D : Addr) (ns' : List Int), S.Free D → ns'.Perm ns → ns'.Pairwise (· ≤ ·) → Q (.ref D) (S.setLs D (ns'.map .int))) :
    CW c k (.builtin "sorted") [.ref l] Q S := by
  intro A β s vs r I e
  obtain ⟨x, vs, rfl, hx, e⟩ := List.map_eq_cons_iff.mp e
  obtain rfl := List.map_eq_nil_iff.mp e
  obtain rfl := er_ref hx
  obtain ⟨hz, items, hi, hm⟩ := I.lst hl
  have hI : IntsAre items.toList ns := ints_of hm
  have hlen := hI.length
  refine sorted_ints (vs := items.toList) (by rw [Array.toArray_toList]; exact hi) hI (by rw [hlen]; exact h64) fun out ns' h1 h2 h3 => ?_
  obtain ⟨ep, he⟩ := sortedAll_at s.heap items.toList out
  have hsz : out.size ≤ 1000 := by
    have e1 := h1.length
    have e2 := h2.length_eq
    rw [Array.length_toList] at e1
    omega
  obtain ⟨fr, I'⟩ := I.addLs (t := s.toks) (D := s.heap.objs.size + 1) (items := out) (fun _ _ => sortedAll_old) (Nat.le_succ _) ⟨ep, he⟩ (ints_er h1) hsz
  exact ⟨_, h _ ns' fr h2 h3, I'⟩
theorem sorted_of {A : Around} {E : Value → Shared → Prop} {a : Addr} {Q : Value → Shared → Prop}
    (h : wpAny c.M A.in1 (collect (.ref a)) (fun vs s1 => vs.length ≤ 1000 ∧ wpAny c.M A.in1 (call (.builtin "list.sort") [.ref s1.heap.objs.size]) (fun _ s' => Q (.ref s1.heap.objs.size) s') E { s1 with heap := s1.heap.push (seqObj "list" vs.toArray 0) }) E s) :
    wpAny c.M A (call (.builtin "sorted") [.ref a]) Q E s := by
  refine call_function_entry kind_sorted plain_sorted entry_sorted (args_sorted1 _) ?_
  unfold Builtin.«sorted»
  refine wpAny_bind (m := checkCount "sorted" 1 1 _) (wpAny_pure ?_)
  refine wpAny_bind (wpAny_mono h (fun vs s1 h1 => ?_) fun _ _ e => e)
  refine wpAny_bind (wpAny_newList ?_ (sl_le h1.1))
  refine wpAny_bind (wpAny_holding (wpAny_mono h1.2 (fun _ s' x => ?_) fun _ _ e => e))
  exact wpAny_pure ⟨_, rfl, x⟩
theorem sort_ints {A : Around} {E : Value → Shared → Prop} {D : Addr} {vs : List Value} {ns : List Int} {n : Nat} {Q : Value → Shared → Prop} (ho : s.heap.get? D = some (seqObj "list" vs.toArray n)) (hI : IntsAre vs ns) (h64 : vs.length < 64)
    (h : ∀ (out : Array Value) (ns' : List Int), IntsAre out.toList ns' → ns'.Perm ns → ns'.Pairwise (· ≤ ·) → Q .none { s with heap := sortedHeap s.heap D vs out }) : wpAny c.M A (call (.builtin "list.sort") [.ref D]) Q E s :=
  wpAny_call_entry slot_list_sort ⟨_, ho, rfl⟩ entry_list_sort (list_sort_tree ho hI h64 fun out ns' a1 a2 a3 => ⟨_, rfl, h out ns' a1 a2 a3⟩) (args_list_sort _)
theorem CW.sortedKeys {d : Addr} {es : Es} {Q : AV → Sto → Prop} (hd : S.dt d = some es) (h64 : es.length < 64) (h : ∀ (D : Addr) (ns' : List Int), S.Free D → ns'.Perm (es.map (·.1)) → ns'.Pairwise (· ≤ ·) → Q (.ref D) (S.setLs D (ns'.map .int))) :
    CW c k (.builtin "sorted") [.ref d] Q S := by
  intro A β s vs r I e
  obtain ⟨x, vs, rfl, hx, e⟩ := List.map_eq_cons_iff.mp e
  obtain rfl := List.map_eq_nil_iff.mp e
  obtain rfl := er_ref hx
  obtain ⟨hsm, hz, kvs, hD, hm⟩ := I.dict hd
  obtain ⟨ep, hat⟩ := hD.dictAt
  have hkl : kvs.length = es.length := by rw [← hm, List.length_map]
  refine sorted_of (kdu_collect (kdl_dict (knd := intKind c.prog c.w) (kvs := kvs) (ep := ep) (by simpa using hsm)) r.hand hat (sl_le (by rw [hkl]; exact hz)) fun h' tk acc hk hacc => ?_)
  have hlen : acc.toList.length = kvs.length := by rw [Array.length_toList]; exact hacc.1
  have hI : IntsAre acc.toList (kvs.map (·.1)) := by
    refine ints_of (List.ext_getElem? fun i => ?_)
    rw [List.getElem?_map, List.getElem?_map, List.getElem?_map]
    cases q : acc.toList[i]? with
    | none =>
      have : kvs[i]? = none := by
        rw [List.getElem?_eq_none_iff] at q ⊢; omega
      rw [this]; rfl
    | some v =>
      rw [Array.getElem?_toList] at q
      obtain ⟨z, x, hx, hv⟩ := hacc.2 i v q
      rw [hx]
      obtain ⟨t, rfl⟩ := Value.isInt_shape hv
      rfl
  refine ⟨by rw [hlen]; omega, ?_⟩
  refine sort_ints (vs := acc.toList) (ns := kvs.map (·.1)) (n := 0) (Heap.get?_push_size _ rfl) hI (by rw [hlen]; omega) fun out ns' h1 h2 h3 => ?_
  have I1 : InvS c β S { s with heap := h', toks := tk } := (I.toks tk).grow hk
  obtain ⟨e0, he⟩ := sortedHeap_at (h := h'.push (seqObj "list" acc.toList.toArray 0)) (a := h'.objs.size) (vs := acc.toList) (n := 0) (out := out) (Heap.get?_push_size _ rfl)
  have old : ∀ a o, h'.get? a = some o → (sortedHeap (h'.push (seqObj "list" acc.toList.toArray 0)) h'.objs.size acc.toList out).get? a = some o := fun a o q => by
    have hlt := Heap.lt_size q
    rw [sortedHeap_old (Nat.ne_of_lt hlt) (by rw [Heap.size_push]; exact Nat.lt_succ_of_lt hlt)]
    exact Heap.get?_push_of_some _ q
  have hsz : out.size ≤ 1000 := by
    have e1 := h1.length
    have e2 := h2.length_eq
    rw [Array.length_toList] at e1
    rw [List.length_map] at e2
    omega
  obtain ⟨fr, I'⟩ := I1.addLs (t := tk) (D := h'.objs.size) (items := out) old (Nat.le_refl _) ⟨e0, he⟩ (ints_er h1) hsz
  refine ⟨_, h _ ns' fr ?_ h3, I'⟩
  rw [← hm, List.map_map]
  exact h2
end
end
section
section
variable {c : Cst} {k : Nat} {β : Bas} {env : Env} {m : Loc} {S : Sto} {s : Shared}
theorem TW.cat {a b : Value} {l1 l2 : Addr} {xs ys : List AV} {Q : AV → Sto → Prop} (ha : er a = .ref l1) (hb : er b = .ref l2) (h1 : S.lst l1 = some xs) (h2 : S.lst l2 = some ys) (hz : xs.length + ys.length ≤ 1000)
    (hq : ∀ D, S.Free D → Q (.ref D) (S.setLs D (xs ++ ys))) : TW c k env m (binaryOp .Add a b) (fun u => Q (er u)) S := by
  intro A β s r F I
  obtain rfl := er_ref ha
  obtain rfl := er_ref hb
  obtain ⟨_, i1, hl, m1⟩ := I.lst h1
  obtain ⟨_, i2, hb, m2⟩ := I.lst h2
  have z1 : i1.size = xs.length := by rw [← m1]; simp
  have z2 : i2.size = ys.length := by rw [← m2]; simp
  obtain ⟨⟨cls, dd, data, sl⟩, ho, hc, n, hd⟩ := id hl
  obtain ⟨⟨cls2, dd2, data2, sl2⟩, ho2, hc2, n2, hd2⟩ := id hb
  simp only at hc hd hc2 hd2
  subst hc hd hc2 hd2
  refine concat_meets ⟨_, ho, rfl⟩ ⟨_, ho2, rfl⟩ noFill_list_add seq_list_add PySem.F.slot_list_add PySem.F.entry_list_add (PySem.F.args_list_add_2 _ _) (list_addW l1 l2 i1 i2 n n2 dd dd2 sl sl2 (sl_le (by rw [z1, z2]; exact hz))) ⟨ho, ho2, ?_⟩
  have I2 := I.newLs (i1 ++ i2).toList (by rw [Array.length_toList, Array.size_append]; omega)
  have e : (i1 ++ i2).toList.map er = xs ++ ys := by rw [Array.toList_append, List.map_append, m1, m2]
  rw [e] at I2
  refine ⟨_, hq _ (I.free (Nat.le_refl _)), ?_⟩
  rw [Array.toArray_toList] at I2
  exact I2
theorem EW.cat {l r : PySem.Expr} {p : Pos} {Q : AV → Sto → Prop}
    (h : EWs c k m l (fun a S1 => EWs c k m r (fun b S2 => ∃ l1 l2 xs ys, a = .ref l1 ∧ b = .ref l2 ∧ S2.lst l1 = some xs ∧ S2.lst l2 = some ys ∧ xs.length + ys.length ≤ 1000 ∧ ∀ D, S2.Free D → Q (.ref D) (S2.setLs D (xs ++ ys))) S1) S) :
    EWs c k m (.BinOp l .Add r p) Q S := by
  intro env
  show TW c k env m (do
    let a ← eval l env
    let b ← holding [a] (eval r env)
    standAt p
    operate [a, b] (binaryOp .Add a b)) _ _
  refine TW.bind ((h env).mono fun lv S' h' => TW.bind (TW.holding ((h' env).mono fun rv S'' h'' => ?_)))
  obtain ⟨l1, l2, xs, ys, a1, a2, a3, a4, a5, hq⟩ := h''
  exact TW.bind (TW.standAt (TW.operate (TW.cat a1 a2 a3 a4 a5 hq)))
theorem EW.pow {i j : Int} {x y : Nat} {p q z : Pos} {Q : AV → Sto → Prop} (hc0 : j ≥ 0) (hc1 : ¬(j == 0) = true) (hc2 : ¬(i == 0 || i == 1) = true) (hc3 : ¬(i == -1) = true) (hc4 : ¬Builtin.Int.intTooBig (((Builtin.Int.intBits i : Nat) : Int) * j) = true)
    (h : Q (.int (i ^ j.toNat)) S) : EWs c k m (.BinOp (.Constant (.int i) x p) .Pow (.Constant (.int j) y q) z) Q S := by
  intro env
  show TW c k env m (do
    let a ← eval (.Constant (.int i) x p) env
    let b ← holding [a] (eval (.Constant (.int j) y q) env)
    standAt z
    operate [a, b] (binaryOp .Pow a b)) _ _
  have k1 : ∀ (i : Int) (x : Nat) (p : Pos) (Q : Value → Sto → Prop), (∀ t, Q (.int i t) S) → TW c k env m (eval (.Constant (.int i) x p) env) Q S := fun i x p Q h => fun A β s r F I => wpAny_Constant_int ⟨S, h _, I.toks _⟩
  refine TW.bind (k1 i x p _ fun t => TW.bind (TW.holding (k1 j y q _ fun u => TW.bind (TW.standAt (TW.operate ?_)))))
  intro A β s r F I
  exact PySem.AutoIntOps.pow_4 hc0 hc1 hc2 hc3 hc4 ⟨S, h, I.toks _⟩
theorem CW.lenD {d : Addr} {es : Es} {Q : AV → Sto → Prop} (hd : S.dt d = some es) (h : Q (.int es.length) S) : CW c k (.builtin "len") [.ref d] Q S := by
  intro A β s vs r I e
  obtain ⟨x, vs, rfl, hx, e⟩ := List.map_eq_cons_iff.mp e
  obtain rfl := List.map_eq_nil_iff.mp e
  obtain rfl := er_ref hx
  obtain ⟨hsm, hz, kvs, hD, hm⟩ := I.dict hd
  have hkl : kvs.length = es.length := by rw [← hm, List.length_map]
  refine call_len_dict (by simpa using hsm) hD (by omega) ⟨S, ?_, I.toks _⟩
  rw [hkl]; exact h
theorem TW.itemT {value slice : PySem.Expr} {o i : Value} {a : Addr} {j : Nat} {xs : List AV} {v : AV} {Q : AV → Sto → Prop} (ho : er o = .ref a) (hi : er i = .int j) (hx : S.tp a = some xs) (hv : xs[j]? = some v) (hq : Q v S) : TW c k env m (subscriptTail value slice o i) (fun u => Q (er u)) S := by
  intro A β s r F I
  obtain rfl := er_ref ho
  obtain ⟨tk, rfl⟩ := er_int hi
  obtain ⟨hz, items, ht, hm⟩ := I.tup hx
  have hlt : j < xs.length := by
    rcases Nat.lt_or_ge j xs.length with z | z
    · exact z
    · rw [List.getElem?_eq_none z] at hv; cases hv
  have hsz : items.size = xs.length := by rw [← hm]; simp
  obtain ⟨u, hu, rfl⟩ := get_map hm hv
  have ht' : s.TypeIs (.ref a) "tuple" := by obtain ⟨o, e, c, _⟩ := ht; exact ⟨o, e, c⟩
  refine sub_tail ht' slot_tuple_getitem.lookup (PyProof.Rows.getItem_tuple (j := j) (x := u) (by obtain ⟨o, e, c, n, d⟩ := ht; exact ⟨o, e, c, n, d⟩) (by omega) (by omega) ?_ hu ⟨S, hq, I⟩)
  rw [seqIndex_of (by omega) (by omega)]
  rfl
theorem EW.sub {o i : PySem.Expr} {p : Pos} {Q : AV → Sto → Prop} (hsl : isSlice i = false)
    (h : EWs c k m o (fun ov S1 => EWs c k m i (fun iv S2 => (∃ v, S2.item ov iv = some v ∧ Q v S2) ∨ ∃ a xs v, ∃ j : Nat, ov = .ref a ∧ iv = .int j ∧ S2.tp a = some xs ∧ xs[j]? = some v ∧ Q v S2) S1) S) : EWs c k m (.Subscript o i p) Q S := by
  intro env A β s r F I
  refine Subscript_ (wpAny_mono (h env A β s r F I) (fun ov s1 h1 => ?_) fun _ _ e => e)
  obtain ⟨S1, h1, I1⟩ := h1
  refine wpAny_mono (h1 env A β s1 r F I1) (fun iv s2 h2 => ?_) fun _ _ e => e
  obtain ⟨S2, h2, I2⟩ := h2
  rcases h2 with ⟨v, hv, hq⟩ | ⟨a, xs, v, j, e1, e2, e3, e4, hq⟩
  · exact TW.item hv hq A β s2 r F I2
  · exact TW.itemT e1 e2 e3 e4 hq A β s2 r F I2
theorem dict_ne {A : Around} {d e : Addr} {es : Es} {Q : Value → Shared → Prop} (r : Room A k) (I : InvS c β S s) (hd : S.dt d = some es) (he : S.dt e = some []) (hq : Q (.bool (!es.isEmpty)) s) : wpAny c.M A (compareOp .NotEq (.ref d) (.ref e)) Q NoE s := by
  obtain ⟨hsm, hz, kvs, hD, hm⟩ := I.dict hd
  obtain ⟨hsm2, _, kvs2, hE, hm2⟩ := I.dict he
  have tD := hD.typeIs (s := s)
  have tE := hE.typeIs (s := s)
  obtain ⟨od, eds, epd, hod, xd, ded, kd, pd, nd⟩ := id hD
  obtain ⟨oe, ees, epe, hoe, xe, dee, ke, pe, ne⟩ := id hE
  have sd : eds.size = kvs.length := by rw [← pd.length]; simp
  have se : ees.size = 0 := by
    have : kvs2 = [] := by simpa using hm2
    subst this
    have := pe.length
    simpa using this
  have ek : kvs.isEmpty = es.isEmpty := by rw [← hm]; cases kvs <;> rfl
  show wpAny c.M A (richCompare .NotEq (.ref d) (.ref e)) Q NoE s
  refine wpAny_richCompare_same_room tD tE PySem.F.slot_dict_ne (wpAny_call_entry PySem.F.slot_dict_ne tD PySem.F.entry_dict_ne ?_ (PySem.F.args_dict_ne_2 _ _)) (by have := r.units; show A.units < 9900; omega)
  show wpAny c.M _ (Builtin.Dict.dictSlotArgs "__ne__" ⟨[.ref d, .ref e], []⟩ >>= _) _ _ s
  refine wpAny_bind ?_
  unfold Builtin.Dict.dictSlotArgs
  refine wpAny_bind (wpAny_notOrdered_dict tD ?_)
  refine wpAny_bind (m := PySem.slotArgs "__ne__" 1 ⟨[Value.ref d, Value.ref e], []⟩) (wpAny_pure (a := (Value.ref d, [Value.ref e])) ?_)
  refine wpAny_pure ?_
  dsimp only
  refine wpAny_bind (wpAny_isInstance tE (b := true) (by kernel_rfl) ?_)
  rw [if_neg (by decide)]
  refine wpAny_bind (wpAny_pure (a := d) (wpAny_bind (wpAny_pure (a := e) (wpAny_bind ?_))))
  unfold Builtin.Dict.samePairs Builtin.Dict.showsAll
  rw [if_neg (by simpa using hsm), if_neg (by simpa using hsm2)]
  refine wpAny_bind (wpAny_pure (wpAny_bind (wpAny_pure ?_)))
  refine wpAny_bind (wpAny_dictEntries hod ded (wpAny_bind (wpAny_dictEntries hoe dee ?_)))
  rw [se, sd]
  cases es with
  | cons x xs =>
    have hk : kvs.length ≠ 0 := by rw [← List.length_map (f := erP), show kvs.map erP = x :: xs from hm]; simp
    rw [if_pos (by simpa using hk)]
    exact wpAny_bind (wpAny_rule (wpAny_pure (wpAny_pure ⟨_, rfl, (fun h => by cases h), hq⟩)))
  | nil =>
    have hk : kvs.length = 0 := by rw [← List.length_map (f := erP), show kvs.map erP = [] from hm]; rfl
    rw [hk, if_neg (by simp)]
    refine wpAny_bind (wpAny_dictEpoch hod ded ?_)
    have z : ∀ {α : Type} (f : Nat → α → Sem (ForInStep α)) (a : α), (forIn ([:0] : Std.Legacy.Range) a f) = (pure a : Sem α) := fun f a => by
      rw [Std.Legacy.Range.forIn_eq_forIn_range']
      rfl
    rw [z]
    exact wpAny_bind (wpAny_pure (wpAny_pure (wpAny_pure ⟨_, rfl, (fun h => by cases h), hq⟩)))
theorem dict_ne_test {x : Str} {xp dp p : Pos} {d : Addr} {es : Es} {Q : Bool → Sto → Prop} {w : Sem Value} (hv : valOf m x = some (.ref d)) (hd : S.dt d = some es) (hq : ∀ e, S.Free e → Q (!es.isEmpty) (S.setDt e [])) :
    TW c k env m (isTrue (.Compare (.Name x xp) [.NotEq] [.Dict [] [] dp] p) env w) Q S := by
  have e : isTrue (.Compare (.Name x xp) [.NotEq] [.Dict [] [] dp] p) env w = (do testChain p (← eval (.Name x xp) env) [.NotEq] (markedEach [.NotEq] [.Dict [] [] dp] (evalEach [.Dict [] [] dp] env))) := rfl
  rw [e, cmp_eval (l := .Name x xp) (op := .NotEq) (p := p) ⟨nofun, nofun⟩]
  refine TW.bind ((TW.name (Q := fun v S' => v = .ref d ∧ S' = S) hv ⟨rfl, rfl⟩).mono fun lv S' h' => ?_)
  obtain ⟨h', rfl⟩ := h'
  obtain rfl := er_ref h'
  show TW c k env m (do
    let rv ← holding [Value.ref d] (eval (.Dict [] [] dp) env)
    standAt p
    let c ← operate [Value.ref d, rv] (compareOp .NotEq (Value.ref d) rv)
    holding [c] (truthy c)) _ _
  refine TW.bind (TW.holding ((TW.dictEmpty (Q := fun v S'' => ∃ e, v = .ref e ∧ S'.Free e ∧ S'' = S'.setDt e []) fun e he => ⟨e, rfl, he, rfl⟩).mono fun rv S'' h'' => ?_))
  obtain ⟨e, hrv, he, rfl⟩ := h''
  obtain rfl := er_ref hrv
  have ne : d ≠ e := fun z => by subst z; rw [he.dt] at hd; cases hd
  have hd2 : (S'.setDt e []).dt d = some es := (upd_ne ne).trans hd
  have he2 : (S'.setDt e []).dt e = some [] := upd_same ..
  refine TW.bind (TW.standAt (TW.bind (TW.operate ?_)))
  intro A β s r F I
  exact dict_ne r I hd2 he2 ⟨_, TW.holding fun A β s r F I => wpAny_truthy_bool ⟨_, hq e he, I⟩, I⟩
end
end
section
noncomputable def Cmp (cmp : Nat → Nat → (Bool → Shared → Prop) → Shared → Prop) (r : Nat → Int) (n : Nat) (s : Shared) : Prop := ∀ i j C, i < n → j < n → C (decide (r i < r j)) s → cmp i j C s
noncomputable def Kp (r : Nat → Int) (p : Array Nat) (i : Nat) : Int := r (p.getD i 0)
noncomputable def PB (n : Nat) (p : Array Nat) : Prop := p.Perm (List.range n).toArray
noncomputable def Srtd (r : Nat → Int) (p : Array Nat) (k : Nat) : Prop := ∀ i j, i ≤ j → j < k → Kp r p i ≤ Kp r p j
noncomputable def NonI (r : Nat → Int) (p : Array Nat) (k : Nat) : Prop := ∀ i j, i ≤ j → j < k → Kp r p j ≤ Kp r p i
theorem ltA {a f n : Nat} (h : a + (f + 1) ≤ n) : a < n := Nat.lt_of_lt_of_le (Nat.lt_add_of_pos_right (Nat.succ_pos f)) h
theorem leA {a f n : Nat} (h : a + (f + 1) ≤ n) : a + 1 + f ≤ n := Nat.le_trans (Nat.le_of_eq (Nat.succ_add a f)) h
theorem leB {a f m : Nat} (h : m ≤ a + 1 + f) : m ≤ a + (f + 1) := Nat.le_trans h (Nat.le_of_eq (Nat.succ_add a f))
theorem ltP {a n : Nat} (h : a < n) : a - 1 < n := Nat.lt_of_le_of_lt (Nat.sub_le _ _) h
theorem pred_lt {a n : Nat} (h1 : 1 ≤ a) (h : a ≤ n) : a - 1 < n := Nat.lt_of_lt_of_le (Nat.sub_lt h1 Nat.one_pos) h
theorem topA {a n : Nat} (h : a ≤ n) : a + (n - a) ≤ n := Nat.le_of_eq (Nat.add_sub_cancel' h)
theorem topB {a n m : Nat} (h : a ≤ n) (g : m ≤ a + (n - a)) : m ≤ n := Nat.le_trans g (topA h)
section
variable {cmp : Nat → Nat → (Bool → Shared → Prop) → Shared → Prop} {r : Nat → Int} {n : Nat} {p : Array Nat} {s : Shared}
theorem PB.size (h : PB n p) : p.size = n := by
  have := Array.Perm.size_eq h
  exact this.trans (by rw [List.size_toArray, List.length_range])
theorem getD_of {p : Array Nat} (i : Nat) : p.getD i 0 = (p[i]?).getD 0 := by simp
theorem PB.lt (h : PB n p) {i : Nat} (hi : i < n) : p.getD i 0 < n := by
  have hs : i < p.size := by rw [h.size]; exact hi
  rw [getD_of, Array.getElem?_eq_getElem hs]
  exact List.mem_range.mp ((Array.perm_iff_toList_perm.mp h).mem_iff.mp (Array.mem_toList_iff.mpr (Array.getElem_mem hs)))
theorem PB.rev (h : PB n p) (i j : Nat) : PB n (kas_rev p i j) := (mirror_perm _ _ _ _).trans h
theorem PB.bub (h : PB n p) (i j : Nat) : PB n (bubble p i j) := (bubble_perm _ _ _).trans h
theorem Kp_of (p : Array Nat) (i : Nat) : Kp r p i = r ((p[i]?).getD 0) := by unfold Kp; rw [getD_of]
theorem Kp_rev {i j : Nat} (hj : j ≤ p.size) (k : Nat) : Kp r (kas_rev p i j) k = if i ≤ k ∧ k < j then Kp r p (i + j - 1 - k) else Kp r p k := by
  rw [Kp_of, Kp_of, Kp_of]
  unfold kas_rev
  rw [getElem?_mirror_all hj]
  split <;> rfl
theorem Kp_bub {k d : Nat} (hs : k < p.size) (hd : d ≤ k) (x : Nat) : Kp r (bubble p k d) x = if x = k - d then Kp r p k else if k - d < x ∧ x ≤ k then Kp r p (x - 1) else Kp r p x := by
  rw [Kp_of, Kp_of, Kp_of, Kp_of]
  rw [getElem?_bubble hs d hd]
  repeat' split
  all_goals rfl
theorem snocR {R : Int → Int → Prop} (hr : ∀ x, R x x) (ht : ∀ x y z, R x y → R y z → R x z) {v : Nat → Int} {a : Nat} (ha : 1 ≤ a) (hs : ∀ i j, i ≤ j → j < a → R (v i) (v j)) (hl : R (v (a - 1)) (v a)) : ∀ i j, i ≤ j → j < a + 1 → R (v i) (v j) := fun i j hij hj => by
  by_cases hja : j < a
  · exact hs i j hij hja
  · cases Nat.le_antisymm (Nat.le_of_lt_succ hj) (Nat.not_lt.mp hja)
    by_cases hi : i = a
    · rw [hi]; exact hr _
    · exact ht _ _ _ (hs i (a - 1) (Nat.le_sub_one_of_lt (Nat.lt_of_le_of_ne hij hi)) (Nat.sub_lt ha Nat.one_pos)) hl
theorem Srtd.snoc {a : Nat} (ha : 1 ≤ a) (hs : Srtd r p a) (hl : Kp r p (a - 1) ≤ Kp r p a) : Srtd r p (a + 1) := snocR (R := (· ≤ ·)) Int.le_refl (fun _ _ _ => Int.le_trans) ha hs hl
theorem NonI.snoc {a : Nat} (ha : 1 ≤ a) (hs : NonI r p a) (hl : Kp r p a ≤ Kp r p (a - 1)) : NonI r p (a + 1) := snocR (R := fun x y => y ≤ x) Int.le_refl (fun _ _ _ h g => Int.le_trans g h) ha hs hl
theorem NonI.congr {p' : Array Nat} {a : Nat} (hs : NonI r p a) (h : ∀ k, Kp r p' k = Kp r p k) : NonI r p' a := fun i j hij hj => by rw [h, h]; exact hs i j hij hj
theorem asc_wp (hc : Cmp cmp r n s) (hp : PB n p) {G : Nat → Shared → Prop} (f : Nat) : ∀ (a : Nat), 1 ≤ a → a + f ≤ n → Srtd r p a → (∀ m, a ≤ m → m ≤ a + f → Srtd r p m → (m = a + f ∨ Kp r p m < Kp r p (m - 1)) → G m s) → (kas_asc p f a).kasWp cmp G s := by
  induction f with
  | zero => exact fun a _ _ hs h => h a (Nat.le_refl _) (Nat.le_refl _) hs (.inl rfl)
  | succ f ih =>
    intro a ha hn hs h
    show (KasT.ask (p.getD a 0) (p.getD (a - 1) 0) fun c => if c = true then .ret a else kas_asc p f (a + 1)).kasWp cmp G s
    refine hc _ _ _ (hp.lt (ltA hn)) (hp.lt (ltP (ltA hn))) ?_
    by_cases hl : Kp r p a < Kp r p (a - 1)
    · rw [show decide (r (p.getD a 0) < r (p.getD (a - 1) 0)) = true from decide_eq_true hl]; dsimp only; rw [if_pos rfl]
      exact h a (Nat.le_refl _) (Nat.le_add_right _ _) hs (.inr hl)
    · rw [show decide (r (p.getD a 0) < r (p.getD (a - 1) 0)) = false from decide_eq_false hl]; dsimp only; rw [if_neg (by decide)]
      exact ih (a + 1) (Nat.succ_pos a) (leA hn) (hs.snoc ha (Int.not_lt.mp hl)) fun m h1 h2 h3 h4 => h m (Nat.le_of_succ_le h1) (leB h2) h3 (h4.imp_left fun e => e.trans (Nat.succ_add a f))
theorem tail3_wp (hc : Cmp cmp r n s) (hp : PB n p) {G : Nat × Array Nat → Shared → Prop} {a : Nat} (h1 : 1 ≤ a) (hn : a ≤ n) (hs : NonI r p a) (h : ∀ m p', PB n p' → 1 ≤ m → m ≤ n → Srtd r p' m → G (m, p') s) : (kas_tail3 a n p).kasWp cmp G s := by
  unfold kas_tail3
  rw [KasT.kasWp_bind]
  have hsz : a ≤ p.size := by rw [hp.size]; exact hn
  refine asc_wp hc (hp.rev 0 a) (n - a) a h1 (topA hn) (fun i j hij hj => ?_) fun m g1 g2 g3 _ => h m _ (hp.rev 0 a) (Nat.le_trans h1 g1) (topB hn g2) g3
  rw [Kp_rev hsz, Kp_rev hsz, if_pos ⟨Nat.zero_le _, Nat.lt_of_le_of_lt hij hj⟩, if_pos ⟨Nat.zero_le _, hj⟩]
  exact hs _ _ (Nat.sub_le_sub_left hij _) (Nat.lt_of_le_of_lt (Nat.sub_le _ _) (by rw [Nat.zero_add]; exact Nat.sub_lt h1 Nat.one_pos))
theorem rev_at {b a k : Nat} (h1 : b ≤ k) (h2 : k < a) : b ≤ b + a - 1 - k ∧ b + a - 1 - k < a := by
  obtain ⟨e, rfl⟩ := Nat.exists_eq_add_of_lt h2
  rw [show b + (k + e + 1) - 1 - k = b + e by rw [← Nat.add_assoc, Nat.add_sub_cancel, ← Nat.add_assoc, Nat.add_right_comm, Nat.add_sub_cancel]]
  exact ⟨Nat.le_add_right _ _, Nat.lt_succ_of_le (Nat.add_le_add_right h1 e)⟩
theorem rev_eq {a q : Nat} (ha : a ≤ p.size) (he : ∀ i, a - (q + 1) ≤ i → i < a → Kp r p i = Kp r p (a - 1)) (k : Nat) : Kp r (kas_rev p (a - (q + 1)) a) k = Kp r p k := by
  rw [Kp_rev ha]
  split
  · rename_i h
    have g := rev_at h.1 h.2
    rw [he _ g.1 g.2, he k h.1 h.2]
  · rfl
theorem one_at {a i : Nat} {P : Nat → Int} (h1 : a + 1 - (0 + 1) ≤ i) (h2 : i < a + 1) : P i = P (a + 1 - 1) := congrArg P (Nat.le_antisymm (Nat.le_of_lt_succ h2) h1)
theorem desc_wp (hc : Cmp cmp r n s) {G : Array Nat × Nat × Nat → Shared → Prop} (f : Nat) : ∀ (p : Array Nat) (a q : Nat), PB n p → 1 ≤ a → a + f ≤ n → NonI r p a → q + 1 ≤ a → (∀ i, a - (q + 1) ≤ i → i < a → Kp r p i = Kp r p (a - 1)) →
    (∀ p' m q', PB n p' → a ≤ m → m ≤ a + f → NonI r p' m → q' + 1 ≤ m → (∀ i, m - (q' + 1) ≤ i → i < m → Kp r p' i = Kp r p' (m - 1)) → G (p', m, q') s) → (kas_desc f p a q).kasWp cmp G s := by
  induction f with
  | zero => exact fun p a q hp _ _ hs hq he h => h p a q hp (Nat.le_refl _) (Nat.le_refl _) hs hq he
  | succ f ih =>
    intro p a q hp ha hn hs hq he h
    have hsz : a ≤ p.size := by rw [hp.size]; exact Nat.le_of_lt (ltA hn)
    show (KasT.ask (p.getD a 0) (p.getD (a - 1) 0) fun c => if c = true then (if q > 0 then kas_desc f (kas_rev p (a - (q + 1)) a) (a + 1) 0 else kas_desc f p (a + 1) 0) else .ask (p.getD (a - 1) 0) (p.getD a 0) fun d => if d = true then .ret (p, a, q) else kas_desc f p (a + 1) (q + 1)).kasWp cmp G s
    refine hc _ _ _ (hp.lt (ltA hn)) (hp.lt (ltP (ltA hn))) ?_
    by_cases hl : Kp r p a < Kp r p (a - 1)
    · rw [show decide (r (p.getD a 0) < r (p.getD (a - 1) 0)) = true from decide_eq_true hl]; dsimp only; rw [if_pos rfl]
      have step : ∀ p' : Array Nat, PB n p' → (∀ k, Kp r p' k = Kp r p k) → (kas_desc f p' (a + 1) 0).kasWp cmp G s := fun p' hp' hk =>
        ih p' (a + 1) 0 hp' (Nat.succ_pos a) (leA hn) ((hs.snoc ha (Int.le_of_lt hl)).congr hk) (Nat.succ_pos a) (fun i h1 h2 => one_at h1 h2) fun p2 m q2 g1 g2 g3 => h p2 m q2 g1 (Nat.le_of_succ_le g2) (leB g3)
      by_cases hq0 : q > 0
      · rw [if_pos hq0]; exact step _ (hp.rev _ _) (rev_eq hsz he)
      · rw [if_neg hq0]; exact step _ hp fun _ => rfl
    · rw [show decide (r (p.getD a 0) < r (p.getD (a - 1) 0)) = false from decide_eq_false hl]; dsimp only; rw [if_neg (by decide)]
      refine hc _ _ _ (hp.lt (ltP (ltA hn))) (hp.lt (ltA hn)) ?_
      by_cases hg : Kp r p (a - 1) < Kp r p a
      · rw [show decide (r (p.getD (a - 1) 0) < r (p.getD a 0)) = true from decide_eq_true hg]; dsimp only; rw [if_pos rfl]
        exact h p a q hp (Nat.le_refl _) (Nat.le_add_right _ _) hs hq he
      · rw [show decide (r (p.getD (a - 1) 0) < r (p.getD a 0)) = false from decide_eq_false hg]; dsimp only; rw [if_neg (by decide)]
        have heq : Kp r p a = Kp r p (a - 1) := Int.le_antisymm (Int.not_lt.mp hg) (Int.not_lt.mp hl)
        refine ih p (a + 1) (q + 1) hp (Nat.succ_pos a) (leA hn) (hs.snoc ha (Int.le_of_eq heq)) (Nat.succ_le_succ hq) (fun i h1 h2 => ?_) fun p2 m q2 g1 g2 g3 => h p2 m q2 g1 (Nat.le_of_succ_le g2) (leB g3)
        show Kp r p i = Kp r p a
        by_cases hia : i = a
        · rw [hia]
        · rw [heq]; exact he i (by rw [Nat.succ_sub_succ] at h1; exact h1) (Nat.lt_of_le_of_ne (Nat.le_of_lt_succ h2) hia)
theorem descPart_wp (hc : Cmp cmp r n s) (hp : PB n p) {G : Nat × Array Nat → Shared → Prop} {a : Nat} (hn : a + 1 ≤ n) (hs : NonI r p (a + 1)) (h : ∀ m p', PB n p' → 1 ≤ m → m ≤ n → Srtd r p' m → G (m, p') s) : (kas_descPart a n p).kasWp cmp G s := by
  unfold kas_descPart
  rw [KasT.kasWp_bind]
  refine desc_wp hc (n - (a + 1)) p (a + 1) 0 hp (Nat.succ_pos a) (topA hn) hs (Nat.succ_pos a) (fun i h1 h2 => one_at h1 h2) fun p' m q g1 g2 g3 g4 g5 g6 => ?_
  have hm : m ≤ n := topB hn g3
  have h1 : 1 ≤ m := Nat.le_trans (Nat.succ_pos a) g2
  have hsz : m ≤ p'.size := by rw [g1.size]; exact hm
  show (if q > 0 then kas_tail3 m n (kas_rev p' (m - (q + 1)) m) else kas_tail3 m n p').kasWp cmp G s
  by_cases hq : q > 0
  · rw [if_pos hq]
    exact tail3_wp hc (g1.rev _ _) h1 hm (g4.congr (rev_eq hsz g6)) h
  · rw [if_neg hq]
    exact tail3_wp hc g1 h1 hm g4 h
theorem count_wp (hc : Cmp cmp r n s) (hp : PB n p) {G : Nat × Array Nat → Shared → Prop} (h1 : 1 ≤ n) (h : ∀ m p', PB n p' → 1 ≤ m → m ≤ n → Srtd r p' m → G (m, p') s) : (kas_count n p).kasWp cmp G s := by
  unfold kas_count
  rw [KasT.kasWp_bind]
  refine asc_wp hc hp (n - 1) 1 (Nat.le_refl _) (topA h1) (fun i j hij hj => by cases Nat.lt_one_iff.mp hj; cases Nat.le_zero.mp hij; exact Int.le_refl _) fun m g1 g2 g3 g4 => ?_
  have g2 := topB h1 g2
  by_cases hm : m = n
  · rw [if_pos (beq_iff_eq.mpr hm)]
    exact h m p hp g1 g2 g3
  · rw [if_neg fun e => hm (beq_iff_eq.mp e)]
    have hlt : Kp r p m < Kp r p (m - 1) := g4.resolve_left fun e => hm (e.trans (Nat.add_sub_cancel' h1))
    have hmn : m < n := Nat.lt_of_le_of_ne g2 hm
    have hsz : m ≤ p.size := by rw [hp.size]; exact g2
    by_cases hgt : m > 1
    · rw [if_pos hgt]
      refine hc _ _ _ (hp.lt h1) (hp.lt (ltP hmn)) ?_
      by_cases hr : Kp r p 0 < Kp r p (m - 1)
      · rw [show decide (r (p.getD 0 0) < r (p.getD (m - 1) 0)) = true from decide_eq_true hr]; dsimp only; rw [if_pos rfl]
        exact h m p hp g1 g2 g3
      · rw [show decide (r (p.getD 0 0) < r (p.getD (m - 1) 0)) = false from decide_eq_false hr]; dsimp only; rw [if_neg (by decide)]
        have pm : m - 1 < m := Nat.sub_lt g1 Nat.one_pos
        have hall : ∀ k, k < m → Kp r p k = Kp r p (m - 1) := fun k hk =>
          Int.le_antisymm (g3 k (m - 1) (Nat.le_sub_one_of_lt hk) pm) (Int.le_trans (Int.not_lt.mp hr) (g3 0 k (Nat.zero_le _) hk))
        have e0 : m - ((m - 1) + 1) = 0 := by rw [Nat.sub_add_cancel g1, Nat.sub_self]
        have hrev := rev_eq (r := r) (q := m - 1) hsz fun k _ hk => hall k hk
        rw [e0] at hrev
        have base : NonI r p m := fun i j hij hj => by rw [hall i (Nat.lt_of_le_of_lt hij hj), hall j hj]; exact Int.le_refl _
        exact descPart_wp hc (hp.rev _ _) hmn ((base.snoc g1 (Int.le_of_lt hlt)).congr hrev) h
    · rw [if_neg hgt]
      cases Nat.le_antisymm (Nat.not_lt.mp hgt) g1
      exact descPart_wp hc hp hmn (NonI.snoc (Nat.le_refl _) (fun i j hij hj => by cases Nat.lt_one_iff.mp hj; cases Nat.le_zero.mp hij; exact Int.le_refl _) (Int.le_of_lt hlt)) h
theorem mid {l b f : Nat} (h : l < b) (hf : b - l ≤ f + 1) : l ≤ (l + b) / 2 ∧ (l + b) / 2 < b ∧ (l + b) / 2 - l ≤ f ∧ b - ((l + b) / 2 + 1) ≤ f := by
  have e1 : (l + b) / 2 < b := Nat.div_lt_of_lt_mul (by rw [Nat.two_mul]; exact Nat.add_lt_add_right h b)
  have e2 : l ≤ (l + b) / 2 := (Nat.le_div_iff_mul_le Nat.two_pos).mpr (by rw [Nat.mul_two]; exact Nat.add_le_add_left (Nat.le_of_lt h) l)
  generalize (l + b) / 2 = c at *
  refine ⟨e2, e1, Nat.le_of_lt_succ (Nat.lt_of_lt_of_le (Nat.sub_lt_sub_right e2 e1) hf), ?_⟩
  exact Nat.le_trans (Nat.sub_le_sub_left (Nat.succ_le_succ e2) b) (by show b - (l + 1) ≤ f; rw [← Nat.sub_sub]; exact Nat.sub_le_of_le_add hf)
theorem place_wp (hc : Cmp cmp r n s) (hp : PB n p) {G : Nat → Shared → Prop} {k : Nat} (hk : k < n) (hs : Srtd r p k) (h : ∀ l, l ≤ k → (∀ i, i < l → Kp r p i ≤ Kp r p k) → (∀ i, l ≤ i → i < k → Kp r p k < Kp r p i) → G l s) (f : Nat) :
    ∀ (l b : Nat), l ≤ b → b ≤ k → b - l ≤ f → (∀ i, i < l → Kp r p i ≤ Kp r p k) → (∀ i, b ≤ i → i < k → Kp r p k < Kp r p i) → (kas_place p k f l b).kasWp cmp G s := by
  induction f with
  | zero =>
    intro l b h1 h2 h3 hlo hhi
    cases Nat.le_antisymm h1 (Nat.le_of_sub_eq_zero (Nat.le_zero.mp h3))
    exact h l h2 hlo hhi
  | succ f ih =>
    intro l b h1 h2 h3 hlo hhi
    unfold kas_place
    by_cases hge : l ≥ b
    · rw [if_pos hge]
      cases Nat.le_antisymm h1 hge
      exact h l h2 hlo hhi
    · rw [if_neg hge]
      obtain ⟨m1, m2, m3, m4⟩ := mid (Nat.not_le.mp hge) h3
      generalize (l + b) / 2 = c at *
      have ck := Nat.lt_of_lt_of_le m2 h2
      refine hc _ _ _ (hp.lt hk) (hp.lt (Nat.lt_trans ck hk)) ?_
      by_cases hl : Kp r p k < Kp r p c
      · rw [show decide (r (p.getD k 0) < r (p.getD c 0)) = true from decide_eq_true hl]; dsimp only; rw [if_pos rfl]
        exact ih l c m1 (Nat.le_of_lt ck) m3 hlo fun i g1 g2 => Int.lt_of_lt_of_le hl (hs _ _ g1 g2)
      · rw [show decide (r (p.getD k 0) < r (p.getD c 0)) = false from decide_eq_false hl]; dsimp only; rw [if_neg (by decide)]
        exact ih (c + 1) b m2 h2 m4 (fun i g1 => Int.le_trans (hs i c (Nat.le_of_lt_succ g1) ck) (Int.not_lt.mp hl)) hhi
theorem bub_srtd {k l : Nat} (hk : k < p.size) (hl : l ≤ k) (hs : Srtd r p k) (hlo : ∀ i, i < l → Kp r p i ≤ Kp r p k) (hhi : ∀ i, l ≤ i → i < k → Kp r p k < Kp r p i) : Srtd r (bubble p k (k - l)) (k + 1) := by
  have val := Kp_bub (r := r) hk (Nat.sub_le k l)
  rw [Nat.sub_sub_self hl] at val
  have v1 : ∀ x, x < l → Kp r (bubble p k (k - l)) x = Kp r p x := fun x h => by rw [val, if_neg (Nat.ne_of_lt h), if_neg fun g => Nat.lt_asymm h g.1]
  have v2 : Kp r (bubble p k (k - l)) l = Kp r p k := by rw [val, if_pos rfl]
  have v3 : ∀ x, l < x → x < k + 1 → Kp r (bubble p k (k - l)) x = Kp r p (x - 1) := fun x h g => by rw [val, if_neg (Nat.ne_of_gt h), if_pos ⟨h, Nat.le_of_lt_succ g⟩]
  have pk : ∀ x, l < x → x < k + 1 → x - 1 < k := fun x h g => pred_lt (Nat.lt_of_le_of_lt (Nat.zero_le _) h) (Nat.le_of_lt_succ g)
  intro i j hij hj
  rcases Nat.lt_trichotomy i l with hi | rfl | hi
  · rw [v1 i hi]
    rcases Nat.lt_trichotomy j l with hj' | rfl | hj'
    · rw [v1 j hj']; exact hs i j hij (Nat.lt_of_lt_of_le hj' hl)
    · rw [v2]; exact hlo i hi
    · rw [v3 j hj' hj]; exact hs i (j - 1) (Nat.le_sub_one_of_lt (Nat.lt_trans hi hj')) (pk j hj' hj)
  · rw [v2]
    rcases Nat.eq_or_lt_of_le hij with rfl | hj'
    · rw [v2]; exact Int.le_refl _
    · rw [v3 j hj' hj]; exact Int.le_of_lt (hhi _ (Nat.le_sub_one_of_lt hj') (pk j hj' hj))
  · have hj' := Nat.lt_of_lt_of_le hi hij
    rw [v3 i hi (Nat.lt_of_le_of_lt hij hj), v3 j hj' hj]
    exact hs _ _ (Nat.sub_le_sub_right hij 1) (pk j hj' hj)
theorem bin_wp (hc : Cmp cmp r n s) {G : Array Nat → Shared → Prop} (f : Nat) : ∀ (p : Array Nat) (k : Nat), PB n p → k + f ≤ n → Srtd r p k → (∀ p', PB n p' → Srtd r p' (k + f) → G p' s) → (kas_bin f p k).kasWp cmp G s := by
  induction f with
  | zero => exact fun p k hp _ hs h => h p hp hs
  | succ f ih =>
    intro p k hp hn hs h
    have hk : k < p.size := by rw [hp.size]; exact ltA hn
    show ((kas_place p k k 0 k).bind fun l => kas_bin f (bubble p k (k - l)) (k + 1)).kasWp cmp G s
    rw [KasT.kasWp_bind]
    refine place_wp hc hp (ltA hn) hs (fun l hl hlo hhi => ?_) k 0 k (Nat.zero_le _) (Nat.le_refl _) (Nat.sub_le _ _) (fun i hi => absurd hi (Nat.not_lt_zero _)) fun i g1 g2 => absurd g2 (Nat.not_lt.mpr g1)
    exact ih _ (k + 1) (hp.bub _ _) (leA hn) (bub_srtd hk hl hs hlo hhi) fun p' g1 g2 => h p' g1 (by rw [Nat.succ_add] at g2; exact g2)
theorem sort_wp (hc : Cmp cmp r n s) {G : Array Nat → Shared → Prop} (h1 : 1 ≤ n) (h : ∀ p', PB n p' → Srtd r p' n → G p' s) : (kas_sort n).kasWp cmp G s := by
  unfold kas_sort
  rw [KasT.kasWp_bind]
  refine count_wp hc (Array.Perm.refl _) h1 fun m p' g1 g2 g3 g4 => ?_
  show (if m < n then kas_bin (n - max m 1) p' (max m 1) else KasT.ret p').kasWp cmp G s
  by_cases hm : m < n
  · rw [if_pos hm, Nat.max_eq_left g2]
    exact bin_wp hc (n - m) p' m g1 (topA g3) g4 fun p2 k1 k2 => h p2 k1 (by rw [Nat.add_sub_cancel' g3] at k2; exact k2)
  · rw [if_neg hm]
    cases Nat.le_antisymm g3 (Nat.not_lt.mp hm)
    exact h p' g1 g4
end
end
section
noncomputable abbrev Tri := Int × Int × Int
noncomputable def ltT (x y : Tri) : Bool := decide (x.1 < y.1) || (decide (x.1 = y.1) && (decide (x.2.1 < y.2.1) || (decide (x.2.1 = y.2.1) && decide (x.2.2 < y.2.2))))
theorem ltT_iff {x y : Tri} : ltT x y = true ↔ x.1 < y.1 ∨ (x.1 = y.1 ∧ (x.2.1 < y.2.1 ∨ (x.2.1 = y.2.1 ∧ x.2.2 < y.2.2))) := by
  unfold ltT
  simp only [Bool.or_eq_true, Bool.and_eq_true, decide_eq_true_eq]
theorem lx_tr {a b c : Int} {P Q R : Prop} (h : a < b ∨ (a = b ∧ P)) (g : b < c ∨ (b = c ∧ Q)) (k : P → Q → R) : a < c ∨ (a = c ∧ R) :=
  h.elim (fun h => .inl (g.elim (Int.lt_trans h) fun g => g.1 ▸ h)) fun h => h.1 ▸ g.imp id fun g => ⟨g.1, k h.2 g.2⟩
theorem lx_le {a b c : Int} {P Q R : Prop} (h : ¬ (a < b ∨ (a = b ∧ P))) (g : c < b ∨ (c = b ∧ Q)) (k : ¬ P → Q → R) : c < a ∨ (c = a ∧ R) := by
  by_cases e : a = b
  · exact e ▸ g.imp id fun g => ⟨g.1, k (fun p => h (.inr ⟨e, p⟩)) g.2⟩
  · have l := Int.lt_iff_le_and_ne.mpr ⟨Int.not_lt.mp fun l => h (.inl l), Ne.symm e⟩
    exact .inl (g.elim (fun g => Int.lt_trans g l) fun g => g.1 ▸ l)
theorem lx_an {a b : Int} {P Q : Prop} (h : ¬ (a < b ∨ (a = b ∧ P))) (g : ¬ (b < a ∨ (b = a ∧ Q))) : a = b ∧ ¬ P ∧ ¬ Q :=
  have e := Int.le_antisymm (Int.not_lt.mp fun l => g (.inl l)) (Int.not_lt.mp fun l => h (.inl l))
  ⟨e, fun p => h (.inr ⟨e, p⟩), fun q => g (.inr ⟨e.symm, q⟩)⟩
theorem ltT_no {x y : Tri} (h : ltT x y = false) : ¬ (x.1 < y.1 ∨ (x.1 = y.1 ∧ (x.2.1 < y.2.1 ∨ (x.2.1 = y.2.1 ∧ x.2.2 < y.2.2)))) := fun g => by rw [ltT_iff.mpr g] at h; cases h
theorem ltT_tr {x y z : Tri} (h1 : ltT x y = true) (h2 : ltT y z = true) : ltT x z = true := ltT_iff.mpr (lx_tr (ltT_iff.mp h1) (ltT_iff.mp h2) fun p q => lx_tr p q Int.lt_trans)
theorem ltT_le {x y z : Tri} (h1 : ltT x y = false) (h2 : ltT z y = true) : ltT z x = true := ltT_iff.mpr (lx_le (ltT_no h1) (ltT_iff.mp h2) fun p q => lx_le p q fun p q => Int.lt_of_lt_of_le q (Int.not_lt.mp p))
theorem ltT_irr (x : Tri) : ltT x x = false := by
  unfold ltT
  rw [decide_eq_false (Int.lt_irrefl _), decide_eq_false (Int.lt_irrefl _), decide_eq_false (Int.lt_irrefl _), Bool.and_false, Bool.false_or]; exact Bool.and_false _
theorem ltT_anti {x y : Tri} (h1 : ltT x y = false) (h2 : ltT y x = false) : x = y :=
  have a := lx_an (ltT_no h1) (ltT_no h2)
  have b := lx_an a.2.1 a.2.2
  Prod.ext a.1 (Prod.ext b.1 (Int.le_antisymm (Int.not_lt.mp b.2.2) (Int.not_lt.mp b.2.1)))
noncomputable def rankT (ts : List Tri) (x : Tri) : Int := (ts.countP fun z => ltT z x : Nat)
theorem rankT_iff {ts : List Tri} {x y : Tri} (hx : x ∈ ts) : rankT ts x < rankT ts y ↔ ltT x y = true := by
  unfold rankT
  constructor
  · intro h
    cases q : ltT x y with
    | true => rfl
    | false =>
      have := List.countP_mono_left (l := ts) (p := fun z => ltT z y) (q := fun z => ltT z x) fun z _ hz => ltT_le q hz
      omega
  · intro h
    obtain ⟨l1, l2, rfl⟩ := List.append_of_mem hx
    rw [List.countP_append, List.countP_append, List.countP_cons, List.countP_cons]
    have m1 := List.countP_mono_left (l := l1) (p := fun z => ltT z x) (q := fun z => ltT z y) fun z _ hz => ltT_tr hz h
    have m2 := List.countP_mono_left (l := l2) (p := fun z => ltT z x) (q := fun z => ltT z y) fun z _ hz => ltT_tr hz h
    rw [ltT_irr, h]
    simp only [Bool.false_eq_true, if_false, if_true]
    omega
section
variable {c : Cst} {k : Nat} {β : Bas} {S : Sto} {s : Shared} {A : Around} {E : Value → Shared → Prop}
theorem ask_tri {x y : Addr} {ox oy : Obj} {xs ys : Array Value} {n m : Nat} {t u : Tri} {Q : Bool → Shared → Prop} (hx : s.heap.get? x = some ox) (dx : ox.data = .seq xs n) (hy : s.heap.get? y = some oy) (dy : oy.data = .seq ys m)
    (ex : IntsAre xs.toList [t.1, t.2.1, t.2.2]) (ey : IntsAre ys.toList [u.1, u.2.1, u.2.2]) (h : Q (ltT t u) s) : wpAny c.M A (keyLt' (tuples' true) (.ref x) (.ref y)) Q E s := by
  refine kat_lt hx dx hy dy ?_
  have hfin : decide (xs.size < ys.size) = false := by
    have h1 := ex.length
    have h2 := ey.length
    rw [Array.length_toList] at h1 h2
    simp [h1, h2]
  rw [hfin]
  obtain ⟨a1, a2, a3⟩ := t
  obtain ⟨b1, b2, b3⟩ := u
  generalize xs.toList = l1 at ex
  generalize ys.toList = l2 at ey
  cases ex with | cons _ t1 ex => cases ex with | cons _ t2 ex => cases ex with | cons _ t3 ex => cases ex with | nil =>
  cases ey with | cons _ u1 ey => cases ey with | cons _ u2 ey => cases ey with | cons _ u3 ey => cases ey with | nil =>
  have key : ∀ {a b : Int} {i : Nat} {v w : Tok} {r : List (Value × Value)} , (∀ (f : Bool → Shared → Prop), f (decide (a < b)) s → wpAny c.M A (oneLt' (true && i == 0) (.int a v) (.int b w)) f (fun _ _ => False) s) →
      (a = b → KatLex c.prog c.w A true false Q r (i + 1) s) → (a ≠ b → Q (decide (a < b)) s) → KatLex c.prog c.w A true false Q ((.int a v, .int b w) :: r) i s := by
    intro a b i v w r h1 h2 h3
    refine kat_cons (wpAny_eqBool_int ?_)
    by_cases e : a = b
    · rw [show (a == b) = true by simpa using e]
      exact kat_yes (h2 e)
    · rw [show (a == b) = false by simpa using e]
      exact kat_no (h1 _ (h3 e))
  refine key (fun f hf => oneLt_int hf) (fun e1 => ?_) fun e1 => ?_
  · refine key (fun f hf => kat_one _ _ (lt_int hf)) (fun e2 => ?_) fun e2 => ?_
    · refine key (fun f hf => kat_one _ _ (lt_int hf)) (fun e3 => kat_nil ?_) fun e3 => ?_
      · subst e1 e2 e3
        rwa [ltT_irr] at h
      · subst e1 e2
        unfold ltT at h; simpa [e3] using h
    · subst e1
      unfold ltT at h; simpa [e2] using h
  · unfold ltT at h; simpa [e1] using h
theorem list_sort_by {a : Addr} {vs fs : List Value} {n : Nat} {T : Value} {r : Nat → Int} {P : PySem.Fin → Shared → Prop} (ho : s.heap.get? a = some (seqObj "list" vs.toArray n)) (h64 : vs.length < 64)
    (hK : ∀ h', (∀ b o, b ≠ a → s.heap.get? b = some o → h'.get? b = some o) → KatTups h' vs fs) (hfl : fs.length = vs.length) (hT : ∀ h', ∀ v ∈ fs, Looks c.M h' (typeOf v) T) (hT2 : (T == T) = true) (hT3 : (T != Value.type "tuple") = true)
    (hC : ∀ h', (∀ b o, b ≠ a → s.heap.get? b = some o → h'.get? b = some o) → Cmp (kas_ask c.prog c.w A (tuples' true) vs) r vs.length { s with heap := h' })
    (h : ∀ p, PB vs.length p → Srtd r p vs.length → P (.done (.ret .none)) { s with heap := sortedHeap s.heap a vs (List.toArray (p.toList.map fun i => vs.getD i Value.none)) }) :
    wpAny c.M A (Builtin.«list.sort» ⟨[.ref a], []⟩) P E s := by
  rw [list_sort_plain]
  have ha : a < s.heap.objs.size := Heap.lt_size ho
  refine wpAny_bind (listItems_at ho rfl ?_)
  refine wpAny_bind (listUpdate_at ho rfl ?_ (sl_le (Nat.le_of_lt h64)) (Nat.zero_le _))
  obtain ⟨e1, ho1⟩ : ∃ e1, (s.heap.update a (Obj.mapSeq fun _ => #[])).get? a = some (seqObj "list" #[] e1) := ⟨_, get?_update_seq ho (fun _ => #[])⟩
  refine wpAny_bind (seqEpoch_at ho1 rfl ?_)
  refine wpAny_bind (wpAny_newTuple ?_ (sl_le (Nat.le_of_lt h64)))
  refine wpAny_bind (wpAny_newList ?_ (Nat.zero_le _))
  refine wpAny_holding ?_
  have ho6 : (((s.heap.update a (Obj.mapSeq fun _ => #[])).push (seqObj "tuple" vs.toArray 0)).push (seqObj "list" #[] 0)).get? a = some (seqObj "list" #[] e1) := by
    rw [Heap.get?_push_ne _ _ _ (by rw [size_push', Heap.size_update]; exact Nat.ne_of_lt (Nat.lt_succ_of_lt ha)), Heap.get?_push_ne _ _ _ (by rw [Heap.size_update]; exact Nat.ne_of_lt ha)]
    exact ho1
  have up : ∀ b o, b ≠ a → s.heap.get? b = some o → (((s.heap.update a (Obj.mapSeq fun _ => #[])).push (seqObj "tuple" vs.toArray 0)).push (seqObj "list" #[] 0)).get? b = some o := fun b o hb e =>
    Heap.get?_push_of_some _ (Heap.get?_push_of_some _ (by rw [Heap.get?_update_ne _ _ _ _ hb]; exact e))
  show wpAny c.M A _ P E { s with heap := ((s.heap.update a (Obj.mapSeq fun _ => #[])).push (seqObj "tuple" vs.toArray 0)).push (seqObj "list" #[] 0) }
  dsimp only
  have hsz : vs.toArray.size = vs.length := by simp
  have ident : List.toArray ((List.range vs.length).toArray.toList.map fun i => vs.getD i Value.none) = vs.toArray := by
    congr 1
    rw [List.toList_toArray]
    refine List.ext_getElem (by simp) fun i h1 h2 => ?_
    simp [h2]
  by_cases h2 : vs.toArray.size < 2
  · rw [if_pos h2, if_pos h2]
    refine wpAny_bind (wpAny_pure ?_)
    rw [StateT.run_pure]
    refine wpAny_bind (wpAny_pure ?_)
    dsimp only
    refine wpAny_bind (seqEpoch_at ho6 rfl ?_)
    refine wpAny_bind (listUpdate_at ho6 rfl ?_ (Nat.zero_le _) (by rw [Array.size_map]; show (pairsOf vs).size ≤ _; rw [pairsOf_size]; exact Nat.le_succ_of_le (sl_le (Nat.le_of_lt h64))))
    simp only [bne_self_eq_false, Bool.false_eq_true, if_false]
    refine wpAny_pure ?_
    have := h _ (Array.Perm.refl _) fun i j hij hj => by rw [show i = j by omega]; exact Int.le_refl _
    rw [ident] at this
    have e : Array.map (fun x => x.snd) (vs.toArray.zip vs.toArray) = vs.toArray := by
      apply Array.ext
      · simp
      · intro i h1 h2; simp
    rw [e]
    exact this
  · rw [if_neg h2, if_neg h2]
    refine wpAny_bind (kat_kind (hK _ up) (by omega) (hT _) hT2 ?_)
    rw [hT3]
    refine wpAny_bind (wpAny_mono (kat_run (Q := fun st' s' => s' = { s with heap := ((s.heap.update a (Obj.mapSeq fun _ => #[])).push (seqObj "tuple" vs.toArray 0)).push (seqObj "list" #[] 0) } ∧ ∃ p : Array Nat, arrOf st' = p.map (kas_item (vs.toArray.zip vs.toArray)) ∧ failedOf st' = none ∧ PB vs.length p ∧ Srtd r p vs.length)
      (G := fun p s' => s' = { s with heap := ((s.heap.update a (Obj.mapSeq fun _ => #[])).push (seqObj "tuple" vs.toArray 0)).push (seqObj "list" #[] 0) } ∧ PB vs.length p ∧ Srtd r p vs.length)
      rfl (by omega) h64 (fun p' st' s' a1 a2 a3 a4 => ⟨a4.1, p', a2, a3, a4.2⟩) (sort_wp (hC _ up) (by omega) fun p' g1 g2 => ⟨rfl, g1, g2⟩)) ?_ fun _ _ e => e)
    rintro ⟨⟨⟩, st'⟩ s' ⟨rfl, p, har, hf, g1, g2⟩
    dsimp only
    have hout := kat_snds rfl har
    have hsz : (List.toArray (p.toList.map fun i => vs.getD i Value.none)).size = vs.length := by rw [List.size_toArray, List.length_map, Array.length_toList, g1.size]
    rw [hout]
    refine wpAny_bind (seqEpoch_at ho6 rfl ?_)
    refine wpAny_bind (listUpdate_at ho6 rfl ?_ (Nat.zero_le _) (Nat.le_trans (Nat.le_of_eq hsz) (Nat.le_succ_of_le (sl_le (Nat.le_of_lt h64)))))
    rw [hf]
    simp only [bne_self_eq_false, Bool.false_eq_true, if_false]
    exact wpAny_pure (h p g1 g2)
noncomputable def rkA (as : List (Addr × Tri)) (i : Nat) : Int := rankT (as.map (·.2)) ((as[i]?).elim (0, 0, 0) (·.2))
theorem rkA_at {as : List (Addr × Tri)} {i : Nat} (h : i < as.length) : rkA as i = rankT (as.map (·.2)) (as[i]).2 := by
  unfold rkA; rw [List.getElem?_eq_getElem h]; rfl
noncomputable def triV (t : Tri) : List AV := [.int t.1, .int t.2.1, .int t.2.2]
theorem CW.sortedTris {l : Addr} {as : List (Addr × Tri)} {Q : AV → Sto → Prop} (hl : S.lst l = some (as.map fun x => .ref x.1)) (ht : ∀ x ∈ as, S.tp x.1 = some (triV x.2)) (h64 : as.length < 64)
    (h : ∀ (Da : Addr) (bs : List (Addr × Tri)), S.Free Da → bs.Perm as → bs.Pairwise (fun x y => ltT y.2 x.2 = false) → Q (.ref Da) (S.setLs Da (bs.map fun x => .ref x.1))) :
    CW c k (.builtin "sorted") [.ref l] Q S := by
  intro A β s vs r I e
  obtain ⟨x, vs, rfl, hx, e⟩ := List.map_eq_cons_iff.mp e
  obtain rfl := List.map_eq_nil_iff.mp e
  obtain rfl := er_ref hx
  obtain ⟨hz, items, hi, hm⟩ := I.lst hl
  have hit : items.toList = as.map fun x => Value.ref x.1 := by
    refine List.ext_getElem? fun i => ?_
    have hi := congrArg (·[i]?) hm
    simp only [List.getElem?_map] at hi ⊢
    cases q : as[i]? with
    | none => rw [q] at hi; cases q2 : items.toList[i]? with
      | none => rfl
      | some v => rw [q2] at hi; cases hi
    | some y =>
      rw [q] at hi
      cases q2 : items.toList[i]? with
      | none => rw [q2] at hi; cases hi
      | some v =>
        rw [q2] at hi
        obtain rfl := er_ref (Option.some.inj hi)
        rfl
  have hlen : items.toList.length = as.length := by rw [hit, List.length_map]
  have tup : ∀ x ∈ as, ∃ o xs n, s.heap.get? x.1 = some o ∧ o.cls = .type "tuple" ∧ o.data = .seq xs n ∧ IntsAre xs.toList [x.2.1, x.2.2.1, x.2.2.2] := fun x hx => by
    obtain ⟨_, its, ⟨o, g1, g2, n, g3⟩, hm⟩ := I.tup (ht x hx)
    exact ⟨o, its, n, g1, g2, g3, ints_of hm⟩
  refine sorted_of (collect_list (vs := items.toList) (by rw [Array.toArray_toList]; exact hi) ?_ (by rw [sizeLine_eq]; omega))
  refine ⟨by omega, ?_⟩
  have old : ∀ {b o}, s.heap.get? b = some o → (((s.heap.push (seqObj "list" #[] 0)).update s.heap.objs.size (Obj.mapSeq (· ++ items.toList.toArray))).get? b) = some o := fun {b o} q => by
    rw [Heap.get?_update_ne _ _ _ _ (Nat.ne_of_lt (Heap.lt_size q))]
    exact Heap.get?_push_of_some _ q
  have hsle : s.heap.objs.size ≤ ((s.heap.push (seqObj "list" #[] 0)).update s.heap.objs.size (Obj.mapSeq (· ++ items.toList.toArray))).objs.size := by
    rw [Heap.size_update, size_push']; exact Nat.le_succ _
  generalize ((s.heap.push (seqObj "list" #[] 0)).update s.heap.objs.size (Obj.mapSeq (· ++ items.toList.toArray))) = hp at old hsle ⊢
  dsimp only
  have hoL : (hp.push (seqObj "list" items.toList.toArray 0)).get? hp.objs.size = some (seqObj "list" items.toList.toArray 0) := Heap.get?_push_size _ rfl
  have nD : ∀ x ∈ as, x.1 ≠ hp.objs.size := fun x hx => by
    obtain ⟨o, _, _, g, _⟩ := tup x hx
    exact Nat.ne_of_lt (Heap.lt_size (old g))
  have tup2 : ∀ h' : Heap, (∀ b o, b ≠ hp.objs.size → (hp.push (seqObj "list" items.toList.toArray 0)).get? b = some o → h'.get? b = some o) → ∀ x ∈ as, ∃ (o : Obj) (xs : Array Value) (n : Nat), h'.get? x.1 = some o ∧ o.cls = .type "tuple" ∧ o.data = .seq xs n ∧ IntsAre xs.toList [x.2.1, x.2.2.1, x.2.2.2] := fun h' up x hx => by
    obtain ⟨o, xs, n, g1, g2⟩ := tup x hx
    exact ⟨o, xs, n, up _ _ (nD x hx) (Heap.get?_push_of_some _ (old g1)), g2⟩
  have firsts : ∃ fs : List Value, fs.length = as.length ∧ (∀ v ∈ fs, ∃ z t, v = .int z t) ∧ ∀ h' : Heap, (∀ b o, b ≠ hp.objs.size → (hp.push (seqObj "list" items.toList.toArray 0)).get? b = some o → h'.get? b = some o) → KatTups h' (as.map fun x => Value.ref x.1) fs := by
    have tup3 : ∀ x ∈ as, ∃ (o : Obj) (xs : Array Value) (n : Nat) (f : Value) (z : Int) (t : Tok), f = Value.int z t ∧ xs[0]? = some f ∧ o.cls = .type "tuple" ∧ o.data = .seq xs n ∧ ∀ h' : Heap, (∀ b o, b ≠ hp.objs.size → (hp.push (seqObj "list" items.toList.toArray 0)).get? b = some o → h'.get? b = some o) → h'.get? x.1 = some o := fun x hx => by
      obtain ⟨o, xs, n, g1, g2, g3, g4⟩ := tup x hx
      generalize hxs : xs.toList = l at g4
      cases g4 with | cons z t g4 =>
      refine ⟨o, xs, n, .int x.2.1 t, x.2.1, t, rfl, ?_, g2, g3, fun h' up => up _ _ (nD x hx) (Heap.get?_push_of_some _ (old g1))⟩
      rw [← Array.getElem?_toList, hxs]; rfl
    clear tup2 nD tup hlen hit hm ht hl h64 hz h
    induction as with
    | nil => exact ⟨[], rfl, nofun, fun _ _ => trivial⟩
    | cons x r ih =>
      obtain ⟨fs, i1, i2, i3⟩ := ih fun y hy => tup3 y (List.mem_cons_of_mem _ hy)
      obtain ⟨o, xs, n, f, z, t, rfl, g1, g2, g3, g4⟩ := tup3 x List.mem_cons_self
      refine ⟨.int z t :: fs, by simp [i1], fun v hv => ?_, fun h' up => KatTups.cons (g4 h' up) g2 g3 g1 (i3 h' up)⟩
      rcases List.mem_cons.mp hv with rfl | hv
      · exact ⟨_, _, rfl⟩
      · exact i2 v hv
  obtain ⟨fs, f1, f2, f3⟩ := firsts
  have gd : ∀ {i : Nat} (hi : i < as.length), items.toList.getD i Value.none = .ref (as[i]).1 := fun {i} hi => by
    rw [hit]; simp [hi]
  refine wpAny_call_entry slot_list_sort ⟨_, hoL, rfl⟩ entry_list_sort (list_sort_by (fs := fs) (T := .type "int") (r := rkA as) hoL (by omega) (fun h' up => by rw [hit]; exact f3 h' up) (by omega) (fun h' v hv => ?_) rfl rfl (fun h' up i j C hi hj hc => ?_) fun p g1 g2 => ⟨_, rfl, ?_⟩) (args_list_sort _)
  · obtain ⟨z, t, rfl⟩ := f2 v hv
    exact Looks.now
  · have hi' : i < as.length := by omega
    have hj' : j < as.length := by omega
    unfold kas_ask
    rw [gd hi', gd hj']
    obtain ⟨o1, xs1, n1, k1, _, k2, k3⟩ := tup2 h' up (as[i]) (List.getElem_mem _)
    obtain ⟨o2, xs2, n2, k4, _, k5, k6⟩ := tup2 h' up (as[j]) (List.getElem_mem _)
    refine ask_tri k1 k2 k4 k5 k3 k6 ?_
    rw [rkA_at hi', rkA_at hj'] at hc
    have e3 : decide (rankT (as.map (·.2)) as[i].2 < rankT (as.map (·.2)) as[j].2) = ltT as[i].2 as[j].2 := by
      rw [Bool.eq_iff_iff, decide_eq_true_eq]
      exact rankT_iff (List.mem_map.mpr ⟨_, List.getElem_mem _, rfl⟩)
    rw [← e3]
    exact hc
  · have hpl : p.toList.Perm (List.range as.length) := by
      have := Array.perm_iff_toList_perm.mp g1
      rw [hlen] at this
      simpa using this
    have hp2 : ∀ i ∈ p.toList, i < as.length := fun i hi => by simpa using hpl.mem_iff.mp hi
    have hsz : p.size = as.length := by rw [g1.size, hlen]
    have adE : (List.range as.length).map (fun i => (as[i]?).getD (0, 0, 0, 0)) = as := by
      refine List.ext_getElem (by simp) fun i h1 h2 => ?_
      simp [h2]
    have pm : (p.toList.map fun i => (as[i]?).getD (0, 0, 0, 0)).Perm as := by
      have := hpl.map fun i => (as[i]?).getD (0, 0, 0, 0)
      rwa [adE] at this
    have oute : (p.toList.map fun i => items.toList.getD i Value.none).map er = (p.toList.map fun i => (as[i]?).getD (0, 0, 0, 0)).map fun x => AV.ref x.1 := by
      rw [List.map_map, List.map_map]
      refine List.map_congr_left fun i hi => ?_
      have hi' := hp2 i hi
      show er (items.toList.getD i Value.none) = AV.ref ((as[i]?).getD (0, 0, 0, 0)).1
      rw [gd hi', List.getElem?_eq_getElem hi']; rfl
    obtain ⟨ep, he⟩ := sortedHeap_at (h := hp.push (seqObj "list" items.toList.toArray 0)) (a := hp.objs.size) (vs := items.toList) (n := 0) (out := List.toArray (p.toList.map fun i => items.toList.getD i Value.none)) hoL
    have up : ∀ a o, s.heap.get? a = some o → (sortedHeap (hp.push (seqObj "list" items.toList.toArray 0)) hp.objs.size items.toList (List.toArray (p.toList.map fun i => items.toList.getD i Value.none))).get? a = some o := fun a o q => by
      have q2 := old q
      have hlt := Heap.lt_size q2
      rw [sortedHeap_old (Nat.ne_of_lt hlt) (by rw [Heap.size_push]; exact Nat.lt_succ_of_lt hlt)]
      exact Heap.get?_push_of_some _ q2
    have hle : s.heap.objs.size ≤ hp.objs.size := hsle
    obtain ⟨fr, I'⟩ := I.addLs (t := s.toks) (D := hp.objs.size) (items := List.toArray (p.toList.map fun i => items.toList.getD i Value.none)) up hle ⟨ep, he⟩ oute (by rw [List.size_toArray, List.length_map, Array.length_toList, hsz]; omega)
    refine ⟨_, h _ _ fr pm ?_, I'⟩
    rw [List.pairwise_iff_getElem]
    intro i j hi hj hij
    rw [List.length_map, Array.length_toList, hsz] at hi hj
    have hr := g2 i j (by omega) (by omega)
    unfold Kp at hr
    have ei : p.getD i 0 = p.toList[i]'(by rw [Array.length_toList, hsz]; exact hi) := by
      rw [Array.getElem_toList]; simp [hsz, hi]
    have ej : p.getD j 0 = p.toList[j]'(by rw [Array.length_toList, hsz]; exact hj) := by
      rw [Array.getElem_toList]; simp [hsz, hj]
    rw [ei, ej] at hr
    rw [List.getElem_map, List.getElem_map]
    have mi := hp2 _ (List.getElem_mem (l := p.toList) (n := i) (by rw [Array.length_toList, hsz]; exact hi))
    have mj := hp2 _ (List.getElem_mem (l := p.toList) (n := j) (by rw [Array.length_toList, hsz]; exact hj))
    rw [rkA_at mi, rkA_at mj] at hr
    rw [List.getElem?_eq_getElem mi, List.getElem?_eq_getElem mj]
    dsimp only [Option.getD]
    rw [← Bool.not_eq_true, ← rankT_iff (ts := as.map (·.2)) (List.mem_map.mpr ⟨_, List.getElem_mem _, rfl⟩)]
    omega
end
end
section
noncomputable def Sto.noDt (S : Sto) (d : Addr) : Sto := { S with dt := fun a => if a = d then none else S.dt a }
noncomputable def setP (a b : Str) (p : Int × AV) (m m' : Loc) : Prop := ∃ m1, setN a (.int p.1) m m1 ∧ setN b p.2 m1 m'
section
variable {c : Cst} {k : Nat} {β : Bas} {as : List Addr} {env cenv : Env} {m : Loc} {S : Sto} {s : Shared}
theorem InvS.guardD {d : Addr} {es : Es} (I : InvS c β S s) (hd : S.dt d = some es) : InvS c (pushB β s.heap [d]) (S.noDt d) s ∧ β d = none ∧ ∀ a o, β a = some o → pushB β s.heap [d] a = some o := by
  obtain ⟨g, os, b, ro, σ, L, e⟩ := I
  have hσ := e.dt d es hd
  have hb := L.apart d _ hσ
  have up : ∀ a o, β a = some o → pushB β s.heap [d] a = some o := fun a o q => by
    rw [pushB_out]
    · exact q
    · intro z; rw [List.mem_singleton] at z; subst z; rw [hb] at q; cases q
  have ne : ∀ a o, σ a = some o → (∀ ys, o ≠ .dict ys) → (if a = d then none else σ a) = some o := fun a o q z => by
    rw [if_neg]
    · exact q
    · intro w; subst w; rw [hσ] at q; cases q; exact z _ rfl
  refine ⟨⟨g, os, fun a o q => up a o (b a o q), ro, fun a => if a = d then none else σ a, ⟨fun a o q => ?_, fun a o q => ?_, fun a o q => ?_⟩, ⟨fun a r q => ?_, fun a r q => ?_, fun a r q => ?_, fun a r q => ?_, fun a r q => ?_, fun a C r q => ?_, e.excl⟩⟩, hb, up⟩
  · by_cases y : a ∈ [d]
    · rw [pushB_in y] at q; exact q
    · rw [pushB_out y] at q; exact L.keep a o q
  · split at q
    · cases q
    · exact L.rep a o q
  · split at q
    · cases q
    · rename_i z
      rw [pushB_out (by rw [List.mem_singleton]; exact z)]; exact L.apart a o q
  · obtain ⟨x, h1, h2⟩ := e.nd a r q; exact ⟨x, ne _ _ h1 fun _ => nofun, ne _ _ h2 fun _ => nofun⟩
  · obtain ⟨x, h1, h2⟩ := e.tr a r q; exact ⟨x, ne _ _ h1 fun _ => nofun, ne _ _ h2 fun _ => nofun⟩
  · exact ne _ _ (e.ls a r q) fun _ => nofun
  · exact ne _ _ (e.tp a r q) fun _ => nofun
  · show (if a = d then none else σ a) = _
    have q' : (if a = d then none else S.dt a) = some r := q
    split at q'
    · cases q'
    · rename_i z; rw [if_neg z]; exact e.dt a r q'
  · obtain ⟨x, h1, h2⟩ := e.raw a C r q; exact ⟨x, ne _ _ h1 fun _ => nofun, ne _ _ h2 fun _ => nofun⟩
theorem Hold.grow {x : Addr} {h' : Heap} {t : Nat} (H : Hold c β as S s) (hx : x ∈ as) (up : ∀ a o, s.heap.get? a = some o → h'.get? a = some o) : Hold c β as S { s with heap := h', toks := t } :=
  H.touch hx (fun a o _ e => up a o e) (let ⟨o, e⟩ := H.alive x hx; ⟨o, up _ _ e⟩)
theorem FrameIn.grow {h' : Heap} (F : FrameIn (pushB β s.heap as) env m) (up : ∀ a o, s.heap.get? a = some o → h'.get? a = some o) : FrameIn (pushB β h' as) env m :=
  F.keeps fun a o q => by
    by_cases y : a ∈ as
    · rw [pushB_in y] at q ⊢; exact up _ _ q
    · rw [pushB_out y] at q ⊢; exact q
theorem assign_pair {A : Around} (r : Room A k) {a b : Str} {pa pb tp : Pos} {kk : Nat} {T : Addr} {x y : Value} {m' : Loc} {Q : Unit → Shared → Prop} (H : Hold c β as S s) (F : FrameIn (pushB β s.heap as) env m) (hC : env.locals ∈ as) (ht : s.heap.IsTuple T #[x, y])
    (hset : ∃ m1, setN a (er x) m m1 ∧ setN b (er y) m1 m')
    (hq : ∀ h' t, (∀ z o, z ≠ env.locals → s.heap.get? z = some o → h'.get? z = some o) → Hold c β as S { s with heap := h', toks := t } → FrameIn (pushB β h' as) env m' → Q () { s with heap := h', toks := t }) :
    wpAny c.M A (assign (.Tuple [.Name a pa, .Name b pb] kk tp) env (.ref T)) Q NoE s := by
  obtain ⟨m1, ⟨v1, e1⟩, v2, e2⟩ := hset
  refine wpAny_assign_Tuple r.hand ht rfl rfl fun h₁ he₁ => ?_
  have up : ∀ a o, s.heap.get? a = some o → h₁.get? a = some o := fun a o e => he₁ a o (Nat.ne_of_lt (Heap.lt_size e)) e
  show wpAny _ _ (assignInOrder [assign (.Name a pa) env, assign (.Name b pb) env] [x, y]) _ _ _
  refine assignInOrder_cons ?_
  refine wpAny_assign_Name ((H.grow (t := s.toks) hC up).store (s := { s with heap := h₁ }) (F.grow up) hC v1 e1 fun h₂ t2 hs2 H2 F2 => ?_)
  refine assignInOrder_cons ?_
  refine wpAny_assign_Name (H2.store F2 hC v2 e2 fun h₃ t3 hs3 H3 F3 => ?_)
  exact assignInOrder_nil (hq h₃ t3 (fun z o hz e => hs3.extBut z o hz (hs2.extBut z o hz (up z o e))) H3 F3)
theorem itemIter_plain {it d : Addr} {i n ep : Nat} {ok ov : Value} (hit : IsItemIter s.heap it d i n ep ok ov) (o : Obj) (e : s.heap.get? it = some o) : (∀ es ep, o.data ≠ .dict es ep) ∧ ∀ u, o.data ≠ .cell u := by
  unfold IsItemIter at hit
  rw [hit] at e; cases e
  exact ⟨fun _ _ z => (by cases z), fun _ z => (by cases z)⟩
theorem itemOut_plain {it d T : Addr} {i n ep : Nat} {ok ov : Value} (hit : IsItemIterOut s.heap it d i n ep ok ov T) (o : Obj) (e : s.heap.get? it = some o) : (∀ es ep, o.data ≠ .dict es ep) ∧ ∀ u, o.data ≠ .cell u := by
  unfold IsItemIterOut at hit
  rw [hit] at e; cases e
  exact ⟨fun _ _ z => (by cases z), fun _ z => (by cases z)⟩
noncomputable abbrev noTest : Loc → (Bool → Sto → Prop) → Sto → Prop := fun _ Q S => Q true S
theorem comp_items_loop {A : Around} (r : Room A k) {el : Loc → (AV → Sto → Prop) → Sto → Prop} {elt iter : PySem.Expr} {a b : Str} {pa pb tp pos : Pos} {kk : Nat} {scope : Scope} {it D d : Addr} {kvs : List (Int × Value)} {ep : Nat} {ok0 ov0 : Value}
    (he : ∀ m Q S, el m Q S → EWs c k m elt Q S) (hDi : D ≠ it) (hDC : D ≠ cenv.locals) (hiC : it ≠ cenv.locals) (hdi : d ≠ it) (hz : kvs.length ≤ 1000)
    (hD : ∀ S s, InvS c β S s → s.heap.DictAt (intKind c.prog c.w) d kvs ep)
    {Q : List AV → Sto → Prop} (hi : IsItemIter s.heap it d 0 kvs.length ep ok0 ov0) (h : compVs noTest el (setP a b) (fun _ => True) (kvs.map erP) m [] Q S) (st : CSt c β it D cenv m [] S s) {R : Result → Shared → Prop}
    (hR : ∀ ys S s', Q ys S → CEnd c β cenv.locals D ys S s' → R (.ok .next) s') :
    codeAny c.M A (.compLoop (.ListComp elt [⟨.Tuple [.Name a pa, .Name b pb] kk tp, iter, [], 0⟩] scope pos) 0 (.ref it) (.ref D) cenv) R s := by
  have mI : it ∈ [cenv.locals, D, it] := by simp
  have mD : D ∈ [cenv.locals, D, it] := by simp
  have mC : cenv.locals ∈ [cenv.locals, D, it] := by simp
  refine kcp_loop (fun n s => ∃ i m ys S ok ov, n = kvs.length - i ∧ ys.length ≤ i ∧ i ≤ kvs.length ∧ IsItemIter s.heap it d i kvs.length ep ok ov ∧ compVs noTest el (setP a b) (fun _ => True) ((kvs.map erP).drop i) m ys Q S ∧ CSt c β it D cenv m ys S s) ?_ kvs.length
    ⟨0, m, [], S, ok0, ov0, rfl, Nat.zero_le _, Nat.zero_le _, hi, h, st⟩
  clear st h hi
  rintro n s ⟨i, m, ys, S, ok, ov, rfl, hys, hik, hit, h, st⟩
  have hDa := hD S s st.hold.drop
  cases hkv : kvs[i]? with
  | none =>
    have hle : kvs.length ≤ i := by simpa using hkv
    rw [List.drop_eq_nil_of_le (by simpa using hle)] at h
    refine wpAny_mono (wpAny_pyNext_items_end (E := NoE) (Q := fun v s' => v = none ∧ ∃ h', Heap.ExtBut it s.heap h' ∧ s' = { s with heap := h' }) r.hand hit hDa hkv fun h' hs => ⟨rfl, h', hs, rfl⟩) ?_ fun _ _ e => e.elim
    rintro v s' ⟨rfl, h', hs, rfl⟩
    exact hR ys S _ h.2 (st.stop (t := s.toks) hs hDi hiC (by omega))
  | some kv =>
    obtain ⟨key0, x⟩ := kv
    have hlt : i < kvs.length := by
      rcases Nat.lt_or_ge i kvs.length with z | z
      · exact z
      · rw [List.getElem?_eq_none z] at hkv; cases hkv
    have hdrop : (kvs.map erP).drop i = erP (key0, x) :: (kvs.map erP).drop (i + 1) := by
      rw [List.drop_eq_getElem_cons (by simpa using hlt)]
      congr 1
      rw [List.getElem_map]
      congr 1
      exact Option.some.inj ((List.getElem?_eq_getElem hlt).symm.trans hkv)
    rw [hdrop] at h
    obtain ⟨m', ⟨m1, s1, s2⟩, hbody⟩ := h.2
    have hel := hbody.1 rfl
    refine wpAny_mono (wpAny_pyNext_items_item (E := NoE) (Q := fun v s' => ∃ key h', v = some (.ref s.heap.objs.size) ∧ s' = { s with heap := h' } ∧ (intKind c.prog c.w).is key0 key = true ∧ IsItemIterOut h' it d (i + 1) kvs.length ep key x s.heap.objs.size ∧ h'.IsTuple s.heap.objs.size #[key, x] ∧ Heap.ExtBut it s.heap h')
      hit hDa hkv fun key h' hk ho hT _ hs => ⟨key, h', rfl, rfl, hk, ho, ⟨_, hT, rfl, _, rfl⟩, hs⟩) ?_ fun _ _ e => e.elim
    rintro v s' ⟨key, h1, rfl, rfl, hk, ho, hT, hs⟩
    dsimp only
    have H1 := st.hold.touch (t := s.toks) mI hs ⟨_, ho⟩
    have F1 := st.frame.but (s := s) hs (itemIter_plain hit)
    have nT : s.heap.objs.size ≠ it := Nat.ne_of_gt (Heap.lt_size hit)
    refine wpAny_letOwnedTupleGo_items ho fun h2 hit2 hs2 => ?_
    have H2 := H1.touch (t := s.toks) mI hs2.extBut ⟨_, hit2⟩
    have F2 := F1.but (s := { s with heap := h1 }) hs2.extBut (itemOut_plain ho)
    obtain ⟨tk, rfl⟩ := Value.isInt_shape hk
    refine wpAny_mono (assign_pair (Q := fun _ s3 => ∃ h3 t, (∀ z o, z ≠ cenv.locals → h2.get? z = some o → h3.get? z = some o) ∧ s3 = { s with heap := h3, toks := t } ∧ Hold c β [cenv.locals, D, it] S s3 ∧ FrameIn (pushB β h3 [cenv.locals, D, it]) cenv m') (s := { s with heap := h2 }) r H2 F2 mC
      (hT.at fun o e => hs2.extBut _ o nT e) ⟨m1, s1, s2⟩ fun h3 t g1 g2 g3 => ⟨h3, t, g1, rfl, g2, g3⟩) ?_ fun _ _ e => e.elim
    rintro _ s3 ⟨h3, t, hs3, rfl, H3, F3⟩
    obtain ⟨its, hp, hmm⟩ := st.acc
    have hp3 : h3.PlainList D its := hp.at fun o e => hs3 D o hDC (hs2.extBut D o hDi (hs D o hDi e))
    have hit3 : IsItemIter h3 it d (i + 1) kvs.length ep (.int key0 tk) x := hs3 it _ hiC hit2
    refine wpAny_mono (H3.run r F3 (he _ _ _ hel cenv)) (fun y s₄ h₄ => ?_) fun _ _ e => e.elim
    obtain ⟨S₄, h₄, H₄, F₄, same₄⟩ := h₄
    have hp₄ : s₄.heap.PlainList D its := hp3.at fun o e => (same₄ D mD).trans e
    have hsz : its.size = ys.length := by rw [← hmm]; simp
    refine wpAny_list_append_plain hp₄ (fun h' hp' hs4 => ?_) (by rw [sizeLine_eq]; omega)
    have hx : ∀ o, s₄.heap.get? D = some o → (∀ es ep, o.data ≠ .dict es ep) ∧ ∀ u, o.data ≠ .cell u := fun o e => by
      obtain ⟨nn, e'⟩ := hp₄
      rw [e'] at e; cases e
      exact ⟨fun _ _ z => by simp at z, fun _ z => by simp at z⟩
    refine ⟨kvs.length - (i + 1), by omega, i + 1, m', ys ++ [er y], S₄, .int key0 tk, x, rfl, by simp; omega, hlt, (hs4.2 it hDi.symm).trans ((same₄ it mI).trans hit3), h₄, ?_⟩
    exact ⟨H₄.touch (t := s₄.toks) mD hs4.extBut (let ⟨nn, e⟩ := hp'; ⟨_, e⟩), F₄.but hs4.extBut hx, _, hp', by simp [hmm]⟩
theorem items_call {A : Around} (F : FrameIn β env m) (I : InvS c β S s) (r : Room A k) {x : Str} {xp ap p : Pos} {d : Addr} {es : Es} {pl : Sem Bool} (hx : valOf m x = some (.ref d)) (hd : S.dt d = some es)
    (hcall : eval (.Call (.Attribute (.Name x xp) (Str.ofString "items") ap) [] [] p) env = (do
      let ov ← eval (.Name x xp) env
      standAt ap.atName
      let (f, first) ← holding [ov] (getMethod ov (Str.ofString "items") pl)
      callWith p f first (backTo p (starEach [] env)) [])) :
    wpAny c.M A (eval (.Call (.Attribute (.Name x xp) (Str.ofString "items") ap) [] [] p) env) (fun v s' => ∃ va, v = .ref va ∧ s'.heap.IsItemsView va d ∧ InvS c β S s') NoE s := by
  refine MethodCall_ (pl := pl) (wpAny_mono ((TW.name (Q := fun v S' => v = .ref d ∧ S' = S) hx ⟨rfl, rfl⟩) A β s r F I) (fun ov s1 h1 => ?_) fun _ _ e => e) hcall
  obtain ⟨S', ⟨hv, rfl⟩, I1⟩ := h1
  obtain rfl := er_ref hv
  obtain ⟨hsm, hz, kvs, hD, hm⟩ := I1.dict hd
  refine getMethod_builtin hD.typeIs PySem.F.plainAttrs_dict PySem.F.slot_dict_items PySem.F.type_dict_items hD.mapOf.noDict ?_
  refine Calls.callWith_builtin rfl ?_
  have hnil : ∀ {Q : _ → Shared → Prop}, Q ⟨[], []⟩ s1 → wpAny c.M A (evalArgs (.builtin "dict.items") true (backTo p (starEach [] env)) []) Q NoE s1 := fun {Q} h => by
    unfold evalArgs
    show wpAny c.M A (spliced [] >>= _) _ NoE s1
    refine wpAny_bind (Calls.spliced_nil (wpAny_bind (wpAny_pure ?_)))
    refine wpAny_holding ?_
    exact wpAny_bind (wpAny_pure (wpAny_bind (wpAny_pure (wpAny_pure h))))
  refine hnil ?_
  refine call_meetsIn PySem.F.slot_dict_items hD.typeIs PySem.F.entry_dict_items (PySem.F.args_dict_items_1 _) (meets_dict_items (intKind c.prog c.w) d (by simpa using hsm)) ⟨⟨kvs, hD⟩, ?_⟩
  exact ⟨_, rfl, ⟨_, Heap.get?_push_size _ rfl, rfl, rfl⟩, I1.grow fun a o e => Heap.get?_push_of_some _ e⟩
theorem EW.compItems {el : Loc → (AV → Sto → Prop) → Sto → Prop} {elt : PySem.Expr} {x a b : Str} {xp ap p pa pb tp pos : Pos} {kk : Nat} {scope : Scope} {d : Addr} {es : Es} {Q : AV → Sto → Prop}
    (he : ∀ m Q S, el m Q S → EWs c k m elt Q S) (hkind : scope.kind = .function) (hok : (scope.names.all (okComp m)) = true)
    (hnames : ∀ y ∈ scope.names, y.2 = .local → scope.names.lookup y.1 = some .local)
    (hcall : ∀ env, ∃ pl, eval (.Call (.Attribute (.Name x xp) (Str.ofString "items") ap) [] [] p) env = (do
      let ov ← eval (.Name x xp) env
      standAt ap.atName
      let (f, first) ← holding [ov] (getMethod ov (Str.ofString "items") pl)
      callWith p f first (backTo p (starEach [] env)) []))
    (hs : ∀ env y, foldedSetIterable (.Call (.Attribute (.Name x xp) (Str.ofString "items") ap) [] [] p) env y = pure y)
    (hx : valOf m x = some (.ref d)) (hd : S.dt d = some es)
    (h : compVs noTest el (setP a b) (fun _ => True) es (compM m scope.names) [] (fun ys S2 => ∀ D, S2.Free D → Q (.ref D) (S2.setLs D ys)) (S.noDt d)) :
    EWs c k m (.ListComp elt [⟨.Tuple [.Name a pa, .Name b pb] kk tp, .Call (.Attribute (.Name x xp) (Str.ofString "items") ap) [] [] p, [], 0⟩] scope pos) Q S := by
  intro env A β s r F I
  rw [eval_ListComp]
  obtain ⟨pl, hcall⟩ := hcall env
  refine wpAny_comprehension_free (use := none) rfl (hs env) (comp_clos F hok) hkind hnames (wpAny_mono (items_call F I r hx hd hcall) (fun xv s₁ h₁ => ?_) fun _ _ e => e)
  obtain ⟨va, rfl, hview, I1⟩ := h₁
  obtain ⟨hsm, hz, kvs, hDO, hm⟩ := I1.dict hd
  obtain ⟨ep, hat⟩ := hDO.dictAt
  have hz' : kvs.length ≤ 1000 := by rw [← hm, List.length_map] at hz; exact hz
  obtain ⟨I2, hbd, up⟩ := I1.guardD hd
  have F' := F.keeps up
  have base : ∀ S s, InvS c (pushB β s₁.heap [d]) S s → InvS c β S s := fun S s I => I.weaken I1.base up
  have hDall : ∀ S s, InvS c (pushB β s₁.heap [d]) S s → s.heap.DictAt (intKind c.prog c.w) d kvs ep := fun S s I => by
    obtain ⟨o, es, e1, r⟩ := hat
    exact ⟨o, es, I.keep d o (by rw [pushB_in (by simp)]; exact e1), r⟩
  generalize hβ : pushB β s₁.heap [d] = β' at I2 F' base hDall
  refine wpAny_pyIter_items hview hat ?_
  have hcell : ∀ y ∈ scope.names, y.2 ≠ .cell := fun y hy e => by
    have := List.all_eq_true.mp hok y hy
    obtain ⟨n, kd⟩ := y
    cases e
    cases this
  refine wpAny_newObj_type (wpAny_newFunctionEnv hcell (by intro y hy; simp at hy) (fun h₁ hns₁ hsb₁ => ?_) hkind)
  dsimp only at hns₁ hsb₁ ⊢
  have hdlt : d < s₁.heap.objs.size := hat.lt_size
  obtain ⟨H1, n1, b1⟩ := (Hold.nil I2).push (o := { cls := .type "dict_itemiterator", data := .fields #[.none, .bool false, .ref d, .int 0 0, .int kvs.length 0, .int ep 0, .none, .none] }) rfl (t := s₁.toks)
  obtain ⟨H2, n2, b2⟩ := H1.push (o := { cls := .type "list", dict := none, data := .seq ([] : List Value).toArray }) rfl (t := s₁.toks)
  obtain ⟨H3, n3, b3⟩ := H2.push (o := { cls := .type "dict", data := .dict #[] }) rfl (t := s₁.toks)
  dsimp only at H1 H2 H3 n1 n2 n3 b1 b2 b3
  have hit0 : IsItemIter (s₁.heap.push { cls := .type "dict_itemiterator", data := .fields #[.none, .bool false, .ref d, .int 0 0, .int kvs.length 0, .int ep 0, .none, .none] }) s₁.heap.objs.size d 0 kvs.length ep .none .none := Heap.get?_push_size _ rfl
  generalize hh1 : s₁.heap.push { cls := .type "dict_itemiterator", data := .fields #[.none, .bool false, .ref d, .int 0 0, .int kvs.length 0, .int ep 0, .none, .none] } = h1 at *
  generalize hh2 : h1.push { cls := .type "list", dict := none, data := .seq ([] : List Value).toArray } = h2 at *
  have hD0 : h2.PlainList h1.objs.size #[] := ⟨0, by rw [← hh2]; exact Heap.get?_push_size _ rfl⟩
  have nCD : h1.objs.size ≠ h2.objs.size := fun e => n3 (by rw [← e]; simp)
  have nCi : s₁.heap.objs.size ≠ h2.objs.size := fun e => n3 (by rw [← e]; simp)
  have nDi : h1.objs.size ≠ s₁.heap.objs.size := fun e => n2 (by rw [e]; simp)
  have H4 := H3.touch (t := s₁.toks + ([] : List (Str × Value)).length) (x := h2.objs.size) (by simp) hsb₁.extBut (let ⟨o, _, _, e, _⟩ := hns₁; ⟨o, e⟩)
  dsimp only at H4
  have up2 : ∀ a o, a ≠ h2.objs.size → h2.get? a = some o → h₁.get? a = some o := fun a o na e => hsb₁.extBut a o na (Heap.get?_push_of_some _ e)
  have hit1 : IsItemIter h₁ s₁.heap.objs.size d 0 kvs.length ep .none .none := up2 _ _ nCi (by rw [← hh2]; exact Heap.get?_push_of_some _ hit0)
  have hD1 : h₁.PlainList h1.objs.size #[] := hD0.at fun o e => up2 _ _ nCD e
  have F2 : FrameIn (pushB β' h₁ [h2.objs.size, h1.objs.size, s₁.heap.objs.size]) (compEnvC scope (closeL env.cells scope.names []) h2.objs.size env) (compM m scope.names) := by
    refine comp_frame (F'.keeps fun a o q => ?_) hkind hok ?_
    · rw [pushB_out]
      · exact q
      · intro y
        rw [H3.fresh a y] at q; cases q
    · obtain ⟨o, es, ep, e1, e2, e3, e4⟩ := hns₁
      exact ⟨o, es, ep, by rw [pushB_in (by simp)]; exact e1, e2, e3, fun name => by rw [e4]; rfl⟩
  have loop : ∀ s3, s3 = { s₁ with heap := h₁, toks := s₁.toks + ([] : List (Str × Value)).length } → codeAny c.M A (.compLoop (.ListComp elt [⟨.Tuple [.Name a pa, .Name b pb] kk tp, .Call (.Attribute (.Name x xp) (Str.ofString "items") ap) [] [] p, [], 0⟩] scope pos) 0 (.ref s₁.heap.objs.size) (.ref h1.objs.size) (compEnvC scope (closeL env.cells scope.names []) h2.objs.size env))
      (compPost c.M A NoE none (fun v s' => ∃ S', Q (er v) S' ∧ InvS c β S' s') (.ref h1.objs.size) h2.objs.size) s3 := by
    rintro s3 rfl
    refine comp_items_loop (cenv := compEnvC scope (closeL env.cells scope.names []) h2.objs.size env) r he nDi nCD nCi (Nat.ne_of_lt hdlt) hz' hDall hit1 (by rw [hm]; exact h) ⟨H4, F2, #[], hD1, rfl⟩ fun ys S' s' hq ce => ?_
    obtain ⟨mv, hns⟩ := ce.ns
    obtain ⟨items, hp, hmm⟩ := ce.acc
    refine ⟨mv, hns, fun h' hs' => ?_⟩
    have H5 : Hold c β' [h1.objs.size] S' { s' with heap := h' } := ce.hold.lose (t := s'.toks) (it := h2.objs.size) (by simp [compEnvC]) hs'.extBut fun a q => by
      rw [List.mem_singleton] at q; subst q; exact ⟨by simp, nCD⟩
    obtain ⟨fr, I5⟩ := H5.own (D := h1.objs.size) (items := items) (by simp) (hp.at fun o e => hs'.extBut _ _ nCD e) (by have := ce.len; rw [← hmm] at this; simpa using this)
    rw [hmm] at I5
    exact ⟨_, hq _ fr, base _ _ I5⟩
  exact codeAny_compStart_list (loop _ rfl) (kcp_self hit1 (loop _ rfl))
end
end
section
structure D where
  num : Int
  b : Int
  e : Int
  fr : Bool
  re : Bool
inductive T where
  | nil
  | node (l : T) (a : Addr) (d : D) (red : Bool) (r : T)
noncomputable def T.root : T → Option Addr
  | .nil => none
  | .node _ a _ _ _ => some a
noncomputable def T.ad : T → List Addr
  | .nil => []
  | .node l a _ _ r => a :: (l.ad ++ r.ad)
noncomputable def omax (x : Int) : Option Int → Int
  | none => x
  | some y => max x y
noncomputable def gE (d : D) (l r : Option Int) : Int := omax (omax d.e l) r
noncomputable def T.mx : T → Option Int
  | .nil => none
  | .node l _ d _ r => some (gE d l.mx r.mx)
noncomputable def T.isRed : T → Bool
  | .nil => false
  | .node _ _ _ c _ => c
noncomputable def mkR (K o : Int) (d : D) (red : Bool) (lim : Int) (l r p : Option Addr) : NodeRec := ⟨d.num, d.b - K, d.e - K, d.fr, d.re, lim - K, o, red, l, r, p⟩
noncomputable abbrev Nd := Addr → Option NodeRec
noncomputable def IsT (nd : Nd) : Option Addr → Int → T → Prop
  | _, _, .nil => True
  | p, K, .node l a d red r => ∃ o, nd a = some (mkR (K + o) o d red (gE d l.mx r.mx) l.root r.root p) ∧ IsT nd (some a) (K + o) l ∧ IsT nd (some a) (K + o) r
structure Fr where
  left : Bool
  a : Addr
  d : D
  red : Bool
  sib : T
noncomputable abbrev Cx := List Fr
noncomputable def Fr.fill (f : Fr) (t : T) : T := if f.left then .node t f.a f.d f.red f.sib else .node f.sib f.a f.d f.red t
noncomputable def plug : Cx → T → T
  | [], t => t
  | f :: C, t => plug C (f.fill t)
noncomputable def par : Cx → Option Addr
  | [] => none
  | f :: _ => some f.a
noncomputable def rootC : Cx → Option Addr → Option Addr
  | [], h => h
  | f :: C, _ => rootC C (some f.a)
noncomputable def Cx.ad : Cx → List Addr
  | [] => []
  | f :: C => f.a :: (f.sib.ad ++ Cx.ad C)
noncomputable def Fr.l (f : Fr) (h : Option Addr) : Option Addr := if f.left then h else f.sib.root
noncomputable def Fr.r (f : Fr) (h : Option Addr) : Option Addr := if f.left then f.sib.root else h
noncomputable def Fr.gE (f : Fr) (m : Option Int) : Int := if f.left then Mine.gE f.d m f.sib.mx else Mine.gE f.d f.sib.mx m
noncomputable def IsC (nd : Nd) : Option Addr → Option (Option Int) → Int → Cx → Prop
  | _, _, K, [] => K = 0
  | h, M, K, f :: C => ∃ o lim, nd f.a = some (mkR K o f.d f.red lim (f.l h) (f.r h) (par C)) ∧ (∀ m, M = some m → lim = f.gE m) ∧ IsT nd (some f.a) K f.sib ∧ IsC nd (some f.a) (M.map fun m => some (f.gE m)) (K - o) C
structure WG (S : Sto) (tr : Addr) (n : Int) (C : Cx) (h : Option Addr) (M : Option (Option Int)) (K : Int) (t : T) : Prop where
  rt : S.tr tr = some (rootC C h, n)
  cx : IsC S.nd h M K C
  tt : IsT S.nd (par C) K t
  nodup : (C.ad ++ t.ad).Nodup
  nn : S.nd tr = none
noncomputable abbrev WK (S : Sto) (tr : Addr) (n : Int) (C : Cx) (K : Int) (t : T) : Prop := WG S tr n C t.root (some t.mx) K t
noncomputable def W (S : Sto) (tr : Addr) (n : Int) (C : Cx) (t : T) : Prop := ∃ K, WK S tr n C K t
theorem mem_root {t : T} {a : Addr} (h : t.root = some a) : a ∈ t.ad := by
  cases t with
  | nil => cases h
  | node l b d c r => cases h; exact List.mem_cons_self
theorem IsT.congr {nd nd' : Nd} : ∀ {t : T} {p : Option Addr} {K : Int}, IsT nd p K t → (∀ a ∈ t.ad, nd' a = nd a) → IsT nd' p K t
  | .nil, _, _, _, _ => trivial
  | .node l a d c r, p, K, ⟨o, h, h1, h2⟩, k => ⟨o, (k a List.mem_cons_self).trans h, h1.congr fun b hb => k b (List.mem_cons_of_mem _ (List.mem_append_left _ hb)), h2.congr fun b hb => k b (List.mem_cons_of_mem _ (List.mem_append_right _ hb))⟩
theorem IsC.congr {nd nd' : Nd} : ∀ {C : Cx} {h : Option Addr} {M : Option (Option Int)} {K : Int}, IsC nd h M K C → (∀ a ∈ C.ad, nd' a = nd a) → IsC nd' h M K C
  | [], _, _, _, x, _ => x
  | f :: C, h, M, K, ⟨o, lim, x, y, z, w⟩, k => ⟨o, lim, (k _ List.mem_cons_self).trans x, y, z.congr fun b hb => k b (List.mem_cons_of_mem _ (List.mem_append_left _ hb)), w.congr fun b hb => k b (List.mem_cons_of_mem _ (List.mem_append_right _ hb))⟩
theorem IsT.got {nd : Nd} : ∀ {t : T} {p : Option Addr} {K : Int}, IsT nd p K t → ∀ {a : Addr}, a ∈ t.ad → ∃ r, nd a = some r
  | .nil, _, _, _, _, h => by cases h
  | .node l a d c r, p, K, ⟨o, h, h1, h2⟩, b, hb => by
    rcases List.mem_cons.mp hb with rfl | hb
    · exact ⟨_, h⟩
    · rcases List.mem_append.mp hb with hb | hb
      · exact h1.got hb
      · exact h2.got hb
theorem IsC.got {nd : Nd} : ∀ {C : Cx} {h : Option Addr} {M : Option (Option Int)} {K : Int}, IsC nd h M K C → ∀ {a : Addr}, a ∈ C.ad → ∃ r, nd a = some r
  | [], _, _, _, _, _, h => by cases h
  | f :: C, h, M, K, ⟨o, lim, x, y, z, w⟩, b, hb => by
    rcases List.mem_cons.mp hb with rfl | hb
    · exact ⟨_, x⟩
    · rcases List.mem_append.mp hb with hb | hb
      · exact z.got hb
      · exact w.got hb
@[simp] theorem fill_root (f : Fr) (t : T) : (f.fill t).root = some f.a := by unfold Fr.fill; split <;> rfl
@[simp] theorem fill_mx (f : Fr) (t : T) : (f.fill t).mx = some (f.gE t.mx) := by unfold Fr.fill Fr.gE; split <;> rfl
theorem fill_isT {nd : Nd} {f : Fr} {t : T} {p : Option Addr} {K : Int} : IsT nd p K (f.fill t) ↔ ∃ o, nd f.a = some (mkR (K + o) o f.d f.red (f.gE t.mx) (f.l t.root) (f.r t.root) p) ∧ IsT nd (some f.a) (K + o) f.sib ∧ IsT nd (some f.a) (K + o) t := by
  unfold Fr.fill Fr.gE Fr.l Fr.r
  by_cases h : f.left = true
  · simp only [h, if_true, IsT]
    exact ⟨fun ⟨o, h1, h2, h3⟩ => ⟨o, h1, h3, h2⟩, fun ⟨o, h1, h2, h3⟩ => ⟨o, h1, h3, h2⟩⟩
  · simp only [h, Bool.false_eq_true, if_false, IsT]
theorem fill_perm (f : Fr) (t : T) : (f.fill t).ad.Perm (f.a :: (f.sib.ad ++ t.ad)) := by
  unfold Fr.fill
  split
  · exact List.Perm.cons _ List.perm_append_comm
  · exact List.Perm.refl _
theorem up_perm (f : Fr) (C : Cx) (t : T) : (Cx.ad (f :: C) ++ t.ad).Perm (C.ad ++ (f.fill t).ad) := by
  refine List.Perm.trans ?_ (List.Perm.append_left _ (fill_perm f t).symm)
  show (f.a :: (f.sib.ad ++ Cx.ad C) ++ t.ad).Perm _
  rw [List.cons_append, List.append_assoc]
  refine List.Perm.trans (List.Perm.cons _ ?_) List.perm_middle.symm
  rw [← List.append_assoc, ← List.append_assoc]
  exact List.Perm.append_right _ List.perm_append_comm
theorem W.up {S : Sto} {tr : Addr} {n : Int} {f : Fr} {C : Cx} {t : T} : W S tr n (f :: C) t ↔ W S tr n C (f.fill t) := by
  constructor
  · rintro ⟨K, h1, h2, h3, h4, h5⟩
    obtain ⟨o, lim, e, hl, hs, hc⟩ := h2
    refine ⟨K - o, ?_, ?_, ?_, (up_perm f C t).nodup_iff.mp h4, h5⟩
    · rw [fill_root]; exact h1
    · rw [fill_root, fill_mx]; exact hc
    · refine fill_isT.mpr ⟨o, ?_, ?_, ?_⟩
      · rw [← hl _ rfl, show K - o + o = K by omega]; exact e
      · rw [show K - o + o = K by omega]; exact hs
      · rw [show K - o + o = K by omega]; exact h3
  · rintro ⟨K, h1, h2, h3, h4, h7⟩
    rw [fill_root] at h1 h2
    rw [fill_mx] at h2
    obtain ⟨o, e, h5, h6⟩ := fill_isT.mp h3
    exact ⟨K + o, h1, ⟨o, _, e, fun m z => by cases z; rfl, h5, by rw [show K + o - o = K by omega]; exact h2⟩, h6, (up_perm f C t).nodup_iff.mpr h4, h7⟩
theorem W.plug {S : Sto} {tr : Addr} {n : Int} : ∀ {C : Cx} {t : T}, W S tr n C t ↔ W S tr n [] (plug C t)
  | [], _ => Iff.rfl
  | _ :: _, _ => W.up.trans W.plug
end
section
inductive Code where
  | done
  | ld (i : Nat) (r : Code)
  | cst (v : AV) (r : Code)
  | ga (f : Fld) (r : Code)
  | cmp (op : CmpOp) (r : Code)
  | not (r : Code)
  | neg (r : Code)
  | bin (op : Operator) (r : Code)
  | tb (r : Code)
  | br (a b r : Code)
  | call (f : Value) (n : Nat) (r : Code)
  | mkl (n : Nat) (r : Code)
  | mkt (n : Nat) (r : Code)
  | mkd (r : Code)
  | mchk (d : Bool) (nm : Str) (r : Code)
  | meth (d : Bool) (nm : Str) (n : Nat) (r : Code)
  | slc (lo hi st : Option Int) (r : Code)
  | sub (r : Code)
  | sti (i : Nat) (r : Code)
  | sa (f : Fld) (r : Code)
  | si (r : Code)
  | pop (r : Code)
  | ret
  | whl (t b r : Code)
  | fort (i n : Nat) (b r : Code)
  | forl (i : Nat) (b r : Code)
  | frng (i : Nat) (b r : Code)
  | lcp (i : Nat) (sel : List (Option Nat)) (t e r : Code)
  | lci (i j : Nat) (sel : List (Option Nat)) (e r : Code)
  | lap (r : Code)
  | dne (r : Code)
  | unp (is : List Nat) (r : Code)
  | tas (is js : List Nat) (r : Code)
inductive Vs where
  | nil
  | s (v : Option AV) (r : Vs)
noncomputable def Vs.get : Vs → Nat → Option AV
  | .nil, _ => none
  | .s v r, i => match i with | 0 => v | i + 1 => r.get i
noncomputable def Vs.put : Vs → Nat → AV → Option Vs
  | .nil, _, _ => none
  | .s v r, i, w => match i with
    | 0 => some (.s (some w) r)
    | i + 1 => match r.put i w with
      | some x => some (.s v x)
      | none => none
noncomputable def putN : List Nat → List AV → Vs → Option Vs
  | [], [], vs => some vs
  | i :: is, v :: l, vs => (vs.put i v).bind (putN is l)
  | _, _, _ => none
noncomputable def cvs : List (Option Nat) → Vs → Vs
  | [], _ => .nil
  | o :: r, vs => .s (o.bind vs.get) (cvs r vs)
noncomputable def popN : Nat → List AV → List AV → Option (List AV × List AV)
  | 0, st, acc => some (acc, st)
  | n + 1, st, acc => match st with | v :: st => popN n st (v :: acc) | [] => none
noncomputable abbrev Kt := List AV → Vs → Sto → Prop
noncomputable def forD (body : Kt → Vs → Sto → Prop) (P : Sto → Prop) (i : Nat) (fin : Vs → Sto → Prop) : List AV → Vs → Sto → Prop
  | [], vs, S => P S ∧ fin vs S
  | v :: l, vs, S => P S ∧ ∃ vs', vs.put i v = some vs' ∧ body (fun _ vs2 S2 => forD body P i fin l vs2 S2) vs' S
noncomputable def cmpD {α : Type} (dt : (Bool → Sto → Prop) → Vs → Sto → Prop) (de : (AV → Sto → Prop) → Vs → Sto → Prop) (set : α → Vs → Option Vs) (P : Sto → Prop) (fin : List AV → Sto → Prop) : List α → Vs → List AV → Sto → Prop
  | [], _, ys, S => P S ∧ fin ys S
  | v :: l, vs, ys, S => P S ∧ ∃ vs', set v vs = some vs' ∧ dt (fun ok S1 => (ok = true → de (fun y S2 => cmpD dt de set P fin l vs' (ys ++ [y]) S2) vs' S1) ∧ (ok = false → cmpD dt de set P fin l vs' ys S1)) vs' S
noncomputable def put2 (i j : Nat) (p : Int × AV) (vs : Vs) : Option Vs := (vs.put i (.int p.1)).bind fun vs => vs.put j p.2
noncomputable def Sto.itm (S : Sto) (o i v : AV) : Prop := S.item o i = some v ∨ (∃ a xs, ∃ j : Nat, o = .ref a ∧ i = .int j ∧ S.tp a = some xs ∧ xs[j]? = some v) ∨ ∃ a es j, o = .ref a ∧ i = .int j ∧ S.dt a = some es ∧ getE es j = some v
noncomputable def Sto.stI (S : Sto) (o i w : AV) (S' : Sto) : Prop := S.setItem o i w = some S' ∨ ∃ a es j, o = .ref a ∧ i = .int j ∧ S.dt a = some es ∧ es.length < 1000 ∧ S' = S.setDt a (putE es j w)
section
variable (c : Cst) (k : Nat)
noncomputable def den : Code → (AV → Sto → Prop) → Kt → List AV → Vs → Sto → Prop
  | .done, _, K, st, vs, S => K st vs S
  | .ld i r, R, K, st, vs, S => ∃ v, vs.get i = some v ∧ den r R K (v :: st) vs S
  | .cst v r, R, K, st, vs, S => den r R K (v :: st) vs S
  | .ga f r, R, K, st, vs, S => match st with | o :: st => ∃ v, S.getA o f.name = some v ∧ den r R K (v :: st) vs S | _ => False
  | .cmp op r, R, K, st, vs, S => match st with | b :: a :: st => ∃ t, S.cmp op a b = some t ∧ den r R K (.bool t :: st) vs S | _ => False
  | .not r, R, K, st, vs, S => match st with | v :: st => ∃ b, v = .bool b ∧ den r R K (.bool (!b) :: st) vs S | _ => False
  | .neg r, R, K, st, vs, S => match st with | v :: st => ∃ i, v = .int i ∧ den r R K (.int (-i) :: st) vs S | _ => False
  | .bin op r, R, K, st, vs, S => match st with | b :: a :: st => ∃ i j q, a = .int i ∧ b = .int j ∧ binI op i j = some q ∧ den r R K (.int q :: st) vs S | _ => False
  | .tb r, R, K, st, vs, S => match st with | v :: st => ∃ b, v = .bool b ∧ den r R K (.bool b :: st) vs S | _ => False
  | .br a b r, R, K, st, vs, S => match st with | v :: st => ∃ x, v = .bool x ∧ (x = true → den a R (den r R K) st vs S) ∧ (x = false → den b R (den r R K) st vs S) | _ => False
  | .call f n r, R, K, st, vs, S => ∃ as st', popN n st [] = some (as, st') ∧ CW c k f as (fun v S' => den r R K (v :: st') vs S') S
  | .mkl n r, R, K, st, vs, S => ∃ as st', popN n st [] = some (as, st') ∧ ∀ l, S.Free l → den r R K (.ref l :: st') vs (S.setLs l as)
  | .mkt n r, R, K, st, vs, S => ∃ as st', popN n st [] = some (as, st') ∧ ∀ l, S.Free l → den r R K (.ref l :: st') vs (S.setTp l as)
  | .mkd r, R, K, st, vs, S => ∀ l, S.Free l → den r R K (.ref l :: st) vs (S.setDt l [])
  | .mchk d nm r, R, K, st, vs, S => match st with
      | v :: st => ∃ a, v = .ref a ∧ (bif d then (∃ es, S.dt a = some es) ∧ (dtId nm).isSome = true else (∃ xs, S.ls a = some xs) ∧ (lsId nm).isSome = true) ∧ den r R K (.ref a :: st) vs S
      | _ => False
  | .meth d nm n r, R, K, st, vs, S => ∃ as st' a, popN n st [] = some (as, .ref a :: st') ∧
      (bif d then ∃ es, S.dt a = some es ∧ dtMeth nm a es as (fun v S' => den r R K (v :: st') vs S') S else ∃ xs, S.ls a = some xs ∧ lsMeth nm a xs as (fun v S' => den r R K (v :: st') vs S') S)
  | .slc lo hi sp r, R, K, st, vs, S => match st with
      | v :: st => ∃ a xs ys, v = .ref a ∧ S.lst a = some xs ∧ Sliced xs lo hi sp ys ∧ ∀ l, S.Free l → den r R K (.ref l :: st) vs (S.setLs l ys)
      | _ => False
  | .sub r, R, K, st, vs, S => match st with | i :: o :: st => ∃ v, S.itm o i v ∧ den r R K (v :: st) vs S | _ => False
  | .sti i r, R, K, st, vs, S => match st with | v :: st => ∃ vs', vs.put i v = some vs' ∧ den r R K st vs' S | _ => False
  | .sa f r, R, K, st, vs, S => match st with | o :: w :: st => ∃ S', S.setA o f.name w = some S' ∧ den r R K st vs S' | _ => False
  | .si r, R, K, st, vs, S => match st with | i :: o :: w :: st => ∃ S', S.stI o i w S' ∧ den r R K st vs S' | _ => False
  | .pop r, R, K, st, vs, S => match st with | _ :: st => den r R K st vs S | _ => False
  | .ret, R, _, st, _, S => match st with | v :: _ => R v S | _ => False
  | .whl t b r, R, K, st, vs, S => st = [] ∧ ∃ (I : Nat → Vs → Sto → Prop) (n : Nat), I n vs S ∧ ∀ n vs S, I n vs S →
      den t R (fun st2 vs2 S2 => ∃ x, st2 = [.bool x] ∧ (x = true → den b R (fun _ vs3 S3 => ∃ n', n' < n ∧ I n' vs3 S3) [] vs2 S2) ∧ (x = false → den r R K [] vs2 S2)) [] vs S
  | .fort i n b r, R, K, st, vs, S => ∃ as, popN n st [] = some (as, []) ∧ forD (fun K' vs S => den b R K' [] vs S) (fun _ => True) i (fun vs S => den r R K [] vs S) as vs S
  | .forl i b r, R, K, st, vs, S => ∃ l xs, st = [.ref l] ∧ S.lst l = some xs ∧ forD (fun K' vs S => den b R K' [] vs S) (fun S => S.lst l = some xs) i (fun vs S => den r R K [] vs S) xs vs S
  | .frng i b r, R, K, st, vs, S => ∃ n : Int, st = [.int n] ∧ 0 ≤ n ∧ n ≤ 1000 ∧ forD (fun K' vs S => den b R K' [] vs S) (fun _ => True) i (fun vs S => den r R K [] vs S) ((List.range n.toNat).map fun j : Nat => AV.int (j : Int)) vs S
  | .lcp i sel t e r, R, K, st, vs, S => match st with
      | v :: st => ∃ l xs, v = .ref l ∧ S.lst l = some xs ∧ cmpD (fun Q vs S => den t R (fun st _ S => ∃ b, st = [.bool b] ∧ Q b S) [] vs S) (fun Q vs S => den e R (fun st _ S => ∃ y, st = [y] ∧ Q y S) [] vs S) (fun v vs => vs.put i v) (fun S => S.lst l = some xs)
          (fun ys S => ∀ D, S.Free D → den r R K (.ref D :: st) vs (S.setLs D ys)) xs (cvs sel vs) [] S
      | _ => False
  | .lci i j sel e r, R, K, st, vs, S => match st with
      | v :: st => ∃ d es, v = .ref d ∧ S.dt d = some es ∧ cmpD (fun Q _ S => Q true S) (fun Q vs S => den e R (fun st _ S => ∃ y, st = [y] ∧ Q y S) [] vs S) (put2 i j) (fun _ => True)
          (fun ys S => ∀ D, S.Free D → den r R K (.ref D :: st) vs (S.setLs D ys)) es (cvs sel vs) [] (S.noDt d)
      | _ => False
  | .lap r, R, K, st, vs, S => match st with
      | b :: a :: st => ∃ l1 l2 xs ys, a = .ref l1 ∧ b = .ref l2 ∧ S.lst l1 = some xs ∧ S.lst l2 = some ys ∧ xs.length + ys.length ≤ 1000 ∧ ∀ D, S.Free D → den r R K (.ref D :: st) vs (S.setLs D (xs ++ ys))
      | _ => False
  | .dne r, R, K, st, vs, S => match st with
      | v :: st => ∃ d es, v = .ref d ∧ S.dt d = some es ∧ ∀ e, S.Free e → den r R K (.bool (!es.isEmpty) :: st) vs (S.setDt e [])
      | _ => False
  | .unp is r, R, K, st, vs, S => match st with
      | v :: st => ∃ a xs vs', v = .ref a ∧ S.ls a = some xs ∧ putN is xs vs = some vs' ∧ den r R K st vs' S
      | _ => False
  | .tas is js r, R, K, st, vs, S => ∃ as st' vs', popN is.length st [] = some (as, st') ∧ putN is as vs = some vs' ∧ putN js as.reverse vs = some vs' ∧ den r R K st' vs' S
end
noncomputable abbrev Nms := List (Str × NameKind)
noncomputable def isV : NameKind → Bool
  | .local => true
  | .cell => true
  | .free => true
  | _ => false
noncomputable def bnd (k : NameKind) (v : Option AV) : Bnd := match k, v with
  | .local, v => .var v
  | .cell, v => .cell v
  | .free, some v => .free v
  | _, _ => .glob
noncomputable def Vs.hd : Vs → Option AV
  | .s v _ => v
  | _ => none
noncomputable def Vs.tl : Vs → Vs
  | .s _ r => r
  | .nil => .nil
noncomputable def loc : Nms → Vs → Loc
  | [], _ => []
  | (x, k) :: r, vs => bif isV k then (x, bnd k vs.hd) :: loc r vs.tl else (x, .glob) :: loc r vs
noncomputable def slot (x : Str) : Nms → Option Nat
  | [] => none
  | (y, k) :: r => bif x == y then (bif isV k then some 0 else none) else (bif isV k then (slot x r).map (· + 1) else slot x r)
noncomputable def wslot (x : Str) : Nms → Option Nat
  | [] => none
  | (y, k) :: r => bif x == y then (match k with | .local => some 0 | .cell => some 0 | _ => none) else (bif isV k then (wslot x r).map (· + 1) else wslot x r)
noncomputable def isG (x : Str) : Nms → Bool
  | [] => false
  | (y, k) :: r => bif x == y then !isV k else isG x r
theorem get_tl (vs : Vs) (i : Nat) : vs.get (i + 1) = vs.tl.get i := by cases vs <;> rfl
theorem get_hd (vs : Vs) : vs.get 0 = vs.hd := by cases vs <;> rfl
theorem put_tl {vs vs' : Vs} {i : Nat} {v : AV} (h : vs.put (i + 1) v = some vs') : vs'.hd = vs.hd ∧ vs.tl.put i v = some vs'.tl := by
  cases vs with
  | nil => cases h
  | s w t =>
    unfold Vs.put at h
    dsimp only at h
    cases q : t.put i v with
    | none => rw [q] at h; cases h
    | some x => rw [q] at h; cases h; exact ⟨rfl, q⟩
theorem put_hd {vs vs' : Vs} {v : AV} (h : vs.put 0 v = some vs') : vs'.hd = some v ∧ vs'.tl = vs.tl := by
  cases vs <;> cases h <;> exact ⟨rfl, rfl⟩
theorem loc_get {x : Str} : ∀ {names : Nms} {i : Nat} {vs : Vs} {v : AV}, slot x names = some i → vs.get i = some v → valOf (loc names vs) x = some v
  | [], _, _, _, h, _ => by cases h
  | (y, k) :: r, i, vs, v, h, g => by
    unfold slot at h
    unfold loc valOf
    cases q : x == y <;> cases hk : isV k <;> rw [q, hk] at h
    · have := loc_get (names := r) h g
      unfold valOf at this
      rw [cond_false, List.lookup_cons, q]; exact this
    · obtain ⟨j, hj, rfl⟩ := Option.map_eq_some_iff.mp h
      rw [get_tl] at g
      have := loc_get (names := r) hj g
      unfold valOf at this
      rw [cond_true, List.lookup_cons, q]; exact this
    · cases h
    · cases h
      rw [get_hd] at g
      rw [cond_true, List.lookup_cons, q, g]
      cases k <;> first | rfl | exact ff hk
theorem setV_ne {x y : Str} {v : AV} {b : Bnd} {r : Loc} (q : (x == y) = false) : setV x v ((y, b) :: r) = (setV x v r).map ((y, b) :: ·) := by
  show (if (x == y) = true then _ else _) = _
  rw [if_neg (by rw [q]; decide)]
theorem loc_put {x : Str} : ∀ {names : Nms} {i : Nat} {vs vs' : Vs} {v : AV}, wslot x names = some i → vs.put i v = some vs' → setV x v (loc names vs) = some (loc names vs')
  | [], _, _, _, _, h, _ => by cases h
  | (y, k) :: r, i, vs, vs', v, h, g => by
    unfold wslot at h
    unfold loc
    cases q : x == y <;> rw [q] at h
    · cases hk : isV k <;> rw [hk] at h
      · have := loc_put (names := r) h g
        rw [cond_false, cond_false, setV_ne q, this]; rfl
      · obtain ⟨j, hj, rfl⟩ := Option.map_eq_some_iff.mp h
        obtain ⟨h1, h2⟩ := put_tl g
        rw [cond_true, cond_true, setV_ne q, loc_put (names := r) hj h2, h1]; rfl
    · cases k <;> cases h <;> obtain ⟨h1, h2⟩ := put_hd g <;> (simp only [isV, cond_true, setV, q, if_true, h1, h2]; rfl)
theorem loc_glob {x : Str} : ∀ {names : Nms} (vs : Vs), isG x names = true → (loc names vs).lookup x = some .glob
  | [], _, h => by cases h
  | (y, k) :: r, vs, h => by
    unfold isG at h
    unfold loc
    cases q : x == y
    · rw [q] at h
      cases hk : isV k
      · rw [cond_false, List.lookup_cons, q]; exact loc_glob vs h
      · rw [cond_true, List.lookup_cons, q]; exact loc_glob _ h
    · rw [q] at h
      have hk : isV k = false := by simpa using h
      rw [hk, cond_false, List.lookup_cons, q]
noncomputable def relab (l : Nms) : Nms := l.map fun p => (p.1, match p.2 with | .free => .cell | k => k)
noncomputable def cslot (q : NameKind) (x : Str) : Nms → Option Nat
  | [] => none
  | (y, k) :: r => bif x == y then (bif k == q then some 0 else none) else (bif isV k then (cslot q x r).map (· + 1) else cslot q x r)
noncomputable def wslots (names : Nms) : List Str → Option (List Nat)
  | [] => some []
  | x :: l => (wslot x names).bind fun i => (wslots names l).map (i :: ·)
noncomputable def plainN (x : Str) : Bool := x != ("__debug__" : Str) && x != ("__classdict__" : Str)
noncomputable def selOf (names : Nms) : Nms → Option (List (Option Nat))
  | [] => some []
  | (x, k) :: r => match k with
    | .local => bif plainN x then (selOf names r).map (none :: ·) else none
    | .free => (cslot .cell x names).bind fun i => (selOf names r).map (some i :: ·)
    | .globalImplicit => bif plainN x then selOf names r else none
    | _ => none
theorem loc_kind {q : NameKind} (hq : isV q = true) {x : Str} : ∀ {names : Nms} {i : Nat} {vs : Vs}, cslot q x names = some i → (loc names vs).lookup x = some (bnd q (vs.get i))
  | [], _, _, h => by cases h
  | (y, k) :: r, i, vs, h => by
    unfold cslot at h
    unfold loc
    cases q1 : x == y <;> rw [q1] at h
    · cases hk : isV k <;> rw [hk] at h
      · rw [cond_false, List.lookup_cons, q1]; exact loc_kind hq (names := r) h
      · obtain ⟨j, hj, rfl⟩ := Option.map_eq_some_iff.mp h
        rw [cond_true, List.lookup_cons, q1, get_tl]; exact loc_kind hq (names := r) hj
    · cases q2 : k == q <;> rw [q2] at h
      · cases h
      · cases h
        rw [eq_of_beq q2, hq, cond_true, List.lookup_cons, q1, get_hd]
theorem wslot_of {x : Str} : ∀ {names : Nms} {i : Nat}, cslot .local x names = some i → wslot x names = some i
  | [], _, h => by cases h
  | (y, k) :: r, i, h => by
    unfold cslot at h
    unfold wslot
    cases q1 : x == y <;> rw [q1] at h
    · cases hk : isV k <;> rw [hk] at h
      · exact wslot_of (names := r) h
      · obtain ⟨j, hj, rfl⟩ := Option.map_eq_some_iff.mp h
        rw [cond_false, cond_true, wslot_of hj]; rfl
    · cases q2 : k == NameKind.local <;> rw [q2] at h
      · cases h
      · cases h; rw [eq_of_beq q2]; rfl
theorem putN_loc {names : Nms} : ∀ {xs : List Str} {is : List Nat} {l : List AV} {vs vs' : Vs}, wslots names xs = some is → putN is l vs = some vs' → setVs xs l (loc names vs) = some (loc names vs')
  | [], is, l, vs, vs', h, g => by
    cases h
    cases l with
    | nil => cases g; rfl
    | cons _ _ => cases g
  | x :: xs, is, l, vs, vs', h, g => by
    obtain ⟨i, hi, h⟩ := Option.bind_eq_some_iff.mp h
    obtain ⟨js, hj, rfl⟩ := Option.map_eq_some_iff.mp h
    cases l with
    | nil => cases g
    | cons v l =>
      obtain ⟨vs1, g1, g2⟩ := Option.bind_eq_some_iff.mp g
      show (setV x v (loc names vs)).bind (setVs xs l) = _
      rw [loc_put hi g1]; exact putN_loc hj g2
theorem comp_loc {names : Nms} {vs : Vs} : ∀ {l : Nms} {sel : List (Option Nat)}, selOf names l = some sel → compM (loc names vs) l = loc (relab l) (cvs sel vs) ∧ l.all (okComp (loc names vs)) = true
  | [], _, h => ⟨rfl, rfl⟩
  | (x, k) :: r, sel, h => by
    unfold selOf at h
    cases k with
    | «local» =>
      cases q : plainN x <;> rw [q] at h
      · cases h
      obtain ⟨s, hs, rfl⟩ := Option.map_eq_some_iff.mp h
      obtain ⟨a, b⟩ := comp_loc (vs := vs) hs
      exact ⟨congrArg ((x, Bnd.var none) :: ·) a, by show (plainN x && r.all (okComp (loc names vs))) = true; rw [q, b]; rfl⟩
    | free =>
      obtain ⟨i, hi, h⟩ := Option.bind_eq_some_iff.mp h
      obtain ⟨s, hs, rfl⟩ := Option.map_eq_some_iff.mp h
      obtain ⟨a, b⟩ := comp_loc (vs := vs) hs
      have e := loc_kind (q := .cell) rfl (vs := vs) hi
      refine ⟨?_, ?_⟩
      · show (x, ((loc names vs).lookup x).getD .glob) :: compM (loc names vs) r = (x, bnd .cell (vs.get i)) :: loc (relab r) (cvs s vs)
        rw [e, a]; rfl
      · show (okCell ((loc names vs).lookup x) && r.all (okComp (loc names vs))) = true
        rw [e, b]; rfl
    | globalImplicit =>
      cases q : plainN x <;> rw [q] at h
      · cases h
      obtain ⟨a, b⟩ := comp_loc (vs := vs) h
      exact ⟨congrArg ((x, Bnd.glob) :: ·) a, by show (plainN x && r.all (okComp (loc names vs))) = true; rw [q, b]; rfl⟩
    | cell => cases h
    | globalExplicit => cases h
end
section
section
variable (names : Nms)
noncomputable def OkE (e : PySem.Expr) (rest code : Code) : Prop := ∀ {c : Cst} {k : Nat} {R : AV → Sto → Prop} {K : Kt} {st : List AV} {vs : Vs} {S : Sto},
  den c k code R K st vs S → EWs c k (loc names vs) e (fun v S' => den c k rest R K (v :: st) vs S') S
noncomputable def OkT (e : PySem.Expr) (rest code : Code) : Prop := ∀ {c : Cst} {k : Nat} {R : AV → Sto → Prop} {K : Kt} {st : List AV} {vs : Vs} {S : Sto},
  den c k code R K st vs S → TWs c k (loc names vs) e (fun b S' => den c k rest R K (.bool b :: st) vs S') S
noncomputable def OkEs (es : List PySem.Expr) (rest code : Code) : Prop := ∀ {c : Cst} {k : Nat} {R : AV → Sto → Prop} {K : Kt} {st : List AV} {vs : Vs} {S : Sto},
  den c k code R K st vs S → wpEs (EWs c k (loc names vs)) es (fun as S' => as.length = es.length ∧ den c k rest R K (as.reverse ++ st) vs S') S
noncomputable def OkB (op : PySem.BoolOp) (es : List PySem.Expr) (rest code : Code) : Prop := ∀ {c : Cst} {k : Nat} {R : AV → Sto → Prop} {K : Kt} {st : List AV} {vs : Vs} {S : Sto},
  den c k code R K st vs S → wpBool (EWs c k (loc names vs)) op es (fun v S' => den c k rest R K (v :: st) vs S') S
noncomputable def OkA (op : PySem.BoolOp) (es : List PySem.Expr) (rest code : Code) : Prop := ∀ {c : Cst} {k : Nat} {R : AV → Sto → Prop} {K : Kt} {st : List AV} {vs : Vs} {S : Sto},
  den c k code R K st vs S → wpTests (TWs c k (loc names vs)) op es (fun b S' => den c k rest R K (.bool b :: st) vs S') S
noncomputable def flq (R : AV → Sto → Prop) (K : Vs → Sto → Prop) : QS := fun fl m' S' => match fl with
  | .next => ∃ vs', m' = loc names vs' ∧ K vs' S'
  | .ret v => R v S'
  | _ => False
noncomputable def OkS (s : Stmt) (rest code : Code) : Prop := ∀ {c : Cst} {k : Nat} {R : AV → Sto → Prop} {K : Kt} {vs : Vs} {S : Sto},
  den c k code R K [] vs S → XW c k (exec s) (flq names R (den c k rest R K [])) (loc names vs) S
noncomputable abbrev XS0 (c : Cst) (k : Nat) : FS := fun m st Q S => XW c k (exec st) Q m S
noncomputable def OkSs (ss : List Stmt) (rest code : Code) : Prop := ∀ {c : Cst} {k : Nat} {R : AV → Sto → Prop} {K : Kt} {vs : Vs} {S : Sto},
  den c k code R K [] vs S → wpSs (XS0 c k) ss (loc names vs) (flq names R (den c k rest R K [])) S
end
section
variable {names : Nms} {rest : Code} {c : Cst} {k : Nat}
theorem hEW {m : Loc} : ∀ (e : PySem.Expr) (Q : AV → Sto → Prop) (S : Sto), EWs c k m e Q S → EWs c k m e Q S := fun _ _ _ h => h
theorem hTW {m : Loc} : ∀ (e : PySem.Expr) (Q : Bool → Sto → Prop) (S : Sto), TWs c k m e Q S → TWs c k m e Q S := fun _ _ _ h => h
theorem EWs.mono {m : Loc} {e : PySem.Expr} {Q Q' : AV → Sto → Prop} {S : Sto} (h : EWs c k m e Q S) (q : ∀ v S, Q v S → Q' v S) : EWs c k m e Q' S := fun env => (h env).mono fun _ _ => q _ _
theorem TWs.mono {m : Loc} {e : PySem.Expr} {Q Q' : Bool → Sto → Prop} {S : Sto} (h : TWs c k m e Q S) (q : ∀ v S, Q v S → Q' v S) : TWs c k m e Q' S := fun env => (h env).mono fun _ _ => q _ _
theorem wpEs_mono {m : Loc} : ∀ {es : List PySem.Expr} {Q Q' : List AV → Sto → Prop} {S : Sto}, wpEs (EWs c k m) es Q S → (∀ v S, Q v S → Q' v S) → wpEs (EWs c k m) es Q' S
  | [], _, _, _, h, q => q _ _ h
  | _ :: _, _, _, _, h, q => EWs.mono h fun _ _ h' => wpEs_mono h' fun _ _ => q _ _
theorem popN_rev : ∀ (n : Nat) (as st acc : List AV), as.length = n → popN n (as ++ st) acc = some (as.reverse ++ acc, st)
  | 0, [], _, _, _ => rfl
  | n + 1, a :: as, st, acc, h => by
    show popN n (as ++ st) (a :: acc) = _
    rw [popN_rev n as st _ (Nat.succ.inj h)]; simp
theorem popN_ok {n : Nat} {as st as' st' : List AV} (h : popN n (as.reverse ++ st) [] = some (as', st')) (hl : as.length = n) : as' = as ∧ st' = st := by
  rw [popN_rev n _ _ _ (by simpa using hl)] at h
  simp at h; exact ⟨h.1.symm, h.2.symm⟩
theorem OkE.cnone {a : Nat} {p : Pos} : OkE names (.Constant .none a p) rest (.cst .none rest) := fun h env A β s r F I => wpAny_Constant_none ⟨_, h, I⟩
theorem OkE.cbool {b : Bool} {a : Nat} {p : Pos} : OkE names (.Constant (.bool b) a p) rest (.cst (.bool b) rest) := fun h env A β s r F I => wpAny_Constant_bool ⟨_, h, I⟩
theorem OkE.cint {i : Int} {a : Nat} {p : Pos} : OkE names (.Constant (.int i) a p) rest (.cst (.int i) rest) := fun h env A β s r F I => wpAny_Constant_int ⟨_, h, I.toks _⟩
theorem OkE.cstr {x : Str} {a : Nat} {p : Pos} : OkE names (.Constant (.str x) a p) rest (.cst (.str x) rest) := fun h env A β s r F I => wpAny_Constant_str ⟨_, h, I.toks _⟩
theorem OkE.name {x : Str} {p : Pos} {i : Nat} (h : slot x names = some i) : OkE names (.Name x p) rest (.ld i rest) := fun ⟨_, hv, hq⟩ _ => TW.name (Q := fun v S' => den _ _ rest _ _ (v :: _) _ S') (loc_get h hv) hq
theorem OkE.attr {o : PySem.Expr} {a : Str} {p : Pos} {f : Fld} {code : Code} (hb : plainBase o = true) (hf : fldOf a = some f) (h : OkE names o (.ga f rest) code) : OkE names (.Attribute o a p) rest code := by
  obtain rfl := fldOf_name hf
  exact fun h' env => attr_sound (Q := fun v S' => den _ _ rest _ _ (v :: _) _ S') (f := EWs _ _ _) hEW hb (h h')
noncomputable def opOk : CmpOp → Bool
  | .In => false
  | .NotIn => false
  | _ => true
theorem opOk_ok {op : CmpOp} (h : opOk op = true) : op ≠ .In ∧ op ≠ .NotIn := by cases op <;> first | (cases h; done) | exact ⟨nofun, nofun⟩
theorem OkE.cmp {l r : PySem.Expr} {op : CmpOp} {p : Pos} {c1 c2 : Code} (ho : opOk op = true) (h2 : OkE names r (.cmp op rest) c2) (h1 : OkE names l c2 c1) : OkE names (.Compare l [op] [r] p) rest c1 :=
  fun h' _ => compare_sound (Q := fun v S' => den _ _ rest _ _ (v :: _) _ S') (f := EWs _ _ _) hEW (opOk_ok ho) ((h1 h').mono fun _ _ h => h2 h)
theorem OkT.cmp {l r : PySem.Expr} {op : CmpOp} {p : Pos} {c1 c2 : Code} (ho : opOk op = true) (h2 : OkE names r (.cmp op rest) c2) (h1 : OkE names l c2 c1) : OkT names (.Compare l [op] [r] p) rest c1 :=
  fun h' _ => test_sound (f := EWs _ _ _) hEW (opOk_ok ho) ((h1 h').mono fun _ _ h => h2 h)
theorem OkB.one {op : PySem.BoolOp} {e : PySem.Expr} {code : Code} (h : OkE names e rest code) : OkB names op [e] rest code := h
noncomputable def brC (op : PySem.BoolOp) (c2 rest : Code) : Code := match op with
  | .And => .br c2 (.cst (.bool false) .done) rest
  | .Or => .br (.cst (.bool true) .done) c2 rest
theorem OkB.cons {op : PySem.BoolOp} {e e2 : PySem.Expr} {es : List PySem.Expr} {c1 c2 : Code} (h2 : OkB names op (e2 :: es) .done c2) (h1 : OkE names e (brC op c2 rest) c1) : OkB names op (e :: e2 :: es) rest c1 := by
  intro c k R K st vs S h'
  refine (h1 h').mono fun v S' h => ?_
  cases op
  · obtain ⟨x, rfl, ha, hb⟩ := h
    exact ⟨x, rfl, fun e => by subst e; exact hb rfl, fun e => h2 (ha e)⟩
  · obtain ⟨x, rfl, ha, hb⟩ := h
    exact ⟨x, rfl, fun e => by subst e; exact ha rfl, fun e => h2 (hb e)⟩
theorem OkE.bool {op : PySem.BoolOp} {es : List PySem.Expr} {p : Pos} {code : Code} (h : OkB names op es rest code) : OkE names (.BoolOp op es p) rest code := fun h' _ => bool_sound (Q := fun v S' => den _ _ rest _ _ (v :: _) _ S') (f := EWs _ _ _) hEW _ _ (h h')
theorem OkA.nil {op : PySem.BoolOp} : OkA names op [] rest (.cst (.bool (!isOr op)) rest) := fun h' => h'
theorem OkA.cons {op : PySem.BoolOp} {e : PySem.Expr} {es : List PySem.Expr} {c1 c2 : Code} (h2 : OkA names op es .done c2) (h1 : OkT names e (brC op c2 rest) c1) : OkA names op (e :: es) rest c1 := by
  intro c k R K st vs S h'
  refine (h1 h').mono fun b S' h => ?_
  cases op
  · obtain ⟨x, e, ha, hb⟩ := h
    cases e
    exact ⟨fun e => by subst e; exact hb rfl, fun e => h2 (ha e)⟩
  · obtain ⟨x, e, ha, hb⟩ := h
    cases e
    exact ⟨fun e => by subst e; exact ha rfl, fun e => h2 (hb e)⟩
theorem OkT.bool {op : PySem.BoolOp} {es : List PySem.Expr} {p : Pos} {code : Code} (h : OkA names op es rest code) : OkT names (.BoolOp op es p) rest code :=
  fun h' _ A β s r F I => wpAny_isTrue_BoolOp (tests_sound (f := TWs _ _ _) hTW _ (h h') A β s r F I)
theorem OkT.not {x : PySem.Expr} {p : Pos} {code : Code} (h : OkT names x (.not rest) code) : OkT names (.UnaryOp .Not x p) rest code :=
  fun h' _ A β s r F I => isTrue_not (((h h').mono (Q' := fun b S' => den _ _ rest _ _ (.bool (!b) :: _) _ S') fun _ _ ⟨_, e, q⟩ => by cases e; exact q) _ A β s r F I)
noncomputable def plainT (e : PySem.Expr) : Bool := e.ctorIdx == 23 || e.ctorIdx == 20 || e.ctorIdx == 16
theorem OkT.plain {e : PySem.Expr} {code : Code} (he : plainT e = true) (h : OkE names e (.tb rest) code) : OkT names e rest code :=
  fun h' env => plainTest_sound (f := EWs _ _ _) hEW (fun w => by clear h h'; cases e <;> first | rfl | exact ff he) ((h h').mono fun _ _ ⟨b, e, q⟩ => ⟨b, e, q⟩)
theorem OkE.not {x : PySem.Expr} {p : Pos} {code : Code} (h : OkE names x (.not rest) code) : OkE names (.UnaryOp .Not x p) rest code := fun h' _ => (unary_sound (Q := fun v S' => den _ _ rest _ _ (v :: _) _ S') (f := EWs _ _ _) hEW).1 (h h')
theorem OkE.neg {x : PySem.Expr} {p : Pos} {code : Code} (h : OkE names x (.neg rest) code) : OkE names (.UnaryOp .USub x p) rest code := fun h' _ => (unary_sound (Q := fun v S' => den _ _ rest _ _ (v :: _) _ S') (f := EWs _ _ _) hEW).2 (h h')
theorem OkE.bin {l r : PySem.Expr} {op : PySem.Operator} {p : Pos} {c1 c2 : Code} (h2 : OkE names r (.bin op rest) c2) (h1 : OkE names l c2 c1) : OkE names (.BinOp l op r p) rest c1 :=
  fun h' _ => binop_sound (Q := fun v S' => den _ _ rest _ _ (v :: _) _ S') (f := EWs _ _ _) hEW ((h1 h').mono fun _ _ h => h2 h)
theorem OkE.ife {t a b : PySem.Expr} {p : Pos} {ca cb code : Code} (ha : OkE names a .done ca) (hb : OkE names b .done cb) (ht : OkT names t (.br ca cb rest) code) : OkE names (.IfExp t a b p) rest code :=
  fun h' _ => ifexp_sound (Q := fun v S' => den _ _ rest _ _ (v :: _) _ S') (f := EWs _ _ _) (g := TWs _ _ _) hEW hTW ((ht h').mono fun _ _ ⟨_, e, q1, q2⟩ => by cases e; exact ⟨fun z => ha (q1 z), fun z => hb (q2 z)⟩)
theorem OkEs.nil : OkEs names [] rest rest := fun h => ⟨rfl, h⟩
theorem OkEs.cons {e : PySem.Expr} {es : List PySem.Expr} {c1 c2 : Code} (h2 : OkEs names es rest c2) (h1 : OkE names e c2 c1) : OkEs names (e :: es) rest c1 :=
  fun h' => (h1 h').mono fun _ _ h => wpEs_mono (h2 h) fun _ _ ⟨hl, q⟩ => ⟨congrArg Nat.succ hl, by rw [List.reverse_cons, List.append_assoc]; exact q⟩
theorem OkE.call {f : Str} {fp p : Pos} {args : List PySem.Expr} {fv : Value} {code : Code} (hx : isG f names = true) (hs : args.any isStar = false) (hv : gtab f = some fv) (h : OkEs names args (.call fv args.length rest) code) :
    OkE names (.Call (.Name f fp) args [] p) rest code := by
  intro c k R K st vs S h' env
  refine call_sound (Q := fun v S' => den _ _ rest _ _ (v :: _) _ S') (f := EWs _ _ _) hEW (loc_glob _ hx) hs (c.hgl _ _ hv) (c.hkp _ _ hv) (wpEs_mono (h h') fun as S' h2 => ?_)
  obtain ⟨hl, as', st', hp, q⟩ := h2
  obtain ⟨rfl, rfl⟩ := popN_ok hp hl
  exact q
theorem OkE.meth {o : PySem.Expr} {nm : Str} {ap p : Pos} {args : List PySem.Expr} {c1 c2 : Code} (d : Bool) (hb : plainBase o = true) (hl : (ap.endLine == p.line) = true) (hs : args.any isStar = false) (hn : args.length < 20)
    (h2 : OkEs names args (.meth d nm args.length rest) c2) (h1 : OkE names o (.mchk d nm c2) c1) : OkE names (.Call (.Attribute o nm ap) args [] p) rest c1 := by
  intro c k R K st vs S h' env
  refine method_sound (Q := fun v S' => den _ _ rest _ _ (v :: _) _ S') (f := EWs _ _ _) hEW hb hl hs hn ((h1 h').mono fun ov S' h => ?_)
  obtain ⟨a, rfl, hd, q⟩ := h
  refine ⟨a, rfl, ?_⟩
  cases d
  · refine .inl ⟨hd.1, hd.2, wpEs_mono (h2 q) fun as S'' h3 => ?_⟩
    obtain ⟨hl, as', st', a', hp, q⟩ := h3
    obtain ⟨rfl, e⟩ := popN_ok hp hl
    cases e
    exact q
  · refine .inr ⟨hd.1, hd.2, wpEs_mono (h2 q) fun as S'' h3 => ?_⟩
    obtain ⟨hl, as', st', a', hp, q⟩ := h3
    obtain ⟨rfl, e⟩ := popN_ok hp hl
    cases e
    exact q
theorem OkE.slc {o : PySem.Expr} {lo hi sp : Option PySem.Expr} {l h s : Option Int} {xp p : Pos} {code : Code} (h1 : PartC lo l) (h2 : PartC hi h) (h3 : PartC sp s) (ho : OkE names o (.slc l h s rest) code) :
    OkE names (.Subscript o (.Slice lo hi sp xp) p) rest code :=
  fun h' _ => slice_sound (Q := fun v S' => den _ _ rest _ _ (v :: _) _ S') (f := EWs _ _ _) hEW ((ho h').mono fun _ _ ⟨a, xs, ys, e, hx, hy, q⟩ => ⟨a, xs, l, h, s, ys, e, hx, h1, h2, h3, hy, q⟩)
theorem InvS.noLs {β : Bas} {S : Sto} {s : Shared} {a : Addr} {es : Es} (I : InvS c β S s) (h : S.dt a = some es) : S.ls a = none := by
  obtain ⟨σ, _, e⟩ := I.rest
  cases q : S.ls a with
  | none => rfl
  | some xs => have h1 := e.ls a xs q; rw [e.dt a es h] at h1; cases h1
theorem EWs.monoI {m : Loc} {e : PySem.Expr} {Q Q' : AV → Sto → Prop} {S : Sto} (h : EWs c k m e Q S) (q : ∀ v S β s, InvS c β S s → Q v S → Q' v S) : EWs c k m e Q' S :=
  fun env A β s r F I => wpAny_mono (h env A β s r F I) (fun _ _ ⟨S', h', I'⟩ => ⟨S', q _ _ _ _ I' h', I'⟩) fun _ _ e => e
theorem OkE.sub {o i : PySem.Expr} {p : Pos} {c1 c2 : Code} (hsl : isSlice i = false) (hi : OkE names i (.sub rest) c2) (ho : OkE names o c2 c1) : OkE names (.Subscript o i p) rest c1 :=
  fun h' => EW.sub hsl ((ho h').mono fun _ _ h => (hi h).monoI fun _ S _ _ I ⟨v, h1, q⟩ => h1.elim (fun e => .inl ⟨v, e, q⟩) fun h1 => h1.elim (fun ⟨a, xs, j, e1, e2, e3, e4⟩ => .inr ⟨a, xs, v, j, e1, e2, e3, e4, q⟩)
    fun ⟨a, es, j, e1, e2, e3, e4⟩ => .inl ⟨v, by subst e1; subst e2; show S.itemAt a j = some v; unfold Sto.itemAt; rw [I.noLs e3, e3]; exact e4, q⟩)
theorem OkE.lst {es : List PySem.Expr} {p : Pos} {code : Code} (hs : es.any isStar = false) (hz : es.length ≤ 1000) (h : OkEs names es (.mkl es.length rest) code) : OkE names (.List es p) rest code :=
  fun h' _ => (disp_sound (Q := fun v S' => den _ _ rest _ _ (v :: _) _ S') (n := 0) (f := EWs _ _ _) hEW hs hz).1 (wpEs_mono (h h') fun as S' ⟨hl, as', st', hp, q⟩ => by obtain ⟨rfl, rfl⟩ := popN_ok hp hl; exact q)
theorem OkE.tup {es : List PySem.Expr} {n : Nat} {p : Pos} {code : Code} (hs : es.any isStar = false) (hz : es.length ≤ 1000) (h : OkEs names es (.mkt es.length rest) code) : OkE names (.Tuple es n p) rest code :=
  fun h' _ => (disp_sound (Q := fun v S' => den _ _ rest _ _ (v :: _) _ S') (f := EWs _ _ _) hEW hs hz).2 (wpEs_mono (h h') fun as S' ⟨hl, as', st', hp, q⟩ => by obtain ⟨rfl, rfl⟩ := popN_ok hp hl; exact q)
theorem OkE.dct {p : Pos} : OkE names (.Dict [] [] p) rest (.mkd rest) := fun h _ => TW.dictEmpty (Q := fun v S' => den _ _ rest _ _ (v :: _) _ S') h
theorem OkE.pow {i j : Int} {x y : Nat} {p q z : Pos} (hc : j ≥ 0 ∧ ¬(j == 0) = true ∧ ¬(i == 0 || i == 1) = true ∧ ¬(i == -1) = true ∧ ¬Builtin.Int.intTooBig (((Builtin.Int.intBits i : Nat) : Int) * j) = true) :
    OkE names (.BinOp (.Constant (.int i) x p) .Pow (.Constant (.int j) y q) z) rest (.cst (.int (i ^ j.toNat)) rest) := fun h' => EW.pow hc.1 hc.2.1 hc.2.2.1 hc.2.2.2.1 hc.2.2.2.2 h'
theorem OkE.cat {l r : PySem.Expr} {p : Pos} {c1 c2 : Code} (h2 : OkE names r (.lap rest) c2) (h1 : OkE names l c2 c1) : OkE names (.BinOp l .Add r p) rest c1 :=
  fun h' => EW.cat ((h1 h').mono fun _ _ h => (h2 h).mono fun _ _ q => q)
theorem OkT.dne {x : Str} {xp dp p : Pos} {i : Nat} (h : slot x names = some i) : OkT names (.Compare (.Name x xp) [.NotEq] [.Dict [] [] dp] p) rest (.ld i (.dne rest)) :=
  fun ⟨_, hv, _, _, e, hd, q⟩ _ => dict_ne_test (Q := fun b S' => den _ _ rest _ _ (.bool b :: _) _ S') (loc_get h (hv.trans (congrArg some e))) hd q
noncomputable def OkI (names : Nms) (ifs : List PySem.Expr) (code : Code) : Prop := ∀ {c : Cst} {k : Nat} {R : AV → Sto → Prop} {Q : Bool → Sto → Prop} {vs : Vs} {S : Sto},
  den c k code R (fun st _ S => ∃ b, st = [.bool b] ∧ Q b S) [] vs S → IW c k (loc names vs) ifs Q S
theorem OkI.nil : OkI names [] (.cst (.bool true) .done) := fun ⟨_, e, q⟩ => by cases e; exact IW.nil q
theorem OkI.one {e : PySem.Expr} {code : Code} (h : OkT names e .done code) : OkI names [e] code := fun h' => IW.one ((h h').mono fun _ _ ⟨_, e, q⟩ => by cases e; exact q)
theorem cmp_vs {α : Type} {R : AV → Sto → Prop} {elt : PySem.Expr} {ce : Code} {dt : (Bool → Sto → Prop) → Vs → Sto → Prop} {set : α → Loc → Loc → Prop} {setv : α → Vs → Option Vs} {P : Sto → Prop} {fin : List AV → Sto → Prop}
    {test : Loc → (Bool → Sto → Prop) → Sto → Prop} (ht : ∀ (Q Q' : Bool → Sto → Prop) vs S, dt Q vs S → (∀ b S, Q b S → Q' b S) → test (loc names vs) Q' S) (he : OkE names elt .done ce) (hs : ∀ v vs vs', setv v vs = some vs' → set v (loc names vs) (loc names vs')) :
    ∀ {l : List α} {vs : Vs} {ys : List AV} {S : Sto}, cmpD dt (fun Q vs S => den c k ce R (fun st _ S => ∃ y, st = [y] ∧ Q y S) [] vs S) setv P fin l vs ys S → compVs test (fun m Q S => EWs c k m elt Q S) set P l (loc names vs) ys fin S
  | [], _, _, _, h => h
  | _ :: _, _, _, _, ⟨h1, vs', h2, h3⟩ => ⟨h1, _, hs _ _ _ h2, ht _ _ _ _ h3 fun _ _ ⟨q1, q2⟩ => ⟨fun e => (he (q1 e)).mono fun _ _ ⟨_, e, q⟩ => by cases e; exact cmp_vs ht he hs q, fun e => cmp_vs ht he hs (q2 e)⟩⟩
theorem setN_loc {x : Str} {i : Nat} (h : cslot .local x names = some i) {v : AV} {vs vs' : Vs} (e : vs.put i v = some vs') : setN x v (loc names vs) (loc names vs') := ⟨⟨_, loc_kind rfl h⟩, loc_put (wslot_of h) e⟩
noncomputable def scOk (sc : Scope) : Bool := decide (sc.kind = .function) && sc.names.all fun y => !decide (y.2 = .local) || decide (sc.names.lookup y.1 = some .local)
theorem scOk_ok {sc : Scope} (h : scOk sc = true) : sc.kind = .function ∧ ∀ y ∈ sc.names, y.2 = .local → sc.names.lookup y.1 = some .local := by
  unfold scOk at h
  rw [Bool.and_eq_true, List.all_eq_true] at h
  refine ⟨of_decide_eq_true h.1, fun y hy e => ?_⟩
  have := h.2 y hy
  rw [decide_eq_true e] at this
  exact of_decide_eq_true this
theorem cmp_list {iter elt : PySem.Expr} {ifs : List PySem.Expr} {x : Str} {sc : Scope} {i : Nat} {sel : List (Option Nat)} {ct ce c1 : Code} {R : AV → Sto → Prop} {K : Kt} {st : List AV} {vs : Vs} {S : Sto}
    (hx : cslot .local x (relab sc.names) = some i) (hsel : selOf names sc.names = some sel) (ht : OkI (relab sc.names) ifs ct) (he : OkE (relab sc.names) elt .done ce) (hi : OkE names iter (.lcp i sel ct ce rest) c1) (h' : den c k c1 R K st vs S) :
    EWs c k (loc names vs) iter (fun v S1 => ∃ l xs, v = .ref l ∧ S1.lst l = some xs ∧ compVs (fun m Q S => IW c k m ifs Q S) (fun m Q S => EWs c k m elt Q S) (setN x) (fun S => S.lst l = some xs) xs (compM (loc names vs) sc.names) []
      (fun ys S2 => ∀ D, S2.Free D → den c k rest R K (.ref D :: st) vs (S2.setLs D ys)) S1) S :=
  (hi h').mono fun _ _ ⟨l, xs, e, hl, q⟩ => ⟨l, xs, e, hl, by
    rw [(comp_loc hsel).1]
    exact cmp_vs (dt := fun Q vs S => den c k ct R (fun st _ S => ∃ b, st = [.bool b] ∧ Q b S) [] vs S) (setv := fun v vs => vs.put i v) (test := fun m Q S => IW c k m ifs Q S) (fun _ _ _ _ h q env => (ht h env).mono q) he (fun _ _ _ => setN_loc hx) q⟩
theorem OkE.lcp {iter elt : PySem.Expr} {ifs : List PySem.Expr} {x : Str} {px p : Pos} {sc : Scope} {i : Nat} {sel : List (Option Nat)} {ct ce c1 : Code} (hs : scOk sc = true) (hf : isSetD iter = false)
    (hx : cslot .local x (relab sc.names) = some i) (hsel : selOf names sc.names = some sel) (ht : OkI (relab sc.names) ifs ct) (he : OkE (relab sc.names) elt .done ce) (hi : OkE names iter (.lcp i sel ct ce rest) c1) :
    OkE names (.ListComp elt [⟨.Name x px, iter, ifs, 0⟩] sc p) rest c1 :=
  fun h' => EW.comp (Q := fun v S' => den _ _ rest _ _ (v :: _) _ S') (fun _ _ _ h => h) (fun _ _ _ h => h) (scOk_ok hs).1 (comp_loc hsel).2 (scOk_ok hs).2 (set_fold hf) (cmp_list hx hsel ht he hi h')
theorem items_form {x : Str} {xp ap p : Pos} (hl : (ap.endLine == p.line) = true) (env : Env) : ∃ pl, eval (.Call (.Attribute (.Name x xp) (Str.ofString "items") ap) [] [] p) env = (do
      let ov ← eval (.Name x xp) env
      standAt ap.atName
      let (f, first) ← holding [ov] (getMethod ov (Str.ofString "items") pl)
      callWith p f first (backTo p (starEach [] env)) []) := by
  refine ⟨do return (← importBound (.Name x xp) env).getD true, ?_⟩
  rw [arm_eval_Call, base_plain rfl]
  have pos : ∀ {α : Type} (g : Pos → Sem α), (methodCallPos true (.Name x xp) env ap p >>= g) = g p := by
    intro α g
    unfold methodCallPos
    rw [hl]
    rfl
  have e : ∀ ov, methodCall (.Name x xp) (Str.ofString "items") ap p env ov 0 (backTo p (starEach [] env)) (backToKw p (keywordEach [] env)) = (do
      let (f, first) ← holding [ov] (getMethod ov (Str.ofString "items") (do return (← importBound (.Name x xp) env).getD true))
      callWith p f first (backTo p (starEach [] env)) []) := fun ov => by
    unfold methodCall
    rw [show methodCallForm 0 (backTo p (starEach [] env)) (backToKw p (keywordEach [] env)) = true from rfl]
    refine congrArg _ (funext fun y => ?_)
    obtain ⟨f, first⟩ := y
    exact pos _
  exact congrArg _ (funext fun ov => congrArg _ (funext fun _ => e ov))
theorem OkE.lci {elt : PySem.Expr} {x a b : Str} {xp ap pp pa pb tp p : Pos} {kk i j ix : Nat} {sc : Scope} {sel : List (Option Nat)} {ce : Code} (hs : scOk sc = true) (hsl : slot x names = some ix)
    (ha : cslot .local a (relab sc.names) = some i) (hb : cslot .local b (relab sc.names) = some j) (hsel : selOf names sc.names = some sel) (hl : (ap.endLine == pp.line) = true) (he : OkE (relab sc.names) elt .done ce) :
    OkE names (.ListComp elt [⟨.Tuple [.Name a pa, .Name b pb] kk tp, .Call (.Attribute (.Name x xp) (Str.ofString "items") ap) [] [] pp, [], 0⟩] sc p) rest (.ld ix (.lci i j sel ce rest)) := by
  intro c k R K st vs S h'
  obtain ⟨v, hv, d, es, rfl, hd, q⟩ := h'
  refine EW.compItems (Q := fun v S' => den _ _ rest _ _ (v :: _) _ S') (el := fun m Q S => EWs c k m elt Q S) (fun _ _ _ h => h) (scOk_ok hs).1 (comp_loc hsel).2 (scOk_ok hs).2 (items_form hl) (fun _ _ => rfl) (loc_get hsl hv) hd ?_
  rw [(comp_loc hsel).1]
  refine cmp_vs (test := noTest) (fun _ _ _ _ h q => q _ _ h) he (fun _ _ _ e => ?_) q
  obtain ⟨vs1, e1, e2⟩ := Option.bind_eq_some_iff.mp e
  exact ⟨_, setN_loc ha e1, setN_loc hb e2⟩
theorem OkE.lciN {nm : Str} {elt : PySem.Expr} {x a b : Str} {xp ap pp pa pb tp p : Pos} {kk i j ix : Nat} {sc : Scope} {sel : List (Option Nat)} {ce : Code} (hn : nm = Str.ofString "items") (hs : scOk sc = true) (hsl : slot x names = some ix)
    (ha : cslot .local a (relab sc.names) = some i) (hb : cslot .local b (relab sc.names) = some j) (hsel : selOf names sc.names = some sel) (hl : (ap.endLine == pp.line) = true) (he : OkE (relab sc.names) elt .done ce) :
    OkE names (.ListComp elt [⟨.Tuple [.Name a pa, .Name b pb] kk tp, .Call (.Attribute (.Name x xp) nm ap) [] [] pp, [], 0⟩] sc p) rest (.ld ix (.lci i j sel ce rest)) := by
  subst hn; exact OkE.lci hs hsl ha hb hsel hl he
theorem compVs_mono {α : Type} {elt : PySem.Expr} {ifs : List PySem.Expr} {set : α → Loc → Loc → Prop} {P : Sto → Prop} {Q Q' : List AV → Sto → Prop} : ∀ {l : List α} {m : Loc} {ys : List AV} {S : Sto}, compVs (fun m Q S => IW c k m ifs Q S) (fun m Q S => EWs c k m elt Q S) set P l m ys Q S → (∀ ys S, Q ys S → Q' ys S) →
    compVs (fun m Q S => IW c k m ifs Q S) (fun m Q S => EWs c k m elt Q S) set P l m ys Q' S
  | [], _, _, _, h, q => ⟨h.1, q _ _ h.2⟩
  | _ :: _, _, _, _, ⟨h1, m', h2, h3⟩, q => ⟨h1, m', h2, fun env => (h3 env).mono fun _ _ ⟨q1, q2⟩ => ⟨fun e => (q1 e).mono fun _ _ h => compVs_mono h q, fun e => compVs_mono (q2 e) q⟩⟩
theorem OkS.asgC {iter elt : PySem.Expr} {ifs : List PySem.Expr} {x y : Str} {px py p ps : Pos} {sc : Scope} {i j : Nat} {sel : List (Option Nat)} {ct ce c1 : Code} (hs : scOk sc = true) (hf : isSetD iter = false)
    (hx : cslot .local x (relab sc.names) = some i) (hsel : selOf names sc.names = some sel) (ht : OkI (relab sc.names) ifs ct) (he : OkE (relab sc.names) elt .done ce) (hi : OkE names iter (.lcp i sel ct ce (.sti j rest)) c1)
    (hy : cslot .local y names = some j) (hl : (py.line == p.line) = true) (hn : (sc.names.any fun p => p.1 == y && (p.2 == .local || p.2 == .cell)) = false) :
    OkS names (.Assign [.Name y py] (.ListComp elt [⟨.Name x px, iter, ifs, 0⟩] sc p) ps) rest c1 := by
  intro c k R K vs S h'
  refine XW.assignComp (test := fun m Q S => IW c k m ifs Q S) (el := fun m Q S => EWs c k m elt Q S) (fun _ _ _ h => h) (fun _ _ _ h => h) (scOk_ok hs).1 (comp_loc hsel).2 (scOk_ok hs).2 (set_fold hf) ⟨_, loc_kind rfl hy⟩ hl hn ?_
  refine (cmp_list hx hsel ht he hi h').mono fun _ _ ⟨l, xs, e, hl, q⟩ => ⟨l, xs, e, hl, ?_⟩
  have e : (fun (ys : List AV) (S2 : Sto) => ∀ D, S2.Free D → den c k (.sti j rest) R K [.ref D] vs (S2.setLs D ys)) = fun ys S2 => ∀ D, S2.Free D → ∃ vs', vs.put j (.ref D) = some vs' ∧ den c k rest R K [] vs' (S2.setLs D ys) := rfl
  rw [e] at q
  exact compVs_mono q fun ys S2 q D hD => let ⟨vs', hp, q⟩ := q D hD; ⟨_, loc_put (wslot_of hy) hp, vs', rfl, q⟩
theorem OkS.unp {ts : List PySem.Expr} {kk : Nat} {tp yp p : Pos} {y : Str} {xs : List Str} {is : List Nat} {iy : Nat} (ht : nameTgts ts = some xs) (hw : wslots names xs = some is) (hy : slot y names = some iy) : OkS names (.Assign [.Tuple ts kk tp] (.Name y yp) p) rest (.ld iy (.unp is rest)) := by
  intro c k R K vs S h'
  refine XW.assignOwn ht ((OkE.name (rest := .unp is rest) hy h').mono fun v S' ⟨a, l, vs', e, hl, hp, q⟩ => ⟨a, l, _, e, hl, ?_, putN_loc hw hp, vs', rfl, q⟩)
  obtain ⟨ps, rfl, rfl⟩ := names_each ht
  rw [← setVs_length (putN_loc hw hp), List.length_map, List.length_map]
theorem OkS.tas {ts es : List PySem.Expr} {kk k2 : Nat} {tp ep p : Pos} {xs : List Str} {is js : List Nat} {code : Code} (ht : nameTgts ts = some xs) (hlen : ts.length = es.length) (hs : es.any isStar = false) (hz : es.length ≤ 1000) (hc : es.all (constantsAlone 8) = false)
    (hw : wslots names xs = some is) (hw2 : wslots names xs.reverse = some js) (hn : is.length = es.length) (h : OkEs names es (.tas is js rest) code) : OkS names (.Assign [.Tuple ts kk tp] (.Tuple es k2 ep) p) rest code :=
  fun h' => XW.assignTup (f := EWs _ _ _) hEW ht hlen hs hz hc (wpEs_mono (h h') fun as S' ⟨hl, as', st', vs', hp, p1, p2, q⟩ => by
    obtain ⟨rfl, rfl⟩ := popN_ok hp (hl.trans hn.symm)
    exact ⟨_, putN_loc hw p1, putN_loc hw2 p2, vs', rfl, q⟩)
theorem OkS.expr {e : PySem.Expr} {p : Pos} {code : Code} (he : isComp e = false) (h : OkE names e (.pop rest) code) : OkS names (.Expr e p) rest code :=
  fun h' => XW.expr he ((h h').mono fun _ _ q => ⟨_, rfl, q⟩)
theorem OkS.ret0 {p : Pos} : OkS names (.Return none p) rest (.cst .none .ret) := fun h' _ _ _ _ _ I => wpAny_Return_none ⟨_, _, h', I⟩
theorem OkS.ret {e : PySem.Expr} {p : Pos} {code : Code} (h : OkE names e .ret code) : OkS names (.Return (some e) p) rest code :=
  fun h' env _ _ _ r I => wpAny_Return_some (wpAny_mono (I.expr r (h h' env)) (fun _ _ ⟨S', hq, I'⟩ => ⟨_, S', hq, I'⟩) fun _ _ e => e)
theorem OkS.asg {x : Str} {xp p : Pos} {v : PySem.Expr} {i : Nat} {code : Code} (hv : isComp v = false) (hw : wslot x names = some i) (h : OkE names v (.sti i rest) code) : OkS names (.Assign [.Name x xp] v p) rest code :=
  fun h' => XW.assignName hv ((h h').mono fun _ _ ⟨vs', hp, q⟩ => ⟨_, loc_put hw hp, vs', rfl, q⟩)
theorem OkS.asgA {o : PySem.Expr} {a : Str} {xp p : Pos} {v : PySem.Expr} {f : Fld} {c1 c2 : Code} (hv : isComp v = false) (hf : fldOf a = some f) (h2 : OkE names o (.sa f rest) c2) (h1 : OkE names v c2 c1) : OkS names (.Assign [.Attribute o a xp] v p) rest c1 := by
  obtain rfl := fldOf_name hf
  exact fun h' => XW.assignAttr (f := EWs _ _ _) hEW hv ((h1 h').mono fun _ _ h => (h2 h).mono fun _ _ ⟨S3, e, q⟩ => ⟨S3, e, _, rfl, q⟩)
theorem OkS.asgI {o i : PySem.Expr} {xp p : Pos} {v : PySem.Expr} {c1 c2 c3 : Code} (hv : isComp v = false) (h3 : OkE names i (.si rest) c3) (h2 : OkE names o c3 c2) (h1 : OkE names v c2 c1) : OkS names (.Assign [.Subscript o i xp] v p) rest c1 :=
  fun h' => XW.assignItem (f := EWs _ _ _) hEW hv ((h1 h').mono fun _ _ h => (h2 h).mono fun _ _ h => (h3 h).monoI fun _ _ _ _ I ⟨S3, e, q⟩ => ⟨S3, e.elim id fun ⟨a, es, j, e1, e2, e3, e4, e5⟩ => by subst e1; subst e2; subst e5; show Sto.setItemAt _ a j _ = _; unfold Sto.setItemAt; rw [I.noLs e3, e3]; exact if_pos e4, _, rfl, q⟩)
theorem OkSs.nil : OkSs names [] rest rest := fun h => ⟨_, rfl, h⟩
theorem OkSs.cons {s : Stmt} {ss : List Stmt} {c1 c2 : Code} (h2 : OkSs names ss rest c2) (h1 : OkS names s c2 c1) : OkSs names (s :: ss) rest c1 :=
  by
    intro c k R K vs S h'
    unfold wpSs
    refine XW.mono (h1 h') fun fl _ _ q => ?_
    cases fl with
    | next => obtain ⟨vs', rfl, q⟩ := q; exact h2 q
    | ret v => exact q
    | brk => exact q
    | cont => exact q
theorem xss {ss : List Stmt} {m : Loc} {Q : QS} {S : Sto} (h : wpSs (XS0 c k) ss m Q S) : XW c k (execs ss) Q m S := ss_sound (f := XS0 c k) (fun _ _ _ _ h => h) h
theorem OkS.iff {t : PySem.Expr} {a b : List Stmt} {p : Pos} {ca cb code : Code} (ha : OkSs names a .done ca) (hb : OkSs names b .done cb) (ht : OkT names t (.br ca cb rest) code) : OkS names (.If t a b p) rest code :=
  fun h' => XW.iff (g := TWs _ _ _) (f := XS0 _ _) hTW (fun _ _ _ _ h => h) ((ht h').mono fun _ _ ⟨_, e, q1, q2⟩ => by cases e; exact ⟨fun z => ha (q1 z), fun z => hb (q2 z)⟩)
theorem OkS.whl {t : PySem.Expr} {b : List Stmt} {p : Pos} {ct cb : Code} (hb : OkSs names b .done cb) (ht : OkT names t .done ct) : OkS names (.While t b [] p) rest (.whl ct cb rest) := by
  intro c k R K vs S h'
  obtain ⟨_, I, n, h0, turn⟩ := h'
  refine XW.while (fun n m S => ∃ vs, m = loc names vs ∧ I n vs S) (fun n m S hI => ?_) ⟨vs, rfl, h0⟩
  obtain ⟨vs, rfl, hI⟩ := hI
  refine (ht (turn n vs S hI)).mono fun x S' h => ?_
  obtain ⟨x', e, h1, h2⟩ := h
  cases e
  refine ⟨fun z => (xss (hb (h1 z))).mono fun fl m' S'' q => ?_, fun z => ⟨vs, rfl, h2 z⟩⟩
  cases fl with
  | next => obtain ⟨vs', rfl, n', hn, q⟩ := q; exact ⟨n', hn, vs', rfl, q⟩
  | ret v => exact q
  | brk => exact q.elim
  | cont => exact q.elim
theorem forD_vs {b : List Stmt} {cb : Code} {x : Str} {i : Nat} {P : Sto → Prop} {R : AV → Sto → Prop} {fin : Vs → Sto → Prop} (hw : wslot x names = some i) (hb : OkSs names b .done cb) : ∀ {as : List AV} {vs : Vs} {S : Sto},
    forD (fun K' vs S => den c k cb R K' [] vs S) P i fin as vs S → forVs (fun m Q S => XW c k (execs b) Q m S) x P as (loc names vs) (flq names R fin) S
  | [], vs, S, h => ⟨h.1, vs, rfl, h.2⟩
  | v :: as, vs, S, h => by
    obtain ⟨hP, vs', hp, h⟩ := h
    refine ⟨hP, _, loc_put hw hp, (xss (hb h)).mono fun fl m' S' q => ?_⟩
    cases fl with
    | next => obtain ⟨vs2, rfl, q⟩ := q; exact forD_vs hw hb q
    | ret v => exact q
    | brk => exact q.elim
    | cont => exact q.elim
theorem OkS.fort {x : Str} {xp tp p : Pos} {es : List PySem.Expr} {kk i : Nat} {b : List Stmt} {cb code : Code} (hw : wslot x names = some i) (hs : es.any isStar = false) (hz : es.length ≤ 1000) (hb : OkSs names b .done cb) (h : OkEs names es (.fort i es.length cb rest) code) :
    OkS names (.For (.Name x xp) (.Tuple es kk tp) b [] p) rest code :=
  fun h' => XW.forTup (f := EWs _ _ _) hEW (fun _ _ _ h => h) hs hz (wpEs_mono (h h') fun as S' ⟨hl, as', hp, q⟩ => by obtain ⟨rfl, _⟩ := popN_ok hp hl; exact forD_vs hw hb q)
theorem OkS.forl {x : Str} {xp p : Pos} {e : PySem.Expr} {i : Nat} {b : List Stmt} {cb code : Code} (hw : wslot x names = some i) (he : isSetD e = false) (hb : OkSs names b .done cb) (h : OkE names e (.forl i cb rest) code) :
    OkS names (.For (.Name x xp) e b [] p) rest code :=
  fun h' => XW.forList (fun _ _ _ h => h) he ((h h').mono fun _ _ ⟨l, xs, e, hl, q⟩ => by cases e; exact ⟨l, xs, rfl, hl, forD_vs hw hb q⟩)
theorem OkS.frng {x f : Str} {xp fp cp p : Pos} {e : PySem.Expr} {i : Nat} {b : List Stmt} {cb code : Code} (hw : wslot x names = some i) (hst : isStar e = false) (hx : isG f names = true) (hg : gtab f = some (.type "range")) (hb : OkSs names b .done cb) (h : OkE names e (.frng i cb rest) code) :
    OkS names (.For (.Name x xp) (.Call (.Name f fp) [e] [] cp) b [] p) rest code :=
  fun h' => XW.forRange (fun _ _ _ h => h) hst (loc_glob _ hx) (Cst.hgl _ _ _ hg) ((h h').mono fun _ _ ⟨n, e, h0, h1, q⟩ => by cases e; exact ⟨n, rfl, h0, h1, forD_vs hw hb q⟩)
end
end
section
noncomputable abbrev Res (P : Code → Prop) := Option { code : Code // P code }
mutual
noncomputable def cE : Nat → (names : Nms) → (e : PySem.Expr) → (rest : Code) → Res (OkE names e rest)
  | 0, _, _, _ => none
  | n + 1, names, e, rest => match e with
    | .Constant v _ _ => (match v with
      | .none => some ⟨_, OkE.cnone⟩
      | .bool _ => some ⟨_, OkE.cbool⟩
      | .int _ => some ⟨_, OkE.cint⟩
      | .str _ => some ⟨_, OkE.cstr⟩
      | _ => none)
    | .Name x _ => (match h : slot x names with
      | some _ => some ⟨_, OkE.name h⟩
      | none => none)
    | .Attribute o a _ => if hb : plainBase o = true then (match h : fldOf a with
      | some f => (cE n names o (.ga f rest)).map fun r => ⟨r.1, OkE.attr hb h r.2⟩
      | none => none) else none
    | .Compare l ops rs _ => (match ops, rs with
      | [op], [r] => if ho : opOk op = true then (cE n names r (.cmp op rest)).bind fun r2 => (cE n names l r2.1).map fun r1 => ⟨r1.1, OkE.cmp ho r2.2 r1.2⟩ else none
      | _, _ => none)
    | .BoolOp op es _ => (cB n names op es rest).map fun r => ⟨r.1, OkE.bool r.2⟩
    | .UnaryOp op x _ => (match op with
      | .Not => (cE n names x (.not rest)).map fun r => ⟨r.1, OkE.not r.2⟩
      | .USub => (cE n names x (.neg rest)).map fun r => ⟨r.1, OkE.neg r.2⟩
      | _ => none)
    | .ListComp elt gs sc p => (match gs with
      | [g] => (match g with
        | ⟨t, iter, ifs, a⟩ => (match a with
          | 0 => if hs : scOk sc = true then (match hsel : selOf names sc.names with
            | some sel => (match t with
              | .Name x _ => (match hx : cslot .local x (relab sc.names) with
                | some i => if hf : isSetD iter = false then (cE n (relab sc.names) elt .done).bind fun re => (cI n (relab sc.names) ifs).bind fun rt => (cE n names iter (.lcp i sel rt.1 re.1 rest)).map fun r => ⟨r.1, OkE.lcp hs hf hx hsel rt.2 re.2 r.2⟩ else none
                | none => none)
              | .Tuple ts _ _ => (match ts, ifs, iter with
                | [.Name a _, .Name b _], [], .Call f args kws pp => (match args, kws, f with
                  | [], [], .Attribute o nm ap => (match o with
                    | .Name x _ => if hn : nm = Str.ofString "items" then (match hx : slot x names, ha : cslot .local a (relab sc.names), hb : cslot .local b (relab sc.names) with
                      | some _, some _, some _ => if hl : (ap.endLine == pp.line) = true then (cE n (relab sc.names) elt .done).map fun re => ⟨_, OkE.lciN hn hs hx ha hb hsel hl re.2⟩ else none
                      | _, _, _ => none) else none
                    | _ => none)
                  | _, _, _ => none)
                | _, _, _ => none)
              | _ => none)
            | none => none) else none
          | _ => none))
      | _ => none)
    | .BinOp (.Constant (.int i) _ _) .Pow (.Constant (.int j) _ _) _ => if hc : j ≥ 0 ∧ ¬(j == 0) = true ∧ ¬(i == 0 || i == 1) = true ∧ ¬(i == -1) = true ∧ ¬Builtin.Int.intTooBig (((Builtin.Int.intBits i : Nat) : Int) * j) = true then some ⟨_, OkE.pow hc⟩ else none
    | .BinOp (.ListComp e g sc q) .Add r _ => (cE n names r (.lap rest)).bind fun r2 => (cE n names (.ListComp e g sc q) r2.1).map fun r1 => ⟨r1.1, OkE.cat r2.2 r1.2⟩
    | .BinOp l op r _ => (cE n names r (.bin op rest)).bind fun r2 => (cE n names l r2.1).map fun r1 => ⟨r1.1, OkE.bin r2.2 r1.2⟩
    | .IfExp t a b _ => (cE n names a .done).bind fun ra => (cE n names b .done).bind fun rb => (cT n names t (.br ra.1 rb.1 rest)).map fun r => ⟨r.1, OkE.ife ra.2 rb.2 r.2⟩
    | .List es _ => if h : es.any isStar = false ∧ es.length ≤ 1000 then (cEs n names es (.mkl es.length rest)).map fun r => ⟨r.1, OkE.lst h.1 h.2 r.2⟩ else none
    | .Tuple es _ _ => if h : es.any isStar = false ∧ es.length ≤ 1000 then (cEs n names es (.mkt es.length rest)).map fun r => ⟨r.1, OkE.tup h.1 h.2 r.2⟩ else none
    | .Dict ks vs _ => (match ks, vs with
      | [], [] => some ⟨_, OkE.dct⟩
      | _, _ => none)
    | .Call f args kws p => (match kws with
      | [] => (match f with
        | .Name f _ => (match hv : gtab f with
          | some fv => if h : isG f names = true ∧ args.any isStar = false then (cEs n names args (.call fv args.length rest)).map fun r => ⟨r.1, OkE.call h.1 h.2 hv r.2⟩ else none
          | none => none)
        | .Attribute o nm ap => if h : plainBase o = true ∧ (ap.endLine == p.line) = true ∧ args.any isStar = false ∧ args.length < 20 then
            let d := nm == Str.ofString "get" || (nm == Str.ofString "pop" && args.any plainBase)
            (cEs n names args (.meth d nm args.length rest)).bind fun r2 => (cE n names o (.mchk d nm r2.1)).map fun r1 => ⟨r1.1, OkE.meth d h.1 h.2.1 h.2.2.1 h.2.2.2 r2.2 r1.2⟩ else none
        | _ => none)
      | _ => none)
    | .Subscript o i _ => (match i with
      | .Slice lo hi sp _ => (match partC lo, partC hi, partC sp with
        | some l, some h, some s => (cE n names o (.slc l.1 h.1 s.1 rest)).map fun r => ⟨r.1, OkE.slc l.2 h.2 s.2 r.2⟩
        | _, _, _ => none)
      | i => if hsl : isSlice i = false then (cE n names i (.sub rest)).bind fun r2 => (cE n names o r2.1).map fun r1 => ⟨r1.1, OkE.sub hsl r2.2 r1.2⟩ else none)
    | _ => none
noncomputable def cT : Nat → (names : Nms) → (e : PySem.Expr) → (rest : Code) → Res (OkT names e rest)
  | 0, _, _, _ => none
  | n + 1, names, e, rest => match e with
    | .Compare l ops rs _ => (match ops, rs with
      | [.NotEq], [.Dict [] [] _] => (match l with
        | .Name x _ => (match h : slot x names with
          | some _ => some ⟨_, OkT.dne h⟩
          | none => none)
        | _ => none)
      | [op], [r] => if ho : opOk op = true then (cE n names r (.cmp op rest)).bind fun r2 => (cE n names l r2.1).map fun r1 => ⟨r1.1, OkT.cmp ho r2.2 r1.2⟩ else none
      | _, _ => none)
    | .BoolOp op es _ => (cA n names op es rest).map fun r => ⟨r.1, OkT.bool r.2⟩
    | .UnaryOp op x _ => (match op with
      | .Not => (cT n names x (.not rest)).map fun r => ⟨r.1, OkT.not r.2⟩
      | _ => none)
    | e => if he : plainT e = true then (cE n names e (.tb rest)).map fun r => ⟨r.1, OkT.plain he r.2⟩ else none
noncomputable def cI : Nat → (names : Nms) → (ifs : List PySem.Expr) → Res (OkI names ifs)
  | 0, _, _ => none
  | n + 1, names, ifs => match ifs with
    | [] => some ⟨_, OkI.nil⟩
    | [e] => (cT n names e .done).map fun r => ⟨r.1, OkI.one r.2⟩
    | _ => none
noncomputable def cEs : Nat → (names : Nms) → (es : List PySem.Expr) → (rest : Code) → Res (OkEs names es rest)
  | 0, _, _, _ => none
  | n + 1, names, es, rest => match es with
    | [] => some ⟨_, OkEs.nil⟩
    | e :: es => (cEs n names es rest).bind fun r2 => (cE n names e r2.1).map fun r1 => ⟨r1.1, OkEs.cons r2.2 r1.2⟩
noncomputable def cB : Nat → (names : Nms) → (op : PySem.BoolOp) → (es : List PySem.Expr) → (rest : Code) → Res (OkB names op es rest)
  | 0, _, _, _, _ => none
  | n + 1, names, op, es, rest => match es with
    | [] => none
    | [e] => (cE n names e rest).map fun r => ⟨r.1, OkB.one r.2⟩
    | e :: e2 :: es => (cB n names op (e2 :: es) .done).bind fun r2 => (cE n names e (brC op r2.1 rest)).map fun r1 => ⟨r1.1, OkB.cons r2.2 r1.2⟩
noncomputable def cA : Nat → (names : Nms) → (op : PySem.BoolOp) → (es : List PySem.Expr) → (rest : Code) → Res (OkA names op es rest)
  | 0, _, _, _, _ => none
  | n + 1, names, op, es, rest => match es with
    | [] => some ⟨_, OkA.nil⟩
    | e :: es => (cA n names op es .done).bind fun r2 => (cT n names e (brC op r2.1 rest)).map fun r1 => ⟨r1.1, OkA.cons r2.2 r1.2⟩
end
section
variable (names : Nms)
mutual
noncomputable def cS : Nat → (s : Stmt) → (rest : Code) → Res (OkS names s rest)
  | 0, _, _ => none
  | n + 1, s, rest => match s with
    | .Expr e _ => if h : isComp e = false then (cE n names e (.pop rest)).map fun r => ⟨r.1, OkS.expr h r.2⟩ else none
    | .Return o _ => (match o with
      | none => some ⟨_, OkS.ret0⟩
      | some e => (cE n names e .ret).map fun r => ⟨r.1, OkS.ret r.2⟩)
    | .Assign [.Tuple ts _ _] v _ => (match ht : nameTgts ts with
      | some xs => (match hw : wslots names xs with
        | some is => (match v with
          | .Name y _ => (match hy : slot y names with
            | some _ => some ⟨_, OkS.unp ht hw hy⟩
            | none => none)
          | .Tuple es _ _ => (match hw2 : wslots names xs.reverse with
            | some js => if hc : ts.length = es.length ∧ es.any isStar = false ∧ es.length ≤ 1000 ∧ es.all (constantsAlone 8) = false ∧ is.length = es.length then (cEs n names es (.tas is js rest)).map fun r => ⟨r.1, OkS.tas ht hc.1 hc.2.1 hc.2.2.1 hc.2.2.2.1 hw hw2 hc.2.2.2.2 r.2⟩ else none
            | none => none)
          | _ => none)
        | none => none)
      | none => none)
    | .Assign [.Name y py] (.ListComp elt [⟨.Name x _, iter, ifs, 0⟩] sc p) _ => if hs : scOk sc = true ∧ (py.line == p.line) = true ∧ (sc.names.any fun p => p.1 == y && (p.2 == .local || p.2 == .cell)) = false ∧ isSetD iter = false then
        (match hsel : selOf names sc.names, hx : cslot .local x (relab sc.names), hy : cslot .local y names with
        | some sel, some i, some j => (cE n (relab sc.names) elt .done).bind fun re => (cI n (relab sc.names) ifs).bind fun rt => (cE n names iter (.lcp i sel rt.1 re.1 (.sti j rest))).map fun r => ⟨r.1, OkS.asgC hs.1 hs.2.2.2 hx hsel rt.2 re.2 r.2 hy hs.2.1 hs.2.2.1⟩
        | _, _, _ => none) else none
    | .Assign ts v _ => if hv : isComp v = false then (match ts with
      | [t] => (match t with
        | .Name x _ => (match h : wslot x names with
          | some i => (cE n names v (.sti i rest)).map fun r => ⟨r.1, OkS.asg hv h r.2⟩
          | none => none)
        | .Attribute o a _ => (match h : fldOf a with
          | some f => (cE n names o (.sa f rest)).bind fun r2 => (cE n names v r2.1).map fun r1 => ⟨r1.1, OkS.asgA hv h r2.2 r1.2⟩
          | none => none)
        | .Subscript o i _ => (cE n names i (.si rest)).bind fun r3 => (cE n names o r3.1).bind fun r2 => (cE n names v r2.1).map fun r1 => ⟨r1.1, OkS.asgI hv r3.2 r2.2 r1.2⟩
        | _ => none)
      | _ => none) else none
    | .If t a b _ => (cSs n a .done).bind fun ra => (cSs n b .done).bind fun rb => (cT n names t (.br ra.1 rb.1 rest)).map fun r => ⟨r.1, OkS.iff ra.2 rb.2 r.2⟩
    | .While t b e _ => (match e with
      | [] => (cSs n b .done).bind fun rb => (cT n names t .done).map fun rt => ⟨_, OkS.whl rb.2 rt.2⟩
      | _ => none)
    | .For t e b o _ => (match o, t with
      | [], .Name x _ => (match h : wslot x names with
        | some i => (cSs n b .done).bind fun rb => (match e with
          | .Tuple es _ _ => if h2 : es.any isStar = false ∧ es.length ≤ 1000 then (cEs n names es (.fort i es.length rb.1 rest)).map fun r => ⟨r.1, OkS.fort h h2.1 h2.2 rb.2 r.2⟩ else none
          | .Call (.Name f _) [a] [] _ => (match hg : gtab f with
            | some (.type q) => if hq : q = "range" ∧ isStar a = false ∧ isG f names = true then (cE n names a (.frng i rb.1 rest)).map fun r => ⟨r.1, by
                obtain ⟨rfl, h1, h2⟩ := hq
                exact OkS.frng h h1 h2 hg rb.2 r.2⟩ else none
            | _ => (cE n names (.Call (.Name f _) [a] [] _) (.forl i rb.1 rest)).map fun r => ⟨r.1, OkS.forl h rfl rb.2 r.2⟩)
          | e => if he : isSetD e = false then (cE n names e (.forl i rb.1 rest)).map fun r => ⟨r.1, OkS.forl h he rb.2 r.2⟩ else none)
        | none => none)
      | _, _ => none)
    | _ => none
noncomputable def cSs : Nat → (ss : List Stmt) → (rest : Code) → Res (OkSs names ss rest)
  | 0, _, _ => none
  | n + 1, ss, rest => match ss with
    | [] => some ⟨_, OkSs.nil⟩
    | s :: ss => (cSs n ss rest).bind fun r2 => (cS n s r2.1).map fun r1 => ⟨r1.1, OkSs.cons r2.2 r1.2⟩
end
end
end
section
inductive KI where
  | sg (r : Code)
  | lp (J : Vs → Sto → Prop)
  | kv (J : List AV → Sto → Prop)
  | wt (b r : Code) (J : Vs → Sto → Prop)
  | ft (i : Nat) (b r : Code) (vals : List AV)
structure MS where
  code : Code
  ks : List KI
  st : List AV
  vs : Vs
noncomputable def denKs (c : Cst) (k : Nat) (Q : AV → Sto → Prop) : List KI → Kt
  | [], _, _, S => Q .none S
  | x :: ks, st, vs, S => match x with
    | .sg r => den c k r Q (denKs c k Q ks) st vs S
    | .lp J => J vs S
    | .kv J => J st S
    | .wt b r J => ∃ x, st = [.bool x] ∧ (x = true → den c k b Q (fun _ vs S => J vs S) [] vs S) ∧ (x = false → den c k r Q (denKs c k Q ks) [] vs S)
    | .ft i b r vals => forD (fun K' vs S => den c k b Q K' [] vs S) (fun _ => True) i (fun vs S => den c k r Q (denKs c k Q ks) [] vs S) vals vs S
noncomputable def Run (c : Cst) (k : Nat) (m : MS) (Q : AV → Sto → Prop) (S : Sto) : Prop := den c k m.code Q (denKs c k Q m.ks) m.st m.vs S
noncomputable def go (f : Bool) : Nat → Code → List KI → List AV → Vs → MS
  | 0, c, ks, st, vs => ⟨c, ks, st, vs⟩
  | n + 1, c, ks, st, vs => match c with
    | .done => (match ks with
      | [] => ⟨c, ks, st, vs⟩
      | x :: ks' => (match x with
        | .sg r => go f n r ks' st vs
        | .lp _ => ⟨c, ks, st, vs⟩
        | .kv _ => ⟨c, ks, st, vs⟩
        | .wt b r J => (match f with
          | false => ⟨c, ks, st, vs⟩
          | true => (match st with
            | [] => ⟨c, ks, st, vs⟩
            | v :: st' => (match st' with
              | _ :: _ => ⟨c, ks, st, vs⟩
              | [] => (match v with
                | .bool x => (match x with
                  | true => go f n b (.lp J :: ks') [] vs
                  | false => go f n r ks' [] vs)
                | _ => ⟨c, ks, st, vs⟩))))
        | .ft i b r vals => (match vals with
          | [] => go f n r ks' [] vs
          | v :: vals => (match vs.put i v with
            | some vs' => go f n b (.ft i b r vals :: ks') [] vs'
            | none => ⟨c, ks, st, vs⟩))))
    | .ld i r => (match vs.get i with
      | some v => go f n r ks (v :: st) vs
      | none => ⟨c, ks, st, vs⟩)
    | .cst v r => go f n r ks (v :: st) vs
    | .not r => (match st with
      | [] => ⟨c, ks, st, vs⟩
      | v :: st' => (match v with
        | .bool b => go f n r ks (.bool (!b) :: st') vs
        | _ => ⟨c, ks, st, vs⟩))
    | .neg r => (match st with
      | [] => ⟨c, ks, st, vs⟩
      | v :: st' => (match v with
        | .int i => go f n r ks (.int (-i) :: st') vs
        | _ => ⟨c, ks, st, vs⟩))
    | .tb r => (match st with
      | [] => ⟨c, ks, st, vs⟩
      | v :: st' => (match v with
        | .bool b => go f n r ks (.bool b :: st') vs
        | _ => ⟨c, ks, st, vs⟩))
    | .bin op r => (match st with
      | [] => ⟨c, ks, st, vs⟩
      | v :: st' => (match st' with
        | [] => ⟨c, ks, st, vs⟩
        | w :: st'' => (match v with
          | .int j => (match w with
            | .int i => (match binI op i j with
              | some q => go f n r ks (.int q :: st'') vs
              | none => ⟨c, ks, st, vs⟩)
            | _ => ⟨c, ks, st, vs⟩)
          | _ => ⟨c, ks, st, vs⟩)))
    | .br a b r => (match f with
      | false => ⟨c, ks, st, vs⟩
      | true => (match st with
        | [] => ⟨c, ks, st, vs⟩
        | v :: st' => (match v with
          | .bool x => (match x with
            | true => go f n a (.sg r :: ks) st' vs
            | false => go f n b (.sg r :: ks) st' vs)
          | _ => ⟨c, ks, st, vs⟩)))
    | .sti i r => (match st with
      | [] => ⟨c, ks, st, vs⟩
      | v :: st' => (match vs.put i v with
        | some vs' => go f n r ks st' vs'
        | none => ⟨c, ks, st, vs⟩))
    | .pop r => (match st with
      | [] => ⟨c, ks, st, vs⟩
      | _ :: st' => go f n r ks st' vs)
    | .fort i m b r => (match popN m st [] with
      | some x => (match x with
        | (as, st') => (match st' with
          | [] => go f n .done (.ft i b r as :: ks) [] vs
          | _ :: _ => ⟨c, ks, st, vs⟩))
      | none => ⟨c, ks, st, vs⟩)
    | _ => ⟨c, ks, st, vs⟩
section
variable {c : Cst} {k : Nat} {Q : AV → Sto → Prop} {S : Sto}
theorem go_ok {f : Bool} : ∀ {n : Nat} {code : Code} {ks : List KI} {st : List AV} {vs : Vs}, Run c k (go f n code ks st vs) Q S → Run c k ⟨code, ks, st, vs⟩ Q S
  | 0, _, _, _, _, r => r
  | n + 1, code, ks, st, vs, r => by
    cases code with
    | done =>
      cases ks with
      | nil => exact r
      | cons x ks =>
        cases x with
        | sg r' => exact go_ok (n := n) (code := r') (ks := ks) (st := st) r
        | lp J => exact r
        | kv J => exact r
        | wt b r' J =>
          cases f with
          | false => exact r
          | true =>
            cases st with
            | nil => exact r
            | cons v st =>
              cases st with
              | cons _ _ => exact r
              | nil =>
                cases v with
                | bool x => cases x <;> first | exact ⟨true, rfl, fun _ => go_ok (n := n) (code := b) (ks := .lp J :: ks) (st := []) r, nofun⟩ | exact ⟨false, rfl, nofun, fun _ => go_ok (n := n) (code := r') (ks := ks) (st := []) r⟩
                | _ => exact r
        | ft i b r' vals =>
          cases vals with
          | nil => exact ⟨trivial, go_ok (n := n) (code := r') (ks := ks) (st := []) r⟩
          | cons v vals =>
            replace r : Run c k (match vs.put i v with | some vs' => go f n b (.ft i b r' vals :: ks) [] vs' | none => ⟨.done, .ft i b r' (v :: vals) :: ks, st, vs⟩) Q S := r
            cases q : vs.put i v with
            | none => rw [q] at r; exact r
            | some vs' => rw [q] at r; exact ⟨trivial, vs', q, go_ok (n := n) (code := b) (ks := .ft i b r' vals :: ks) (st := []) r⟩
    | ld i r' =>
      replace r : Run c k (match vs.get i with | some v => go f n r' ks (v :: st) vs | none => ⟨.ld i r', ks, st, vs⟩) Q S := r
      cases q : vs.get i with
      | none => rw [q] at r; exact r
      | some v => rw [q] at r; exact ⟨v, q, go_ok (n := n) (code := r') (ks := ks) (st := v :: st) r⟩
    | cst v r' => exact go_ok (n := n) (code := r') r
    | not r' =>
      cases st with
      | nil => exact r
      | cons v st => cases v <;> first | exact ⟨_, rfl, go_ok (n := n) (code := r') (ks := ks) r⟩ | exact r
    | neg r' =>
      cases st with
      | nil => exact r
      | cons v st => cases v <;> first | exact ⟨_, rfl, go_ok (n := n) (code := r') (ks := ks) r⟩ | exact r
    | tb r' =>
      cases st with
      | nil => exact r
      | cons v st => cases v <;> first | exact ⟨_, rfl, go_ok (n := n) (code := r') (ks := ks) r⟩ | exact r
    | bin op r' =>
      cases st with
      | nil => exact r
      | cons v st =>
        cases st with
        | nil => exact r
        | cons w st =>
          cases v with
          | int j =>
            cases w with
            | int i =>
              replace r : Run c k (match binI op i j with | some q => go f n r' ks (.int q :: st) vs | none => ⟨.bin op r', ks, .int j :: .int i :: st, vs⟩) Q S := r
              cases q : binI op i j with
              | none => rw [q] at r; exact r
              | some x => rw [q] at r; exact ⟨i, j, x, rfl, rfl, q, go_ok (n := n) (code := r') (ks := ks) r⟩
            | _ => exact r
          | _ => exact r
    | br a b r' =>
      cases f with
      | false => exact r
      | true =>
        cases st with
        | nil => exact r
        | cons v st =>
          cases v with
          | bool x => cases x <;> first | exact ⟨true, rfl, fun _ => go_ok (n := n) (code := a) (ks := .sg r' :: ks) r, nofun⟩ | exact ⟨false, rfl, nofun, fun _ => go_ok (n := n) (code := b) (ks := .sg r' :: ks) r⟩
          | _ => exact r
    | sti i r' =>
      cases st with
      | nil => exact r
      | cons v st =>
        replace r : Run c k (match vs.put i v with | some vs' => go f n r' ks st vs' | none => ⟨.sti i r', ks, v :: st, vs⟩) Q S := r
        cases q : vs.put i v with
        | none => rw [q] at r; exact r
        | some vs' => rw [q] at r; exact ⟨vs', q, go_ok (n := n) (code := r') (ks := ks) r⟩
    | pop r' =>
      cases st with
      | nil => exact r
      | cons v st => exact go_ok (n := n) (code := r') r
    | fort i m b r' =>
      replace r : Run c k (match popN m st [] with | some x => (match x with | (as, st') => (match st' with | [] => go f n .done (.ft i b r' as :: ks) [] vs | _ :: _ => ⟨.fort i m b r', ks, st, vs⟩)) | none => ⟨.fort i m b r', ks, st, vs⟩) Q S := r
      cases q : popN m st [] with
      | none => rw [q] at r; exact r
      | some x =>
        rw [q] at r
        obtain ⟨as, st'⟩ := x
        cases st' with
        | cons _ _ => exact r
        | nil => exact ⟨as, q, go_ok (n := n) (code := .done) (ks := .ft i b r' as :: ks) (st := []) r⟩
    | _ => exact r
noncomputable def us : Nat → Vs
  | 0 => .nil
  | n + 1 => .s none (us n)
noncomputable def vsOf : List AV → Nat → Vs
  | [], n => us n
  | v :: l, n => .s (some v) (vsOf l n)
noncomputable def Fn (f : Addr) (np nl : Nat) (code : Code) : Prop := ∀ (c : Cst) (k : Nat) (args : List AV) (Q : AV → Sto → Prop) (S : Sto), args.length = np → Run c k ⟨code, [], [], vsOf args nl⟩ Q S → CW c (k + 1) (.ref f) args Q S
noncomputable def FnC (f : Addr) (np nl : Nat) (code : Code) : Prop := ∀ (c : Cst) (k : Nat) (args : List AV) (Q : AV → Sto → Prop) (S : Sto), args.length = np → Run c k ⟨code, [], [], vsOf args nl⟩ Q S → CC c (k + 1) (.ref f) args Q S
theorem fn_body {names : Nms} {n : Nat} {body : List Stmt} {code : Code} {vs : Vs} (hc : (cSs names n body .done).map Subtype.val = some code) (h : Run c k ⟨code, [], [], vs⟩ Q S) : XW c k (execs body) (retQ Q) (loc names vs) S := by
  cases q : cSs names n body .done with
  | none => rw [q] at hc; cases hc
  | some r =>
    rw [q] at hc
    obtain ⟨code', ok⟩ := r
    cases hc
    refine (xss (ok h)).mono fun fl m' S' q => ?_
    cases fl with
    | next => obtain ⟨_, _, q⟩ := q; exact q
    | ret v => exact q
    | brk => exact q.elim
    | cont => exact q.elim
end
end
section
theorem fn_intro {f : Addr} {oc : Value} {od : Option Addr} {osl : Array (Option Value)} {name qual : Str} {params : Arguments} {body : List Stmt} {scope : Scope} {dV kV doc pm cdv ct : Value} {an : Option Addr} {xs : List Str} {np nl n : Nat} {code : Code}
    (ho : ∀ P, (KF P).lookup f = some ⟨oc, od, .func (fnOf name qual params body scope dV kV doc pm an cdv ct), osl⟩) (hcd : ∀ P, codeIn (KF P) cdv qual = true)
    (hbind : ∀ vs : List Value, vs.length = np → bindArgs (fnOf name qual params body scope dV kV doc pm an cdv ct) ⟨vs, []⟩ = pure (xs.zip vs))
    (hk : scope.kind = .function) (hco : scope.isCoroutine = false) (hgen : scope.isGenerator = false) (hnm : (scope.names.map (·.1)).Nodup) (hok : (scope.names.all okName) = true)
    (hloc : (xs.all (okLoc scope)) = true) (hnd : xs.Nodup) (hxl : xs.length = np)
    (hm : ∀ args : List AV, args.length = np → initM scope.names (xs.zip args) = loc scope.names (vsOf args nl))
    (hc : (cSs scope.names n body .done).map Subtype.val = some code) : Fn f np nl code := fun c k args Q S ha h =>
  call_funC (ho c.w.params) (hcd c.w.params) (fun vs e => hbind vs (e.trans ha)) hk hco hgen hnm hok hloc hnd (hxl.trans ha.symm) (hm args ha) (fn_body hc h)
theorem fnC_intro {f : Addr} {oc : Value} {od : Option Addr} {osl : Array (Option Value)} {name qual : Str} {params : Arguments} {body : List Stmt} {scope : Scope} {dV kV doc pm cdv ct : Value} {an : Option Addr} {xs : List Str} {np nl n : Nat} {code : Code}
    (ho : ∀ P, (KF P).lookup f = some ⟨oc, od, .func (fnOf name qual params body scope dV kV doc pm an cdv ct), osl⟩) (hcd : ∀ P, codeIn (KF P) cdv qual = true)
    (hbind : ∀ vs : List Value, vs.length = np → bindArgs (fnOf name qual params body scope dV kV doc pm an cdv ct) ⟨vs, []⟩ = pure (xs.zip vs))
    (hk : scope.kind = .function) (hco : scope.isCoroutine = false) (hgen : scope.isGenerator = false) (hnm : (scope.names.map (·.1)).Nodup) (hok : (scope.names.all okName) = true)
    (hloc : (xs.all (okLoc scope)) = true) (hnd : xs.Nodup) (hxl : xs.length = np)
    (hm : ∀ args : List AV, args.length = np → initM scope.names (xs.zip args) = loc scope.names (vsOf args nl))
    (hc : (cSs scope.names n body .done).map Subtype.val = some code) : FnC f np nl code := fun c k args Q S ha h =>
  call_funCC (ho c.w.params) (hcd c.w.params) (fun vs e => hbind vs (e.trans ha)) hk hco hgen hnm hok hloc hnd (hxl.trans ha.symm) (hm args ha) (fn_body hc h)
theorem ln1 {α : Type} {P : List α → Prop} (h : ∀ a, P [a]) : ∀ l : List α, l.length = 1 → P l
  | [a], _ => h a
theorem ln2 {α : Type} {P : List α → Prop} (h : ∀ a b, P [a, b]) : ∀ l : List α, l.length = 2 → P l
  | [a, b], _ => h a b
theorem ln3 {α : Type} {P : List α → Prop} (h : ∀ a b c, P [a, b, c]) : ∀ l : List α, l.length = 3 → P l
  | [a, b, c], _ => h a b c
theorem ln6 {α : Type} {P : List α → Prop} (h : ∀ a b c d e f, P [a, b, c, d, e, f]) : ∀ l : List α, l.length = 6 → P l
  | [a, b, c, d, e, f], _ => h a b c d e f
theorem ln4 {α : Type} {P : List α → Prop} (h : ∀ a b c d, P [a, b, c, d]) : ∀ l : List α, l.length = 4 → P l
  | [a, b, c, d], _ => h a b c d
example (P : Params) (h : PySem.Challenge.rw_ok0065_01 = PySem.Challenge.rw_ok0065_01) : nsIn (KF P) mainGlobals "hand_down" = some (some (.ref 63)) := by
  revert h
  k_fill
  intro _
  k_is
local macro_rules | `(tactic| walk_at "fn") => `(tactic| (
  · k_is
  · first | exact ln1 fun _ => rfl | exact ln2 fun _ _ => rfl | exact ln3 fun _ _ _ => rfl | exact ln4 fun _ _ _ _ => rfl | exact ln6 fun _ _ _ _ _ _ => rfl
  · rfl
  · rfl
  · rfl
  · decide
  · decide
  · decide
  · decide
  · rfl
  · first | (refine ln1 fun _ => ?_; kernel_rfl) | (refine ln2 fun _ _ => ?_; kernel_rfl) | (refine ln3 fun _ _ _ => ?_; kernel_rfl) | (refine ln4 fun _ _ _ _ => ?_; kernel_rfl) | (refine ln6 fun _ _ _ _ _ _ => ?_; kernel_rfl)
  · kernel_rfl))
noncomputable def c63 : Code := .ld 0 <| .ga .off <| .cst (.int 0) <| .cmp .Eq <| .br (.cst .none <| .ret) .done <| .ld 0 <| .ga .bgn <| .ld 0 <| .ga .off <| .bin .Add <| .ld 0 <| .sa .bgn <| .ld 0 <| .ga .en <| .ld 0 <| .ga .off <| .bin .Add <| .ld 0 <| .sa .en <| .ld 0 <| .ga .lim <| .ld 0 <| .ga .off <| .bin .Add <| .ld 0 <| .sa .lim <| .ld 0 <| .ga .lft <| .ld 0 <| .ga .rgt <| .fort 1 2 (.ld 1 <| .cst .none <| .cmp .IsNot <| .br (.ld 1 <| .ga .off <| .ld 0 <| .ga .off <| .bin .Add <| .ld 1 <| .sa .off <| .done) .done <| .done) <| .cst (.int 0) <| .ld 0 <| .sa .off <| .done
theorem f63 : Fn 63 1 1 c63 := by
  refine fn_intro (xs := ["node"]) (n := 80) (fun P => by show List.lookup 63 (KF P) = _; k_is) (fun P => ?_) ?_ ?_ ?_ ?_ ?_ ?_ ?_ ?_ ?_ ?_ ?_
  walk_at "fn"
noncomputable def c70 : Code := .mkl 0 <| .sti 1 <| .whl (.ld 0 <| .cst .none <| .cmp .IsNot <| .done) (.ld 1 <| .mchk false "append" <| .ld 0 <| .meth false "append" 1 <| .pop <| .ld 0 <| .ga .prn <| .sti 0 <| .done) <| .ld 1 <| .slc none none (some (-1)) <| .forl 2 (.ld 2 <| .call (.ref 63) 1 <| .pop <| .done) <| .done
theorem f70 : Fn 70 1 2 c70 := by
  refine fn_intro (xs := ["node"]) (n := 80) (fun P => by show List.lookup 70 (KF P) = _; k_is) (fun P => ?_) ?_ ?_ ?_ ?_ ?_ ?_ ?_ ?_ ?_ ?_ ?_
  walk_at "fn"
noncomputable def c77 : Code := .ld 0 <| .ga .en <| .sti 1 <| .ld 0 <| .ga .lft <| .ld 0 <| .ga .rgt <| .fort 2 2 (.ld 2 <| .cst .none <| .cmp .IsNot <| .br (.ld 1 <| .ld 2 <| .ga .lim <| .ld 2 <| .ga .off <| .bin .Add <| .call (.builtin "max") 2 <| .sti 1 <| .done) .done <| .done) <| .ld 1 <| .ret
theorem f77 : Fn 77 1 2 c77 := by
  refine fn_intro (xs := ["node"]) (n := 80) (fun P => by show List.lookup 77 (KF P) = _; k_is) (fun P => ?_) ?_ ?_ ?_ ?_ ?_ ?_ ?_ ?_ ?_ ?_ ?_
  walk_at "fn"
noncomputable def c84 : Code := .whl (.ld 0 <| .cst .none <| .cmp .IsNot <| .done) (.ld 0 <| .call (.ref 77) 1 <| .sti 1 <| .ld 1 <| .ld 0 <| .ga .lim <| .cmp .Eq <| .br (.cst .none <| .ret) .done <| .ld 1 <| .ld 0 <| .sa .lim <| .ld 0 <| .ga .prn <| .sti 0 <| .done) <| .done
theorem f84 : Fn 84 1 1 c84 := by
  refine fn_intro (xs := ["node"]) (n := 80) (fun P => by show List.lookup 84 (KF P) = _; k_is) (fun P => ?_) ?_ ?_ ?_ ?_ ?_ ?_ ?_ ?_ ?_ ?_ ?_
  walk_at "fn"
noncomputable def c91 : Code := .ld 1 <| .cst .none <| .cmp .Is <| .br (.ld 3 <| .ld 0 <| .sa .root <| .done) (.ld 1 <| .ga .lft <| .ld 2 <| .cmp .Is <| .br (.ld 3 <| .ld 1 <| .sa .lft <| .done) (.ld 3 <| .ld 1 <| .sa .rgt <| .done) <| .done) <| .ld 3 <| .cst .none <| .cmp .IsNot <| .br (.ld 1 <| .ld 3 <| .sa .prn <| .done) .done <| .done
theorem f91 : Fn 91 4 0 c91 := by
  refine fn_intro (xs := ["tree", "parent", "node", "other"]) (n := 80) (fun P => by show List.lookup 91 (KF P) = _; k_is) (fun P => ?_) ?_ ?_ ?_ ?_ ?_ ?_ ?_ ?_ ?_ ?_ ?_
  walk_at "fn"
noncomputable def c98 : Code := .ld 1 <| .ga .rgt <| .sti 2 <| .ld 1 <| .call (.ref 63) 1 <| .pop <| .ld 2 <| .call (.ref 63) 1 <| .pop <| .ld 2 <| .ga .lft <| .ld 1 <| .sa .rgt <| .ld 2 <| .ga .lft <| .cst .none <| .cmp .IsNot <| .br (.ld 1 <| .ld 2 <| .ga .lft <| .sa .prn <| .done) .done <| .ld 0 <| .ld 1 <| .ga .prn <| .ld 1 <| .ld 2 <| .call (.ref 91) 4 <| .pop <| .ld 1 <| .ld 2 <| .sa .lft <| .ld 2 <| .ld 1 <| .sa .prn <| .ld 1 <| .call (.ref 77) 1 <| .ld 1 <| .sa .lim <| .ld 2 <| .call (.ref 77) 1 <| .ld 2 <| .sa .lim <| .done
theorem f98 : Fn 98 2 1 c98 := by
  refine fn_intro (xs := ["tree", "node"]) (n := 80) (fun P => by show List.lookup 98 (KF P) = _; k_is) (fun P => ?_) ?_ ?_ ?_ ?_ ?_ ?_ ?_ ?_ ?_ ?_ ?_
  walk_at "fn"
noncomputable def c105 : Code := .ld 1 <| .ga .lft <| .sti 2 <| .ld 1 <| .call (.ref 63) 1 <| .pop <| .ld 2 <| .call (.ref 63) 1 <| .pop <| .ld 2 <| .ga .rgt <| .ld 1 <| .sa .lft <| .ld 2 <| .ga .rgt <| .cst .none <| .cmp .IsNot <| .br (.ld 1 <| .ld 2 <| .ga .rgt <| .sa .prn <| .done) .done <| .ld 0 <| .ld 1 <| .ga .prn <| .ld 1 <| .ld 2 <| .call (.ref 91) 4 <| .pop <| .ld 1 <| .ld 2 <| .sa .rgt <| .ld 2 <| .ld 1 <| .sa .prn <| .ld 1 <| .call (.ref 77) 1 <| .ld 1 <| .sa .lim <| .ld 2 <| .call (.ref 77) 1 <| .ld 2 <| .sa .lim <| .done
theorem f105 : Fn 105 2 1 c105 := by
  refine fn_intro (xs := ["tree", "node"]) (n := 80) (fun P => by show List.lookup 105 (KF P) = _; k_is) (fun P => ?_) ?_ ?_ ?_ ?_ ?_ ?_ ?_ ?_ ?_ ?_ ?_
  walk_at "fn"
noncomputable def c112 : Code := .ld 0 <| .cst .none <| .cmp .IsNot <| .br (.ld 0 <| .ga .red <| .done) (.cst (.bool false) <| .done) <| .ret
theorem f112 : Fn 112 1 0 c112 := by
  refine fn_intro (xs := ["node"]) (n := 80) (fun P => by show List.lookup 112 (KF P) = _; k_is) (fun P => ?_) ?_ ?_ ?_ ?_ ?_ ?_ ?_ ?_ ?_ ?_ ?_
  walk_at "fn"
noncomputable def c119 : Code := .whl (.ld 1 <| .ga .prn <| .call (.ref 112) 1 <| .tb <| .done) (.ld 1 <| .ga .prn <| .sti 2 <| .ld 2 <| .ga .prn <| .sti 3 <| .ld 3 <| .ga .lft <| .ld 2 <| .cmp .Is <| .sti 4 <| .ld 4 <| .tb <| .br (.ld 3 <| .ga .rgt <| .done) (.ld 3 <| .ga .lft <| .done) <| .sti 5 <| .ld 5 <| .call (.ref 112) 1 <| .tb <| .br (.cst (.bool false) <| .ld 2 <| .sa .red <| .cst (.bool false) <| .ld 5 <| .sa .red <| .cst (.bool true) <| .ld 3 <| .sa .red <| .ld 3 <| .sti 1 <| .done) (.ld 0 <| .ld 1 <| .ld 4 <| .call (.ref 126) 3 <| .sti 1 <| .cst (.bool false) <| .ld 1 <| .ga .prn <| .sa .red <| .cst (.bool true) <| .ld 3 <| .sa .red <| .ld 4 <| .tb <| .br (.ld 0 <| .ld 3 <| .call (.ref 105) 2 <| .pop <| .done) (.ld 0 <| .ld 3 <| .call (.ref 98) 2 <| .pop <| .done) <| .done) <| .done) <| .cst (.bool false) <| .ld 0 <| .ga .root <| .sa .red <| .done
theorem f119 : Fn 119 2 4 c119 := by
  refine fn_intro (xs := ["tree", "node"]) (n := 80) (fun P => by show List.lookup 119 (KF P) = _; k_is) (fun P => ?_) ?_ ?_ ?_ ?_ ?_ ?_ ?_ ?_ ?_ ?_ ?_
  walk_at "fn"
noncomputable def c126 : Code := .ld 1 <| .ga .prn <| .sti 3 <| .ld 2 <| .tb <| .br (.ld 3 <| .ga .rgt <| .ld 1 <| .cmp .Is <| .br (.cst (.bool true) <| .done) (.cst (.bool false) <| .done) <| .done) (.cst (.bool false) <| .done) <| .br (.ld 0 <| .ld 3 <| .call (.ref 98) 2 <| .pop <| .ld 3 <| .ret) .done <| .ld 2 <| .tb <| .not <| .br (.ld 3 <| .ga .lft <| .ld 1 <| .cmp .Is <| .br (.cst (.bool true) <| .done) (.cst (.bool false) <| .done) <| .done) (.cst (.bool false) <| .done) <| .br (.ld 0 <| .ld 3 <| .call (.ref 105) 2 <| .pop <| .ld 3 <| .ret) .done <| .ld 1 <| .ret
theorem f126 : Fn 126 3 1 c126 := by
  refine fn_intro (xs := ["tree", "node", "is_left"]) (n := 80) (fun P => by show List.lookup 126 (KF P) = _; k_is) (fun P => ?_) ?_ ?_ ?_ ?_ ?_ ?_ ?_ ?_ ?_ ?_ ?_
  walk_at "fn"
noncomputable def c133 : Code := .ld 0 <| .ga .cnt <| .cst (.int 1) <| .bin .Add <| .ld 0 <| .sa .cnt <| .cst .none <| .ld 1 <| .sa .lft <| .cst .none <| .ld 1 <| .sa .rgt <| .cst .none <| .ld 1 <| .sa .prn <| .cst (.int 0) <| .ld 1 <| .sa .off <| .ld 1 <| .ga .en <| .ld 1 <| .sa .lim <| .ld 0 <| .ga .root <| .cst .none <| .cmp .Is <| .br (.cst (.bool false) <| .ld 1 <| .sa .red <| .ld 1 <| .ld 0 <| .sa .root <| .cst .none <| .ret) .done <| .ld 0 <| .ga .root <| .sti 2 <| .cst .none <| .sti 3 <| .cst (.bool false) <| .sti 4 <| .whl (.ld 2 <| .cst .none <| .cmp .IsNot <| .done) (.ld 2 <| .call (.ref 63) 1 <| .pop <| .ld 2 <| .ga .lim <| .ld 1 <| .ga .en <| .call (.builtin "max") 2 <| .ld 2 <| .sa .lim <| .ld 2 <| .sti 3 <| .ld 1 <| .ga .bgn <| .ld 2 <| .ga .bgn <| .cmp .LtE <| .sti 4 <| .ld 4 <| .tb <| .br (.ld 2 <| .ga .lft <| .done) (.ld 2 <| .ga .rgt <| .done) <| .sti 2 <| .done) <| .ld 3 <| .ld 1 <| .sa .prn <| .ld 4 <| .tb <| .br (.ld 1 <| .ld 3 <| .sa .lft <| .done) (.ld 1 <| .ld 3 <| .sa .rgt <| .done) <| .cst (.bool true) <| .ld 1 <| .sa .red <| .ld 0 <| .ld 1 <| .call (.ref 119) 2 <| .pop <| .done
theorem f133 : Fn 133 2 3 c133 := by
  refine fn_intro (xs := ["tree", "node"]) (n := 80) (fun P => by show List.lookup 133 (KF P) = _; k_is) (fun P => ?_) ?_ ?_ ?_ ?_ ?_ ?_ ?_ ?_ ?_ ?_ ?_
  walk_at "fn"
noncomputable def c140 : Code := .ld 0 <| .call (.ref 63) 1 <| .pop <| .whl (.ld 0 <| .ga .lft <| .cst .none <| .cmp .IsNot <| .done) (.ld 0 <| .ga .lft <| .sti 0 <| .ld 0 <| .call (.ref 63) 1 <| .pop <| .done) <| .ld 0 <| .ret
theorem f140 : Fn 140 1 0 c140 := by
  refine fn_intro (xs := ["node"]) (n := 80) (fun P => by show List.lookup 140 (KF P) = _; k_is) (fun P => ?_) ?_ ?_ ?_ ?_ ?_ ?_ ?_ ?_ ?_ ?_ ?_
  walk_at "fn"
noncomputable def c147 : Code := .ld 0 <| .ld 1 <| .ga .prn <| .ld 1 <| .ld 2 <| .call (.ref 91) 4 <| .pop <| .ld 1 <| .ga .lft <| .ld 2 <| .sa .lft <| .ld 1 <| .ga .rgt <| .ld 2 <| .sa .rgt <| .ld 1 <| .ga .red <| .ld 2 <| .sa .red <| .ld 2 <| .ga .lft <| .ld 2 <| .ga .rgt <| .fort 3 2 (.ld 3 <| .cst .none <| .cmp .IsNot <| .br (.ld 2 <| .ld 3 <| .sa .prn <| .done) .done <| .done) <| .ld 2 <| .call (.ref 77) 1 <| .ld 2 <| .sa .lim <| .done
theorem f147 : Fn 147 3 1 c147 := by
  refine fn_intro (xs := ["tree", "node", "other"]) (n := 80) (fun P => by show List.lookup 147 (KF P) = _; k_is) (fun P => ?_) ?_ ?_ ?_ ?_ ?_ ?_ ?_ ?_ ?_ ?_ ?_
  walk_at "fn"
noncomputable def c154b : Code := .ld 4 <| .sti 6 <| .whl (.ld 6 <| .cst .none <| .cmp .IsNot <| .done) (.ld 6 <| .call (.ref 77) 1 <| .ld 6 <| .sa .lim <| .ld 6 <| .ga .prn <| .sti 6 <| .done) <| .ld 5 <| .tb <| .not <| .br (.ld 0 <| .ld 3 <| .ld 4 <| .call (.ref 161) 3 <| .pop <| .done) .done <| .cst .none <| .ld 1 <| .sa .lft <| .cst .none <| .ld 1 <| .sa .rgt <| .cst .none <| .ld 1 <| .sa .prn <| .done
noncomputable def c154 : Code := .ld 0 <| .ga .cnt <| .cst (.int 1) <| .bin .Sub <| .ld 0 <| .sa .cnt <| .ld 1 <| .call (.ref 70) 1 <| .pop <| .ld 1 <| .sti 2 <| .ld 1 <| .ga .lft <| .cst .none <| .cmp .IsNot <| .br (.ld 1 <| .ga .rgt <| .cst .none <| .cmp .IsNot <| .br (.cst (.bool true) <| .done) (.cst (.bool false) <| .done) <| .done) (.cst (.bool false) <| .done) <| .br (.ld 1 <| .ga .rgt <| .call (.ref 140) 1 <| .sti 2 <| .done) .done <| .ld 2 <| .ga .lft <| .cst .none <| .cmp .IsNot <| .br (.ld 2 <| .ga .lft <| .done) (.ld 2 <| .ga .rgt <| .done) <| .sti 3 <| .ld 2 <| .ga .prn <| .sti 4 <| .ld 2 <| .ga .red <| .sti 5 <| .ld 0 <| .ld 4 <| .ld 2 <| .ld 3 <| .call (.ref 91) 4 <| .pop <| .ld 2 <| .ld 1 <| .cmp .IsNot <| .br (.ld 0 <| .ld 1 <| .ld 2 <| .call (.ref 147) 3 <| .pop <| .ld 4 <| .ld 1 <| .cmp .Is <| .br (.ld 2 <| .done) (.ld 4 <| .done) <| .sti 4 <| .done) .done <| c154b
theorem f154 : Fn 154 2 5 c154 := by
  refine fn_intro (xs := ["tree", "node"]) (n := 80) (fun P => by show List.lookup 154 (KF P) = _; k_is) (fun P => ?_) ?_ ?_ ?_ ?_ ?_ ?_ ?_ ?_ ?_ ?_ ?_
  walk_at "fn"
noncomputable def c161 : Code := .whl (.ld 1 <| .ld 0 <| .ga .root <| .cmp .IsNot <| .br (.ld 1 <| .call (.ref 112) 1 <| .tb <| .not <| .br (.cst (.bool true) <| .done) (.cst (.bool false) <| .done) <| .done) (.cst (.bool false) <| .done) <| .done) (.ld 2 <| .ga .lft <| .ld 1 <| .cmp .Is <| .sti 3 <| .ld 0 <| .ld 1 <| .ld 2 <| .ld 3 <| .call (.ref 182) 4 <| .sti 1 <| .ld 1 <| .cst .none <| .cmp .Is <| .br (.cst .none <| .ret) .done <| .ld 1 <| .ga .prn <| .sti 2 <| .done) <| .ld 1 <| .cst .none <| .cmp .IsNot <| .br (.cst (.bool false) <| .ld 1 <| .sa .red <| .done) .done <| .done
theorem f161 : Fn 161 3 1 c161 := by
  refine fn_intro (xs := ["tree", "node", "parent"]) (n := 80) (fun P => by show List.lookup 161 (KF P) = _; k_is) (fun P => ?_) ?_ ?_ ?_ ?_ ?_ ?_ ?_ ?_ ?_ ?_ ?_
  walk_at "fn"
noncomputable def c168 : Code := .ld 1 <| .tb <| .br (.ld 0 <| .ga .rgt <| .done) (.ld 0 <| .ga .lft <| .done) <| .ret
theorem f168 : Fn 168 2 0 c168 := by
  refine fn_intro (xs := ["parent", "is_left"]) (n := 80) (fun P => by show List.lookup 168 (KF P) = _; k_is) (fun P => ?_) ?_ ?_ ?_ ?_ ?_ ?_ ?_ ?_ ?_ ?_ ?_
  walk_at "fn"
noncomputable def c175 : Code := .ld 2 <| .tb <| .br (.ld 0 <| .ld 1 <| .call (.ref 98) 2 <| .pop <| .done) (.ld 0 <| .ld 1 <| .call (.ref 105) 2 <| .pop <| .done) <| .done
theorem f175 : Fn 175 3 0 c175 := by
  refine fn_intro (xs := ["tree", "node", "is_left"]) (n := 80) (fun P => by show List.lookup 175 (KF P) = _; k_is) (fun P => ?_) ?_ ?_ ?_ ?_ ?_ ?_ ?_ ?_ ?_ ?_ ?_
  walk_at "fn"
noncomputable def c182c : Code := .ld 2 <| .ga .red <| .ld 4 <| .sa .red <| .cst (.bool false) <| .ld 2 <| .sa .red <| .cst (.bool false) <| .ld 5 <| .sa .red <| .ld 0 <| .ld 2 <| .ld 3 <| .call (.ref 175) 3 <| .pop <| .cst .none <| .ret
noncomputable def c182b : Code := .ld 3 <| .tb <| .br (.ld 4 <| .ga .rgt <| .done) (.ld 4 <| .ga .lft <| .done) <| .sti 5 <| .ld 3 <| .tb <| .br (.ld 4 <| .ga .lft <| .done) (.ld 4 <| .ga .rgt <| .done) <| .sti 6 <| .ld 5 <| .call (.ref 112) 1 <| .tb <| .not <| .br (.ld 6 <| .call (.ref 112) 1 <| .tb <| .not <| .br (.cst (.bool true) <| .done) (.cst (.bool false) <| .done) <| .done) (.cst (.bool false) <| .done) <| .br (.cst (.bool true) <| .ld 4 <| .sa .red <| .ld 2 <| .ga .red <| .tb <| .br (.cst (.bool true) <| .done) (.ld 2 <| .ld 0 <| .ga .root <| .cmp .Is <| .br (.cst (.bool true) <| .done) (.cst (.bool false) <| .done) <| .done) <| .br (.cst (.bool false) <| .ld 2 <| .sa .red <| .cst .none <| .ret) .done <| .ld 2 <| .ret) .done <| .ld 5 <| .call (.ref 112) 1 <| .tb <| .not <| .br (.cst (.bool false) <| .ld 6 <| .sa .red <| .cst (.bool true) <| .ld 4 <| .sa .red <| .ld 0 <| .ld 4 <| .ld 3 <| .not <| .call (.ref 175) 3 <| .pop <| .ld 2 <| .ld 3 <| .call (.ref 168) 2 <| .sti 4 <| .ld 3 <| .tb <| .br (.ld 4 <| .ga .rgt <| .done) (.ld 4 <| .ga .lft <| .done) <| .sti 5 <| .done) .done <| c182c
noncomputable def c182 : Code := .ld 2 <| .ld 3 <| .call (.ref 168) 2 <| .sti 4 <| .ld 4 <| .call (.ref 112) 1 <| .tb <| .br (.cst (.bool false) <| .ld 4 <| .sa .red <| .cst (.bool true) <| .ld 2 <| .sa .red <| .ld 0 <| .ld 2 <| .ld 3 <| .call (.ref 175) 3 <| .pop <| .ld 2 <| .ld 3 <| .call (.ref 168) 2 <| .sti 4 <| .done) .done <| c182b
theorem f182 : Fn 182 4 3 c182 := by
  refine fn_intro (xs := ["tree", "node", "parent", "is_left"]) (n := 80) (fun P => by show List.lookup 182 (KF P) = _; k_is) (fun P => ?_) ?_ ?_ ?_ ?_ ?_ ?_ ?_ ?_ ?_ ?_ ?_
  walk_at "fn"
noncomputable def c189b : Code := .whl (.ld 3 <| .cst .none <| .cmp .IsNot <| .done) (.ld 3 <| .call (.ref 63) 1 <| .pop <| .ld 2 <| .mchk false "append" <| .ld 3 <| .meth false "append" 1 <| .pop <| .ld 3 <| .ga .lft <| .sti 3 <| .done) <| .ld 2 <| .mchk false "pop" <| .meth false "pop" 0 <| .sti 3 <| .ld 1 <| .mchk false "append" <| .ld 3 <| .meth false "append" 1 <| .pop <| .ld 3 <| .ga .rgt <| .sti 3 <| .done
noncomputable def c189 : Code := .mkl 0 <| .sti 1 <| .mkl 0 <| .sti 2 <| .ld 0 <| .ga .root <| .sti 3 <| .whl (.ld 3 <| .cst .none <| .cmp .IsNot <| .br (.cst (.bool true) <| .done) (.ld 2 <| .call (.builtin "len") 1 <| .cst (.int 0) <| .cmp .Gt <| .br (.cst (.bool true) <| .done) (.cst (.bool false) <| .done) <| .done) <| .done) c189b <| .ld 1 <| .ret
theorem f189 : Fn 189 1 3 c189 := by
  refine fn_intro (xs := ["tree"]) (n := 80) (fun P => by show List.lookup 189 (KF P) = _; k_is) (fun P => ?_) ?_ ?_ ?_ ?_ ?_ ?_ ?_ ?_ ?_ ?_ ?_
  walk_at "fn"
noncomputable def c196b : Code := .whl (.ld 5 <| .cst .none <| .cmp .IsNot <| .done) (.ld 5 <| .call (.ref 63) 1 <| .pop <| .ld 5 <| .ga .lim <| .ld 1 <| .cmp .Lt <| .br (.cst .none <| .sti 5 <| .done) (.ld 4 <| .mchk false "append" <| .ld 5 <| .meth false "append" 1 <| .pop <| .ld 5 <| .ga .lft <| .sti 5 <| .done) <| .done) <| .ld 4 <| .call (.builtin "len") 1 <| .cst (.int 0) <| .cmp .Gt <| .br (.ld 4 <| .mchk false "pop" <| .meth false "pop" 0 <| .sti 5 <| .ld 5 <| .ga .bgn <| .ld 2 <| .cmp .LtE <| .br (.ld 5 <| .ga .en <| .ld 1 <| .cmp .GtE <| .br (.cst (.bool true) <| .done) (.cst (.bool false) <| .done) <| .done) (.cst (.bool false) <| .done) <| .br (.ld 3 <| .mchk false "append" <| .ld 5 <| .meth false "append" 1 <| .pop <| .done) .done <| .ld 5 <| .ga .bgn <| .ld 2 <| .cmp .LtE <| .br (.ld 5 <| .ga .rgt <| .done) (.cst .none <| .done) <| .sti 5 <| .done) .done <| .done
noncomputable def c196 : Code := .mkl 0 <| .sti 3 <| .mkl 0 <| .sti 4 <| .ld 0 <| .ga .root <| .sti 5 <| .whl (.ld 5 <| .cst .none <| .cmp .IsNot <| .br (.cst (.bool true) <| .done) (.ld 4 <| .call (.builtin "len") 1 <| .cst (.int 0) <| .cmp .Gt <| .br (.cst (.bool true) <| .done) (.cst (.bool false) <| .done) <| .done) <| .done) c196b <| .ld 3 <| .ret
theorem f196 : Fn 196 3 3 c196 := by
  refine fn_intro (xs := ["tree", "begin", "end"]) (n := 80) (fun P => by show List.lookup 196 (KF P) = _; k_is) (fun P => ?_) ?_ ?_ ?_ ?_ ?_ ?_ ?_ ?_ ?_ ?_ ?_
  walk_at "fn"
noncomputable def c203 : Code := .ld 0 <| .ga .bgn <| .ld 1 <| .cmp .NotEq <| .br (.cst (.bool false) <| .ret) .done <| .ld 2 <| .tb <| .br (.cst (.bool true) <| .ret) .done <| .ld 0 <| .ga .fr <| .br (.ld 0 <| .ga .bgn <| .ld 0 <| .ga .en <| .cmp .NotEq <| .br (.cst (.bool true) <| .done) (.ld 0 <| .ga .re <| .done) <| .done) (.cst (.bool false) <| .done) <| .ret
theorem f203 : Fn 203 3 0 c203 := by
  refine fn_intro (xs := ["node", "at", "before_markers"]) (n := 80) (fun P => by show List.lookup 203 (KF P) = _; k_is) (fun P => ?_) ?_ ?_ ?_ ?_ ?_ ?_ ?_ ?_ ?_ ?_ ?_
  walk_at "fn"
noncomputable def c210 : Code := .ld 0 <| .ga .en <| .ld 1 <| .cmp .Gt <| .br (.cst (.bool true) <| .done) (.ld 0 <| .ga .en <| .ld 1 <| .cmp .Eq <| .br (.ld 2 <| .br (.cst (.bool true) <| .done) (.ld 0 <| .ga .re <| .done) <| .done) (.cst (.bool false) <| .done) <| .done) <| .ret
theorem f210 : Fn 210 3 0 c210 := by
  refine fn_intro (xs := ["node", "at", "before_markers"]) (n := 80) (fun P => by show List.lookup 210 (KF P) = _; k_is) (fun P => ?_) ?_ ?_ ?_ ?_ ?_ ?_ ?_ ?_ ?_ ?_ ?_
  walk_at "fn"
noncomputable def c215e : Code := .ld 4 <| .ga .bgn <| .ld 2 <| .bin .Add <| .ld 4 <| .sa .bgn <| .ld 0 <| .ld 4 <| .call (.ref 133) 2 <| .pop <| .done
noncomputable def c215d : Code := .br (.ld 4 <| .ga .en <| .ld 2 <| .bin .Add <| .ld 4 <| .sa .en <| .done) .done <| c215e
noncomputable def c215b : Code := .ld 4 <| .ga .en <| .ld 1 <| .cmp .NotEq <| .br (.cst (.bool true) <| .done) (.ld 4 <| .ga .re <| .tb <| .br (.cst (.bool true) <| .done) (.ld 3 <| .tb <| .br (.cst (.bool true) <| .done) (.cst (.bool false) <| .done) <| .done) <| .done) <| c215d
noncomputable def c215 : Code := .ld 2 <| .cst (.int 0) <| .cmp .LtE <| .br (.cst .none <| .ret) .done <| .ld 0 <| .ld 1 <| .ld 1 <| .call (.ref 196) 3 <| .lcp 1 [none, none, some 1, some 3] (.ld 1 <| .ld 2 <| .ld 3 <| .call (.ref 203) 3 <| .tb <| .done) (.ld 1 <| .done) <| .sti 5 <| .ld 5 <| .forl 4 (.ld 0 <| .ld 4 <| .call (.ref 154) 2 <| .pop <| .done) <| .ld 0 <| .ld 1 <| .ld 2 <| .ld 3 <| .call (.ref 222) 4 <| .pop <| .ld 5 <| .forl 4 (c215b) <| .done
theorem f215 : Fn 215 4 2 c215 := by
  refine fn_intro (xs := ["tree", "at", "many", "before_markers"]) (n := 80) (fun P => by show List.lookup 215 (KF P) = _; k_is) (fun P => ?_) ?_ ?_ ?_ ?_ ?_ ?_ ?_ ?_ ?_ ?_ ?_
  walk_at "fn"
noncomputable def c222t : Code := .ld 4 <| .mchk false "append" <| .ld 5 <| .ga .lft <| .meth false "append" 1 <| .pop <| .ld 5 <| .ga .bgn <| .ld 1 <| .cmp .Gt <| .br (.ld 5 <| .ga .bgn <| .ld 2 <| .bin .Add <| .ld 5 <| .sa .bgn <| .done) .done <| .ld 5 <| .ld 1 <| .ld 3 <| .call (.ref 210) 3 <| .tb <| .br (.ld 5 <| .ga .en <| .ld 2 <| .bin .Add <| .ld 5 <| .sa .en <| .done) .done <| .ld 5 <| .call (.ref 84) 1 <| .pop <| .done
noncomputable def c222 : Code := .ld 0 <| .ga .root <| .mkl 1 <| .sti 4 <| .whl (.ld 4 <| .call (.builtin "len") 1 <| .cst (.int 0) <| .cmp .Gt <| .done) (.ld 4 <| .mchk false "pop" <| .meth false "pop" 0 <| .sti 5 <| .ld 5 <| .cst .none <| .cmp .IsNot <| .br (.ld 5 <| .call (.ref 63) 1 <| .pop <| .ld 5 <| .ga .lim <| .ld 1 <| .cmp .GtE <| .br (.ld 5 <| .ga .rgt <| .cst .none <| .cmp .IsNot <| .br (.ld 5 <| .ga .bgn <| .ld 1 <| .cmp .Gt <| .br (.cst (.bool true) <| .done) (.cst (.bool false) <| .done) <| .done) (.cst (.bool false) <| .done) <| .br (.ld 5 <| .ga .rgt <| .ga .off <| .ld 2 <| .bin .Add <| .ld 5 <| .ga .rgt <| .sa .off <| .done) (.ld 4 <| .mchk false "append" <| .ld 5 <| .ga .rgt <| .meth false "append" 1 <| .pop <| .done) <| c222t) .done <| .done) .done <| .done) <| .done
theorem f222 : Fn 222 4 2 c222 := by
  refine fn_intro (xs := ["tree", "at", "many", "before_markers"]) (n := 80) (fun P => by show List.lookup 222 (KF P) = _; k_is) (fun P => ?_) ?_ ?_ ?_ ?_ ?_ ?_ ?_ ?_ ?_ ?_ ?_
  walk_at "fn"
noncomputable def c229t : Code := .ld 3 <| .mchk false "append" <| .ld 4 <| .ga .lft <| .meth false "append" 1 <| .pop <| .ld 4 <| .ga .bgn <| .ld 1 <| .cmp .Gt <| .br (.ld 1 <| .ld 4 <| .ga .bgn <| .ld 2 <| .bin .Sub <| .call (.builtin "max") 2 <| .ld 4 <| .sa .bgn <| .done) .done <| .ld 4 <| .ga .en <| .ld 1 <| .cmp .Gt <| .br (.ld 1 <| .ld 4 <| .ga .en <| .ld 2 <| .bin .Sub <| .call (.builtin "max") 2 <| .ld 4 <| .sa .en <| .done) .done <| .ld 4 <| .call (.ref 84) 1 <| .pop <| .done
noncomputable def c229 : Code := .ld 2 <| .cst (.int 0) <| .cmp .LtE <| .br (.cst .none <| .ret) .done <| .ld 0 <| .ga .root <| .mkl 1 <| .sti 3 <| .whl (.ld 3 <| .call (.builtin "len") 1 <| .cst (.int 0) <| .cmp .Gt <| .done) (.ld 3 <| .mchk false "pop" <| .meth false "pop" 0 <| .sti 4 <| .ld 4 <| .cst .none <| .cmp .IsNot <| .br (.ld 4 <| .call (.ref 63) 1 <| .pop <| .ld 4 <| .ga .lim <| .ld 1 <| .cmp .Gt <| .br (.ld 4 <| .ga .rgt <| .cst .none <| .cmp .IsNot <| .br (.ld 4 <| .ga .bgn <| .ld 1 <| .ld 2 <| .bin .Add <| .cmp .Gt <| .br (.cst (.bool true) <| .done) (.cst (.bool false) <| .done) <| .done) (.cst (.bool false) <| .done) <| .br (.ld 4 <| .ga .rgt <| .ga .off <| .ld 2 <| .bin .Sub <| .ld 4 <| .ga .rgt <| .sa .off <| .done) (.ld 3 <| .mchk false "append" <| .ld 4 <| .ga .rgt <| .meth false "append" 1 <| .pop <| .done) <| c229t) .done <| .done) .done <| .done) <| .done
theorem f229 : Fn 229 3 2 c229 := by
  refine fn_intro (xs := ["tree", "at", "many"]) (n := 80) (fun P => by show List.lookup 229 (KF P) = _; k_is) (fun P => ?_) ?_ ?_ ?_ ?_ ?_ ?_ ?_ ?_ ?_ ?_ ?_
  walk_at "fn"
noncomputable def c236 : Code := .ld 0 <| .ga .lft <| .cst .none <| .cmp .IsNot <| .br (.ld 1 <| .mchk true "get" <| .ld 0 <| .ga .lft <| .ga .num <| .cst (.int 0) <| .meth true "get" 2 <| .done) (.cst (.int 0) <| .done) <| .sti 2 <| .ld 0 <| .ga .rgt <| .cst .none <| .cmp .IsNot <| .br (.ld 1 <| .mchk true "get" <| .ld 0 <| .ga .rgt <| .ga .num <| .cst (.int 0) <| .meth true "get" 2 <| .done) (.cst (.int 0) <| .done) <| .sti 3 <| .ld 2 <| .cst (.int 0) <| .cmp .Lt <| .br (.cst (.bool true) <| .done) (.ld 2 <| .ld 3 <| .cmp .NotEq <| .br (.cst (.bool true) <| .done) (.cst (.bool false) <| .done) <| .done) <| .br (.cst (.int 1) <| .neg <| .ret) .done <| .ld 0 <| .ga .red <| .tb <| .br (.ld 2 <| .done) (.ld 2 <| .cst (.int 1) <| .bin .Add <| .done) <| .ret
theorem f236 : Fn 236 2 2 c236 := by
  refine fn_intro (xs := ["node", "heights"]) (n := 80) (fun P => by show List.lookup 236 (KF P) = _; k_is) (fun P => ?_) ?_ ?_ ?_ ?_ ?_ ?_ ?_ ?_ ?_ ?_ ?_
  walk_at "fn"
noncomputable def c243 : Code := .mkl 0 <| .sti 1 <| .ld 0 <| .ga .root <| .mkl 1 <| .sti 2 <| .whl (.ld 2 <| .call (.builtin "len") 1 <| .cst (.int 0) <| .cmp .Gt <| .done) (.ld 2 <| .mchk false "pop" <| .meth false "pop" 0 <| .sti 3 <| .ld 3 <| .cst .none <| .cmp .IsNot <| .br (.ld 3 <| .call (.ref 63) 1 <| .pop <| .ld 1 <| .mchk false "append" <| .ld 3 <| .meth false "append" 1 <| .pop <| .ld 2 <| .mchk false "append" <| .ld 3 <| .ga .lft <| .meth false "append" 1 <| .pop <| .ld 2 <| .mchk false "append" <| .ld 3 <| .ga .rgt <| .meth false "append" 1 <| .pop <| .done) .done <| .done) <| .ld 1 <| .slc none none (some (-1)) <| .ret
theorem f243 : Fn 243 1 3 c243 := by
  refine fn_intro (xs := ["tree"]) (n := 80) (fun P => by show List.lookup 243 (KF P) = _; k_is) (fun P => ?_) ?_ ?_ ?_ ?_ ?_ ?_ ?_ ?_ ?_ ?_ ?_
  walk_at "fn"
noncomputable def c250 : Code := .ld 0 <| .ga .lft <| .ld 0 <| .ga .rgt <| .fort 1 2 (.ld 1 <| .cst .none <| .cmp .IsNot <| .br (.ld 1 <| .ga .prn <| .ld 0 <| .cmp .IsNot <| .br (.cst (.str "parent") <| .ret) .done <| .ld 0 <| .ga .red <| .tb <| .br (.ld 1 <| .ga .red <| .tb <| .br (.cst (.bool true) <| .done) (.cst (.bool false) <| .done) <| .done) (.cst (.bool false) <| .done) <| .br (.cst (.str "red") <| .ret) .done <| .done) .done <| .done) <| .ld 0 <| .ga .lft <| .cst .none <| .cmp .IsNot <| .br (.ld 0 <| .ga .lft <| .ga .bgn <| .ld 0 <| .ga .bgn <| .cmp .Gt <| .br (.cst (.bool true) <| .done) (.cst (.bool false) <| .done) <| .done) (.cst (.bool false) <| .done) <| .br (.cst (.str "order") <| .ret) .done <| .ld 0 <| .ga .rgt <| .cst .none <| .cmp .IsNot <| .br (.ld 0 <| .ga .rgt <| .ga .bgn <| .ld 0 <| .ga .bgn <| .cmp .Lt <| .br (.cst (.bool true) <| .done) (.cst (.bool false) <| .done) <| .done) (.cst (.bool false) <| .done) <| .br (.cst (.str "order") <| .ret) .done <| .ld 0 <| .ga .lim <| .ld 0 <| .call (.ref 77) 1 <| .cmp .NotEq <| .br (.cst (.str "limit") <| .done) (.cst .none <| .done) <| .ret
theorem f250 : Fn 250 1 1 c250 := by
  refine fn_intro (xs := ["node"]) (n := 80) (fun P => by show List.lookup 250 (KF P) = _; k_is) (fun P => ?_) ?_ ?_ ?_ ?_ ?_ ?_ ?_ ?_ ?_ ?_ ?_
  walk_at "fn"
noncomputable def c257 : Code := .mkd <| .sti 1 <| .ld 0 <| .call (.ref 243) 1 <| .sti 2 <| .ld 2 <| .call (.builtin "len") 1 <| .ld 0 <| .ga .cnt <| .cmp .NotEq <| .br (.cst (.str "count") <| .ret) .done <| .ld 2 <| .forl 3 (.ld 3 <| .call (.ref 250) 1 <| .sti 4 <| .ld 4 <| .cst .none <| .cmp .IsNot <| .br (.ld 4 <| .ret) .done <| .ld 3 <| .ld 1 <| .call (.ref 236) 2 <| .ld 1 <| .ld 3 <| .ga .num <| .si <| .ld 1 <| .ld 3 <| .ga .num <| .sub <| .cst (.int 0) <| .cmp .Lt <| .br (.cst (.str "height") <| .ret) .done <| .done) <| .ld 0 <| .ga .root <| .cst .none <| .cmp .IsNot <| .br (.ld 0 <| .ga .root <| .ga .red <| .tb <| .br (.cst (.bool true) <| .done) (.ld 0 <| .ga .root <| .ga .prn <| .cst .none <| .cmp .IsNot <| .br (.cst (.bool true) <| .done) (.cst (.bool false) <| .done) <| .done) <| .br (.cst (.bool true) <| .done) (.cst (.bool false) <| .done) <| .done) (.cst (.bool false) <| .done) <| .br (.cst (.str "root") <| .done) (.cst .none <| .done) <| .ret
theorem f257 : Fn 257 1 4 c257 := by
  refine fn_intro (xs := ["tree"]) (n := 80) (fun P => by show List.lookup 257 (KF P) = _; k_is) (fun P => ?_) ?_ ?_ ?_ ?_ ?_ ?_ ?_ ?_ ?_ ?_ ?_
  walk_at "fn"
noncomputable def c262 : Code := .ld 0 <| .slc none (some (16)) none <| .lcp 1 [none, none] (.cst (.bool true) <| .done) (.ld 1 <| .call (.builtin "abs") 1 <| .cst (.int 1000000000000000000000000000000) <| .bin .Mod <| .done) <| .ret
theorem f262 : Fn 262 1 0 c262 := by
  refine fn_intro (xs := ["script"]) (n := 80) (fun P => by show List.lookup 262 (KF P) = _; k_is) (fun P => ?_) ?_ ?_ ?_ ?_ ?_ ?_ ?_ ?_ ?_ ?_ ?_
  walk_at "fn"
noncomputable def c269 : Code := .whl (.ld 0 <| .mkl 0 <| .cmp .NotEq <| .br (.ld 0 <| .cst (.int 0) <| .sub <| .cst (.int 0) <| .cmp .Eq <| .br (.cst (.bool true) <| .done) (.cst (.bool false) <| .done) <| .done) (.cst (.bool false) <| .done) <| .done) (.ld 0 <| .mchk false "pop" <| .cst (.int 0) <| .meth false "pop" 1 <| .pop <| .done) <| .ld 0 <| .mkl 0 <| .cmp .Eq <| .br (.cst (.int 0) <| .ret) .done <| .ld 0 <| .cst (.int 0) <| .sub <| .ld 1 <| .bin .Mod <| .sti 2 <| .ld 0 <| .cst (.int 0) <| .sub <| .ld 1 <| .bin .FloorDiv <| .ld 0 <| .cst (.int 0) <| .si <| .ld 2 <| .ret
theorem f269 : Fn 269 2 1 c269 := by
  refine fn_intro (xs := ["deck", "many"]) (n := 80) (fun P => by show List.lookup 269 (KF P) = _; k_is) (fun P => ?_) ?_ ?_ ?_ ?_ ?_ ?_ ?_ ?_ ?_ ?_ ?_
  walk_at "fn"
noncomputable def c276c : Code := .sti 9 <| .ld 8 <| .tb <| .br (.ld 4 <| .ld 2 <| .bin .Add <| .done) (.ld 4 <| .done) <| .ld 9 <| .tb <| .br (.ld 5 <| .ld 2 <| .bin .Add <| .done) (.ld 5 <| .done) <| .ld 6 <| .ld 7 <| .mkl 4 <| .ret
noncomputable def c276b : Code := .sti 8 <| .ld 5 <| .ld 1 <| .cmp .Gt <| .br (.cst (.bool true) <| .done) (.ld 5 <| .ld 1 <| .cmp .Eq <| .br (.ld 3 <| .br (.cst (.bool true) <| .done) (.ld 7 <| .done) <| .done) (.cst (.bool false) <| .done) <| .done) <| c276c
noncomputable def c276 : Code := .ld 0 <| .unp [4, 5, 6, 7] <| .ld 4 <| .ld 1 <| .cmp .Gt <| .br (.cst (.bool true) <| .done) (.ld 4 <| .ld 1 <| .cmp .Eq <| .br (.ld 3 <| .br (.cst (.bool true) <| .done) (.ld 6 <| .br (.ld 4 <| .ld 5 <| .cmp .Lt <| .br (.cst (.bool true) <| .done) (.ld 7 <| .done) <| .done) (.cst (.bool false) <| .done) <| .done) <| .done) (.cst (.bool false) <| .done) <| .done) <| c276b
theorem f276 : Fn 276 4 6 c276 := by
  refine fn_intro (xs := ["own", "at", "many", "is_ahead"]) (n := 80) (fun P => by show List.lookup 276 (KF P) = _; k_is) (fun P => ?_) ?_ ?_ ?_ ?_ ?_ ?_ ?_ ?_ ?_ ?_ ?_
  walk_at "fn"
noncomputable def c281 : Code := .ld 0 <| .slc none (some (2)) none <| .lcp 1 [none, none, some 1, some 2] (.cst (.bool true) <| .done) (.ld 1 <| .ld 2 <| .cmp .LtE <| .br (.ld 1 <| .done) (.ld 2 <| .ld 1 <| .ld 3 <| .bin .Sub <| .call (.builtin "max") 2 <| .done) <| .done) <| .ld 0 <| .slc (some (2)) none none <| .lap <| .ret
theorem f281 : Fn 281 3 0 c281 := by
  refine fn_intro (xs := ["own", "at", "many"]) (n := 80) (fun P => by show List.lookup 281 (KF P) = _; k_is) (fun P => ?_) ?_ ?_ ?_ ?_ ?_ ?_ ?_ ?_ ?_ ?_ ?_
  walk_at "fn"
noncomputable def c286 : Code := .ld 0 <| .cst (.int 20) <| .call (.ref 269) 2 <| .sti 3 <| .ld 3 <| .ld 0 <| .cst (.int 4) <| .call (.ref 269) 2 <| .bin .Add <| .sti 4 <| .ld 1 <| .ld 3 <| .ld 4 <| .call (.ref 196) 3 <| .lcp 1 [none, none] (.cst (.bool true) <| .done) (.ld 1 <| .ga .num <| .done) <| .sti 5 <| .ld 5 <| .call (.builtin "sorted") 1 <| .ld 2 <| .call (.builtin "sorted") 1 <| .lcp 1 [none, none, some 3, some 4, some 2] (.ld 4 <| .ld 1 <| .sub <| .cst (.int 0) <| .sub <| .ld 3 <| .cmp .LtE <| .br (.ld 4 <| .ld 1 <| .sub <| .cst (.int 1) <| .sub <| .ld 2 <| .cmp .GtE <| .br (.cst (.bool true) <| .done) (.cst (.bool false) <| .done) <| .done) (.cst (.bool false) <| .done) <| .done) (.ld 1 <| .done) <| .cmp .Eq <| .ret
theorem f286 : Fn 286 3 3 c286 := by
  refine fn_intro (xs := ["deck", "tree", "lies"]) (n := 80) (fun P => by show List.lookup 286 (KF P) = _; k_is) (fun P => ?_) ?_ ?_ ?_ ?_ ?_ ?_ ?_ ?_ ?_ ?_ ?_
  walk_at "fn"
noncomputable def cAsk : Code := .ld 1 <| .ld 2 <| .ld 4 <| .call (.ref 286) 3 <| .tb <| .not <| .br (.cst (.bool false) <| .ret) .done <| .done
noncomputable def cGoneB : Code := .ld 4 <| .ld 11 <| .sub <| .ld 7 <| .ld 8 <| .call (.ref 281) 3 <| .ld 4 <| .ld 11 <| .si <| .done
noncomputable def cGone : Code := .ld 4 <| .call (.builtin "sorted") 1 <| .forl 11 cGoneB <| .done
noncomputable def cClose : Code := .ld 2 <| .ld 7 <| .ld 8 <| .call (.ref 229) 3 <| .pop <| cGone
noncomputable def cCameB : Code := .ld 4 <| .ld 11 <| .sub <| .ld 7 <| .ld 8 <| .ld 12 <| .call (.ref 276) 4 <| .ld 4 <| .ld 11 <| .si <| .done
noncomputable def cCame : Code := .ld 4 <| .call (.builtin "sorted") 1 <| .forl 11 cCameB <| .done
noncomputable def cOpen : Code := .ld 1 <| .cst (.int 3) <| .call (.ref 269) 2 <| .cst (.int 2) <| .cmp .Eq <| .sti 12 <| .ld 2 <| .ld 7 <| .ld 8 <| .ld 12 <| .call (.ref 215) 4 <| .pop <| .ld 8 <| .cst (.int 0) <| .cmp .Gt <| .br cCame .done <| .done
noncomputable def cLate : Code := .ld 6 <| .cst (.int 5) <| .cmp .Lt <| .br cOpen (.ld 6 <| .cst (.int 5) <| .cmp .Eq <| .br cClose cAsk <| .done) <| .done
noncomputable def cDrop : Code := .ld 4 <| .call (.builtin "sorted") 1 <| .ld 1 <| .ld 4 <| .call (.builtin "len") 1 <| .call (.ref 269) 2 <| .sub <| .sti 11 <| .ld 2 <| .ld 3 <| .lcp 1 [none, none, some 11] (.ld 1 <| .ga .num <| .ld 2 <| .cmp .Eq <| .done) (.ld 1 <| .done) <| .cst (.int 0) <| .sub <| .call (.ref 154) 2 <| .pop <| .ld 4 <| .mchk true "pop" <| .ld 11 <| .meth true "pop" 1 <| .pop <| .done
noncomputable def cPut : Code := .ld 1 <| .cst (.int 2) <| .call (.ref 269) 2 <| .cst (.int 1) <| .cmp .Eq <| .ld 1 <| .cst (.int 2) <| .call (.ref 269) 2 <| .cst (.int 1) <| .cmp .Eq <| .tas [9, 10] [10, 9] <| .ld 3 <| .mchk false "append" <| .ld 5 <| .ld 7 <| .ld 7 <| .ld 8 <| .bin .Add <| .ld 9 <| .ld 10 <| .call (.ref 31) 5 <| .meth false "append" 1 <| .pop <| .ld 7 <| .ld 7 <| .ld 8 <| .bin .Add <| .ld 9 <| .ld 10 <| .mkl 4 <| .ld 4 <| .ld 5 <| .si <| .ld 2 <| .ld 3 <| .cst (.int 1) <| .neg <| .sub <| .call (.ref 133) 2 <| .pop <| .done
noncomputable def cRest : Code := .ld 6 <| .cst (.int 2) <| .cmp .Eq <| .br (.ld 4 <| .dne <| .br (.cst (.bool true) <| .done) (.cst (.bool false) <| .done) <| .done) (.cst (.bool false) <| .done) <| .br cDrop cLate <| .done
noncomputable def cWay : Code := .ld 6 <| .cst (.int 2) <| .cmp .Lt <| .br (.cst (.bool true) <| .done) (.ld 5 <| .cst (.int 3) <| .cmp .Lt <| .br (.cst (.bool true) <| .done) (.cst (.bool false) <| .done) <| .done) <| .br cPut cRest <| .done
noncomputable def cLap : Code := .ld 1 <| .cst (.int 7) <| .call (.ref 269) 2 <| .ld 1 <| .cst (.int 16) <| .call (.ref 269) 2 <| .ld 1 <| .cst (.int 4) <| .call (.ref 269) 2 <| .tas [6, 7, 8] [8, 7, 6] <| cWay
noncomputable def cRet : Code := .ld 13 <| .lcp 1 [none, none] (.cst (.bool true) <| .done) (.ld 1 <| .cst (.int 0) <| .sub <| .done) <| .ld 13 <| .lcp 1 [none, none] (.cst (.bool true) <| .done) (.ld 1 <| .cst (.int 0) <| .sub <| .done) <| .call (.builtin "sorted") 1 <| .cmp .Eq <| .br (.ld 2 <| .call (.ref 257) 1 <| .cst .none <| .cmp .Is <| .done) (.cst (.bool false) <| .done) <| .ret
noncomputable def cSame : Code := .ld 13 <| .call (.builtin "sorted") 1 <| .ld 4 <| .lci 1 2 [none, none, none] (.ld 2 <| .cst (.int 0) <| .sub <| .ld 2 <| .cst (.int 1) <| .sub <| .ld 1 <| .mkt 3 <| .done) <| .call (.builtin "sorted") 1 <| .cmp .NotEq <| .br (.cst (.bool false) <| .ret) .done <| cRet
noncomputable def cEnd : Code := .ld 2 <| .call (.ref 189) 1 <| .lcp 1 [none, none] (.cst (.bool true) <| .done) (.ld 1 <| .ga .bgn <| .ld 1 <| .ga .en <| .ld 1 <| .ga .num <| .mkt 3 <| .done) <| .sti 13 <| cSame
noncomputable def cLaw : Code := .ld 0 <| .call (.ref 262) 1 <| .sti 1 <| .call (.ref 52) 0 <| .mkl 0 <| .mkd <| .tas [2, 3, 4] [4, 3, 2] <| .cst (.int 4) <| .ld 1 <| .cst (.int 9) <| .call (.ref 269) 2 <| .bin .Add <| .frng 5 cLap <| cEnd
noncomputable def c49 : Code := .cst .none <| .ld 0 <| .sa .root <| .cst (.int 0) <| .ld 0 <| .sa .cnt <| .done
theorem f49 : FnC 49 1 0 c49 := by
  refine fnC_intro (xs := ["self"]) (n := 80) (fun P => by show List.lookup 49 (KF P) = _; k_is) (fun P => ?_) ?_ ?_ ?_ ?_ ?_ ?_ ?_ ?_ ?_ ?_ ?_
  walk_at "fn"
noncomputable def c28 : Code := .ld 1 <| .ld 0 <| .sa .num <| .ld 2 <| .ld 0 <| .sa .bgn <| .ld 3 <| .ld 0 <| .sa .en <| .ld 4 <| .ld 0 <| .sa .fr <| .ld 5 <| .ld 0 <| .sa .re <| .ld 3 <| .ld 0 <| .sa .lim <| .cst (.int 0) <| .ld 0 <| .sa .off <| .cst (.bool false) <| .ld 0 <| .sa .red <| .cst .none <| .ld 0 <| .sa .lft <| .cst .none <| .ld 0 <| .sa .rgt <| .cst .none <| .ld 0 <| .sa .prn <| .done
theorem f28 : FnC 28 6 0 c28 := by
  refine fnC_intro (xs := ["self", "number", "begin", "end", "front_advance", "rear_advance"]) (n := 80) (fun P => by show List.lookup 28 (KF P) = _; k_is) (fun P => ?_) ?_ ?_ ?_ ?_ ?_ ?_ ?_ ?_ ?_ ?_ ?_
  walk_at "fn"
end
section
structure Rc where
  K : Int
  o : Int
  d : D
  c : Bool
  lim : Int
  l : Option Addr
  r : Option Addr
  p : Option Addr
noncomputable def Rc.nr (x : Rc) : NodeRec := mkR x.K x.o x.d x.c x.lim x.l x.r x.p
structure Fc where
  S0 : Sto
  A : Addr → Prop
  tr : Addr
structure Xc where
  h : Option Addr
  M : Option (Option Int)
  K : Int
  n : Int
  C : Cx
noncomputable def rt : Cx → Option Addr → Option Addr
  | [], h => h
  | g :: _, _ => some g.a
noncomputable def IsSp (nd : Nd) : Option Addr → Cx → Option Addr → Prop
  | _, [], _ => True
  | p, g :: D, h => (∃ lim, nd g.a = some (mkR 0 0 g.d g.red lim (rt D h) g.sib.root p)) ∧ IsT nd (some g.a) 0 g.sib ∧ IsSp nd (some g.a) D h
theorem IsSp.congr {nd nd' : Nd} : ∀ {D : Cx} {p h : Option Addr}, IsSp nd p D h → (∀ a ∈ D.ad, nd' a = nd a) → IsSp nd' p D h
  | [], _, _, _, _ => trivial
  | g :: D, p, h, ⟨⟨lim, x⟩, y, z⟩, k => ⟨⟨lim, (k _ List.mem_cons_self).trans x⟩, y.congr fun b hb => k b (List.mem_cons_of_mem _ (List.mem_append_left _ hb)), z.congr fun b hb => k b (List.mem_cons_of_mem _ (List.mem_append_right _ hb))⟩
theorem IsSp.got {nd : Nd} : ∀ {D : Cx} {p h : Option Addr}, IsSp nd p D h → ∀ {a : Addr}, a ∈ D.ad → ∃ r, nd a = some r
  | [], _, _, _, _, k => by cases k
  | g :: D, p, h, ⟨⟨lim, x⟩, y, z⟩, b, hb => by
    rcases List.mem_cons.mp hb with rfl | hb
    · exact ⟨_, x⟩
    · rcases List.mem_append.mp hb with hb | hb
      · exact y.got hb
      · exact z.got hb
noncomputable def IsPt (nd : Nd) : Option Addr → Option (Option Int) → Cx → Prop
  | _, _, [] => True
  | h, M, f :: C => (∃ lim, nd f.a = some (mkR 0 0 f.d f.red lim (f.l h) (f.r h) (par C)) ∧ ∀ m, M = some m → lim = f.gE m) ∧ IsT nd (some f.a) 0 f.sib ∧ IsPt nd (some f.a) (M.map fun m => some (f.gE m)) C
theorem IsPt.congr {nd nd' : Nd} : ∀ {C : Cx} {h : Option Addr} {M : Option (Option Int)}, IsPt nd h M C → (∀ a ∈ C.ad, nd' a = nd a) → IsPt nd' h M C
  | [], _, _, _, _ => trivial
  | f :: C, h, M, ⟨⟨lim, x, w⟩, y, z⟩, k => ⟨⟨lim, (k _ List.mem_cons_self).trans x, w⟩, y.congr fun b hb => k b (List.mem_cons_of_mem _ (List.mem_append_left _ hb)), z.congr fun b hb => k b (List.mem_cons_of_mem _ (List.mem_append_right _ hb))⟩
theorem IsPt.got {nd : Nd} : ∀ {C : Cx} {h : Option Addr} {M : Option (Option Int)}, IsPt nd h M C → ∀ {a : Addr}, a ∈ C.ad → ∃ r, nd a = some r
  | [], _, _, _, _, k => by cases k
  | f :: C, h, M, ⟨⟨lim, x, _⟩, y, z⟩, b, hb => by
    rcases List.mem_cons.mp hb with rfl | hb
    · exact ⟨_, x⟩
    · rcases List.mem_append.mp hb with hb | hb
      · exact y.got hb
      · exact z.got hb
inductive At where
  | cell (a : Addr) (r : Rc)
  | tree (p : Option Addr) (K : Int) (t : T)
  | ls (l : Addr) (xs : List AV)
  | dt (l : Addr) (es : Es)
  | sp (p : Option Addr) (D : Cx) (h : Option Addr)
  | pt (C : Cx) (h : Option Addr) (M : Option (Option Int))
noncomputable def At.ad : At → List Addr
  | .cell a _ => [a]
  | .tree _ _ t => t.ad
  | .ls l _ => [l]
  | .dt l _ => [l]
  | .sp _ D _ => D.ad
  | .pt C _ _ => C.ad
noncomputable def ads (L : List At) : List Addr := L.flatMap At.ad
noncomputable def At.ok (F : Fc) (S : Sto) : At → Prop
  | .cell a r => S.nd a = some r.nr ∧ F.A a
  | .tree p K t => IsT S.nd p K t ∧ ∀ x ∈ t.ad, F.A x
  | .ls l xs => S.ls l = some xs ∧ F.S0.ls l = none ∧ F.S0.dt l = none
  | .dt l es => S.dt l = some es ∧ F.S0.dt l = none ∧ S.ls l = none
  | .sp p D h => IsSp S.nd p D h ∧ ∀ x ∈ D.ad, F.A x
  | .pt C h M => IsPt S.nd h M C ∧ ∀ x ∈ C.ad, F.A x
structure Fm (F : Fc) (S : Sto) : Prop where
  nn : S.nd F.tr = none
  nd : ∀ b, ¬ F.A b → S.nd b = F.S0.nd b
  tr : ∀ b, b ≠ F.tr → S.tr b = F.S0.tr b
  ls : ∀ a xs, F.S0.ls a = some xs → S.ls a = some xs
  tp : ∀ a xs, F.S0.tp a = some xs → S.tp a = some xs
  dt : ∀ a xs, F.S0.dt a = some xs → S.dt a = some xs
  raw : S.raw = F.S0.raw
  ro : S.ro = F.S0.ro
structure Sat (F : Fc) (X : Xc) (L : List At) (S : Sto) : Prop where
  rt : S.tr F.tr = some (rootC X.C X.h, X.n)
  cx : IsC S.nd X.h X.M X.K X.C
  own : ∀ x ∈ X.C.ad, F.A x
  nodup : (X.C.ad ++ ads L).Nodup
  ok : ∀ x ∈ L, x.ok F S
  fm : Fm F S
noncomputable def Post (F : Fc) (X : Xc) (L : List At) (P : Sto → Prop) : Prop := ∀ S, Sat F X L S → P S
section
variable {F : Fc} {X : Xc} {L L' : List At} {S : Sto} {x y : At} {a b : Addr} {r r' : Rc} {p q : Option Addr} {K K' o : Int} {t l m : T} {d : D} {c : Bool}
theorem ads_cons : ads (x :: L) = x.ad ++ ads L := rfl
theorem ads_perm (h : L.Perm L') : (ads L).Perm (ads L') := h.flatMap_right At.ad
theorem Sat.perm (h : Sat F X L S) (e : L.Perm L') : Sat F X L' S :=
  ⟨h.rt, h.cx, h.own, ((ads_perm e).append_left _).nodup_iff.mp h.nodup, fun x hx => h.ok x (e.mem_iff.mpr hx), h.fm⟩
theorem Sat.nd2 (h : Sat F X (x :: L) S) : (x.ad ++ ads L).Nodup := (List.nodup_append.mp h.nodup).2.1
theorem Sat.inC (h : Sat F X (x :: L) S) {z : Addr} (hz : z ∈ x.ad) : z ∉ X.C.ad := fun k => (List.nodup_append.mp h.nodup).2.2 z k z (List.mem_append_left _ hz) rfl
theorem Sat.inL (h : Sat F X (x :: L) S) {z : Addr} (hz : z ∈ x.ad) : z ∉ ads L := fun k => (List.nodup_append.mp h.nd2).2.2 z hz z k rfl
theorem mem_ads {z : Addr} (hx : x ∈ L) (hz : z ∈ x.ad) : z ∈ ads L := List.mem_flatMap.mpr ⟨x, hx, hz⟩
theorem Sat.chg {S' : Sto} (h : Sat F X (x :: L) S) (hnd : ∀ z, z ∉ x.ad → S'.nd z = S.nd z) (hls : ∀ z, z ∉ x.ad → S'.ls z = S.ls z) (hdt : ∀ z, z ∉ x.ad → S'.dt z = S.dt z) (htr : S'.tr = S.tr)
    (e : y.ad = x.ad) (hy : y.ok F S') (fm : Fm F S') : Sat F X (y :: L) S' := by
  refine ⟨by rw [htr]; exact h.rt, h.cx.congr fun z hz => hnd z fun k => h.inC k hz, h.own, by rw [ads_cons, e]; exact h.nodup, fun w hw => ?_, fm⟩
  rcases List.mem_cons.mp hw with rfl | hw
  · exact hy
  have ok := h.ok w (List.mem_cons_of_mem _ hw)
  have ne : ∀ z, z ∈ w.ad → z ∉ x.ad := fun z hz k => h.inL k (mem_ads hw hz)
  cases w with
  | cell b r => exact ⟨(hnd b (ne b (List.mem_singleton.mpr rfl))).trans ok.1, ok.2⟩
  | tree p K t => exact ⟨ok.1.congr fun z hz => hnd z (ne z hz), ok.2⟩
  | ls l xs => exact ⟨(hls l (ne l (List.mem_singleton.mpr rfl))).trans ok.1, ok.2⟩
  | dt l es => exact ⟨(hdt l (ne l (List.mem_singleton.mpr rfl))).trans ok.1, ok.2.1, (hls l (ne l (List.mem_singleton.mpr rfl))).trans ok.2.2⟩
  | sp p D h => exact ⟨ok.1.congr fun z hz => hnd z (ne z hz), ok.2⟩
  | pt C h M => exact ⟨ok.1.congr fun z hz => hnd z (ne z hz), ok.2⟩
theorem Sat.notTr (h : Sat F X L S) {z : Addr} {rr : NodeRec} (e : S.nd z = some rr) : z ≠ F.tr := fun k => by rw [k, h.fm.nn] at e; cases e
theorem Fm.setNd (h : Fm F S) {rr : NodeRec} (hA : F.A a) (n : a ≠ F.tr) : Fm F (S.setNd a rr) :=
  ⟨(upd_ne (Ne.symm n)).trans h.nn, fun b hb => (upd_ne fun e => hb (by rw [e]; exact hA)).trans (h.nd b hb), h.tr, h.ls, h.tp, h.dt, h.raw, h.ro⟩
theorem Sat.wr (h : Sat F X (.cell a r :: L) S) (r' : Rc) : Sat F X (.cell a r' :: L) (S.setNd a r'.nr) := by
  have ok := h.ok _ List.mem_cons_self
  exact h.chg (fun z hz => upd_ne fun e => hz (List.mem_singleton.mpr e)) (fun _ _ => rfl) (fun _ _ => rfl) rfl rfl ⟨upd_same .., ok.2⟩ (h.fm.setNd ok.2 (h.notTr ok.1))
theorem Sat.wrLs {l : Addr} {xs : List AV} (h : Sat F X (.ls l xs :: L) S) (ys : List AV) : Sat F X (.ls l ys :: L) (S.setLs l ys) := by
  have ok := h.ok _ List.mem_cons_self
  refine h.chg (fun _ _ => rfl) (fun z hz => upd_ne fun e => hz (List.mem_singleton.mpr e)) (fun _ _ => rfl) rfl rfl ⟨upd_same .., ok.2⟩ ⟨h.fm.nn, h.fm.nd, h.fm.tr, fun b zs e => ?_, h.fm.tp, h.fm.dt, h.fm.raw, h.fm.ro⟩
  refine (upd_ne fun k => ?_).trans (h.fm.ls b zs e)
  rw [k, ok.2.1] at e; cases e
theorem Sat.wrDt {l : Addr} {xs : Es} (h : Sat F X (.dt l xs :: L) S) (ys : Es) : Sat F X (.dt l ys :: L) (S.setDt l ys) := by
  have ok := h.ok _ List.mem_cons_self
  refine h.chg (fun _ _ => rfl) (fun _ _ => rfl) (fun z hz => upd_ne fun e => hz (List.mem_singleton.mpr e)) rfl rfl ⟨upd_same .., ok.2⟩ ⟨h.fm.nn, h.fm.nd, h.fm.tr, h.fm.ls, h.fm.tp, fun b zs e => ?_, h.fm.raw, h.fm.ro⟩
  refine (upd_ne fun k => ?_).trans (h.fm.dt b zs e)
  rw [k, ok.2.1] at e; cases e
theorem Sat.fresh (h : Sat F X L S) {z : Addr} (f : S.Free z) : z ∉ X.C.ad ++ ads L := by
  intro k
  rcases List.mem_append.mp k with k | k
  · obtain ⟨rr, e⟩ := h.cx.got k; rw [f.nd] at e; cases e
  · obtain ⟨w, hw, hz⟩ := List.mem_flatMap.mp k
    have ok := h.ok w hw
    cases w with
    | cell b r => cases List.mem_singleton.mp hz; have := ok.1; rw [f.nd] at this; cases this
    | tree p K t => obtain ⟨rr, e⟩ := ok.1.got hz; rw [f.nd] at e; cases e
    | ls l xs => cases List.mem_singleton.mp hz; have := ok.1; rw [f.ls] at this; cases this
    | dt l es => cases List.mem_singleton.mp hz; have := ok.1; rw [f.dt] at this; cases this
    | sp p D h => obtain ⟨rr, e⟩ := ok.1.got hz; rw [f.nd] at e; cases e
    | pt C h M => obtain ⟨rr, e⟩ := ok.1.got hz; rw [f.nd] at e; cases e
theorem Sat.push {S' : Sto} (h : Sat F X L S) (f : S.Free a) (e : y.ad = [a]) (hnd : S'.nd = S.nd) (htr : S'.tr = S.tr) (hls : ∀ z, z ≠ a → S'.ls z = S.ls z) (hdt : ∀ z, z ≠ a → S'.dt z = S.dt z) (hy : y.ok F S') (fm : Fm F S') : Sat F X (y :: L) S' := by
  have nf := h.fresh f
  refine ⟨by rw [htr]; exact h.rt, by rw [hnd]; exact h.cx, h.own, ?_, fun w hw => ?_, fm⟩
  · rw [ads_cons, e]; exact List.perm_middle.nodup_iff.mpr (List.nodup_cons.mpr ⟨nf, h.nodup⟩)
  rcases List.mem_cons.mp hw with rfl | hw
  · exact hy
  have ok := h.ok w hw
  have ne : ∀ z, z ∈ w.ad → z ≠ a := fun z hz k => nf (List.mem_append_right _ (mem_ads hw (k ▸ hz)))
  cases w with
  | cell b r => exact ⟨by rw [hnd]; exact ok.1, ok.2⟩
  | tree p K t => exact ⟨by rw [hnd]; exact ok.1, ok.2⟩
  | ls l xs => exact ⟨(hls l (ne l (List.mem_singleton.mpr rfl))).trans ok.1, ok.2⟩
  | dt l es => exact ⟨(hdt l (ne l (List.mem_singleton.mpr rfl))).trans ok.1, ok.2.1, (hls l (ne l (List.mem_singleton.mpr rfl))).trans ok.2.2⟩
  | sp p D h => exact ⟨by rw [hnd]; exact ok.1, ok.2⟩
  | pt C h M => exact ⟨by rw [hnd]; exact ok.1, ok.2⟩
theorem none_if {α : Type} {u v : Option α} (h : ∀ x, u = some x → v = some x) (e : v = none) : u = none := by
  cases u with
  | none => rfl
  | some x => rw [h x rfl] at e; cases e
theorem Sat.newLs (h : Sat F X L S) (f : S.Free a) (xs : List AV) : Sat F X (.ls a xs :: L) (S.setLs a xs) := by
  have z := none_if (h.fm.ls a) f.ls
  refine h.push f rfl rfl rfl (fun _ k => upd_ne k) (fun _ _ => rfl) ⟨upd_same .., z, none_if (h.fm.dt a) f.dt⟩ ⟨h.fm.nn, h.fm.nd, h.fm.tr, fun b zs e => ?_, h.fm.tp, h.fm.dt, h.fm.raw, h.fm.ro⟩
  exact (upd_ne fun k => by rw [k, z] at e; cases e).trans (h.fm.ls b zs e)
theorem Sat.newDt (h : Sat F X L S) (f : S.Free a) (xs : Es) : Sat F X (.dt a xs :: L) (S.setDt a xs) := by
  have z := none_if (h.fm.dt a) f.dt
  refine h.push f rfl rfl rfl (fun _ _ => rfl) (fun _ k => upd_ne k) ⟨upd_same .., z, f.ls⟩ ⟨h.fm.nn, h.fm.nd, h.fm.tr, h.fm.ls, h.fm.tp, fun b zs e => ?_, h.fm.raw, h.fm.ro⟩
  exact (upd_ne fun k => by rw [k, z] at e; cases e).trans (h.fm.dt b zs e)
theorem Sat.unf (h : Sat F X (.tree p K (.node l a d c t) :: L) S) : ∃ o, Sat F X (.cell a ⟨K + o, o, d, c, gE d l.mx t.mx, l.root, t.root, p⟩ :: .tree (some a) (K + o) l :: .tree (some a) (K + o) t :: L) S := by
  obtain ⟨⟨o, e, hl, ht⟩, ha⟩ := h.ok _ List.mem_cons_self
  refine ⟨o, h.rt, h.cx, h.own, ?_, fun w hw => ?_, h.fm⟩
  · have := h.nodup
    simpa [ads, At.ad, T.ad] using this
  rcases List.mem_cons.mp hw with rfl | hw
  · exact ⟨e, ha a List.mem_cons_self⟩
  rcases List.mem_cons.mp hw with rfl | hw
  · exact ⟨hl, fun x hx => ha x (List.mem_cons_of_mem _ (List.mem_append_left _ hx))⟩
  rcases List.mem_cons.mp hw with rfl | hw
  · exact ⟨ht, fun x hx => ha x (List.mem_cons_of_mem _ (List.mem_append_right _ hx))⟩
  exact h.ok w (List.mem_cons_of_mem _ hw)
theorem Sat.fold (h : Sat F X (.cell a ⟨K', o, d, c, gE d l.mx t.mx, l.root, t.root, p⟩ :: .tree (some a) K' l :: .tree (some a) K' t :: L) S) (e : K' = K + o) : Sat F X (.tree p K (.node l a d c t) :: L) S := by
  subst e
  have h1 := h.ok _ List.mem_cons_self
  have h2 := h.ok (.tree (some a) (K + o) l) (by simp)
  have h3 := h.ok (.tree (some a) (K + o) t) (by simp)
  refine ⟨h.rt, h.cx, h.own, ?_, fun w hw => ?_, h.fm⟩
  · have := h.nodup
    simpa [ads, At.ad, T.ad] using this
  rcases List.mem_cons.mp hw with rfl | hw
  · refine ⟨⟨o, h1.1, h2.1, h3.1⟩, fun x hx => ?_⟩
    rcases List.mem_cons.mp hx with rfl | hx
    · exact h1.2
    rcases List.mem_append.mp hx with hx | hx
    · exact h2.2 x hx
    · exact h3.2 x hx
  exact h.ok w (by simp [hw])
theorem Sat.popC {f : Fr} {C : Cx} {h : Option Addr} {M : Option (Option Int)} {n : Int} (w : Sat F ⟨h, M, K, n, f :: C⟩ L S) :
    ∃ o lim, (∀ m, M = some m → lim = f.gE m) ∧ Sat F ⟨some f.a, M.map fun m => some (f.gE m), K - o, n, C⟩ (.cell f.a ⟨K, o, f.d, f.red, lim, f.l h, f.r h, par C⟩ :: .tree (some f.a) K f.sib :: L) S := by
  obtain ⟨o, lim, e, hl, hs, hc⟩ := w.cx
  refine ⟨o, lim, hl, w.rt, hc, fun x hx => w.own x (by simp [Cx.ad, hx]), ?_, fun y hy => ?_, w.fm⟩
  · have := w.nodup
    refine (List.Perm.nodup_iff ?_).mp this
    show (f.a :: (f.sib.ad ++ Cx.ad C) ++ ads L).Perm (Cx.ad C ++ (f.a :: (f.sib.ad ++ ads L)))
    refine List.Perm.trans (List.Perm.cons _ ?_) List.perm_middle.symm
    rw [← List.append_assoc]
    exact List.perm_append_comm.append_right _
  rcases List.mem_cons.mp hy with rfl | hy
  · exact ⟨e, w.own _ List.mem_cons_self⟩
  rcases List.mem_cons.mp hy with rfl | hy
  · exact ⟨hs, fun x hx => w.own x (by simp [Cx.ad, hx])⟩
  exact w.ok y hy
theorem Sat.pushC {f : Fr} {C : Cx} {h h' : Option Addr} {M M' : Option (Option Int)} {n lim : Int} (w : Sat F ⟨h', M', K', n, C⟩ (.cell f.a ⟨K, o, f.d, f.red, lim, f.l h, f.r h, par C⟩ :: .tree (some f.a) K f.sib :: L) S)
    (e1 : h' = some f.a) (e2 : M' = M.map fun m => some (f.gE m)) (e3 : K' = K - o) (hl : ∀ m, M = some m → lim = f.gE m) : Sat F ⟨h, M, K, n, f :: C⟩ L S := by
  subst e1; subst e2; subst e3
  have h1 := w.ok _ List.mem_cons_self
  have h2 := w.ok (.tree (some f.a) K f.sib) (by simp)
  refine ⟨w.rt, ⟨o, lim, h1.1, hl, h2.1, w.cx⟩, fun x hx => ?_, ?_, fun y hy => w.ok y (by simp [hy]), w.fm⟩
  · rcases List.mem_cons.mp hx with rfl | hx
    · exact h1.2
    rcases List.mem_append.mp hx with hx | hx
    · exact h2.2 x hx
    · exact w.own x hx
  · have := w.nodup
    refine (List.Perm.nodup_iff ?_).mpr this
    show (f.a :: (f.sib.ad ++ Cx.ad C) ++ ads L).Perm (Cx.ad C ++ (f.a :: (f.sib.ad ++ ads L)))
    refine List.Perm.trans (List.Perm.cons _ ?_) List.perm_middle.symm
    rw [← List.append_assoc]
    exact List.perm_append_comm.append_right _
theorem Sat.setCnt {h : Option Addr} {M : Option (Option Int)} {n : Int} {C : Cx} (w : Sat F ⟨h, M, K, n, C⟩ L S) (n' : Int) : Sat F ⟨h, M, K, n', C⟩ L (S.setTr F.tr (rootC C h, n')) :=
  ⟨upd_same .., w.cx, w.own, w.nodup, fun x hx => by have := w.ok x hx; cases x <;> exact this, ⟨w.fm.nn, w.fm.nd, fun b hb => (upd_ne hb).trans (w.fm.tr b hb), w.fm.ls, w.fm.tp, w.fm.dt, w.fm.raw, w.fm.ro⟩⟩
theorem Sat.setRoot {h h' : Option Addr} {M M' : Option (Option Int)} {n : Int} (w : Sat F ⟨h, M, K, n, []⟩ L S) : Sat F ⟨h', M', K, n, []⟩ L (S.setTr F.tr (h', n)) :=
  ⟨upd_same .., w.cx, w.own, w.nodup, fun x hx => by have := w.ok x hx; cases x <;> exact this, ⟨w.fm.nn, w.fm.nd, fun b hb => (upd_ne hb).trans (w.fm.tr b hb), w.fm.ls, w.fm.tp, w.fm.dt, w.fm.raw, w.fm.ro⟩⟩
theorem Sat.at (h : Sat F X L S) {i : Nat} (e : L[i]? = some (.cell a r)) : S.nd a = some r.nr := (h.ok _ (List.mem_of_getElem? e)).1
theorem Sat.lsAt (h : Sat F X L S) {i : Nat} {l : Addr} {xs : List AV} (e : L[i]? = some (.ls l xs)) : S.ls l = some xs := (h.ok _ (List.mem_of_getElem? e)).1
theorem Sat.dtAt (h : Sat F X L S) {i : Nat} {l : Addr} {xs : Es} (e : L[i]? = some (.dt l xs)) : S.dt l = some xs := (h.ok _ (List.mem_of_getElem? e)).1
noncomputable def tk : Nat → List At → Option (At × List At)
  | i, L => match L with
    | [] => none
    | x :: L => match i with
      | 0 => some (x, L)
      | i + 1 => match tk i L with
        | some (y, L) => some (y, x :: L)
        | none => none
noncomputable def fr : List Nat → List At → Option (List At)
  | [], L => some L
  | i :: is, L => match tk i L with
    | some (x, L) => (match fr is L with
      | some L => some (x :: L)
      | none => none)
    | none => none
noncomputable def apO : List At → List At → Option (List At)
  | [], L => some L
  | x :: r, L => match apO r L with
    | some L => some (x :: L)
    | none => none
noncomputable def rep : Nat → List At → List At → Option (List At)
  | i, new, L => match L with
    | [] => none
    | x :: L => match i with
      | 0 => apO new L
      | i + 1 => match rep i new L with
        | some L => some (x :: L)
        | none => none
theorem tk_ok : ∀ {i : Nat} {L L' : List At} {y : At}, tk i L = some (y, L') → L.Perm (y :: L')
  | _, [], _, _, h => by unfold tk at h; cases h
  | 0, x :: L, _, _, h => by cases h; exact .refl _
  | i + 1, x :: L, L', y, h => by
    unfold tk at h
    dsimp only at h
    cases q : tk i L with
    | none => rw [q] at h; cases h
    | some z => rw [q] at h; cases h; exact ((tk_ok (L' := z.2) (y := z.1) q).cons x).trans (.swap ..)
theorem fr_ok : ∀ {is : List Nat} {L L' : List At}, fr is L = some L' → L.Perm L'
  | [], _, _, h => by cases h; exact .refl _
  | i :: is, L, L', h => by
    unfold fr at h
    cases q : tk i L with
    | none => rw [q] at h; cases h
    | some z =>
      rw [q] at h
      dsimp only at h
      cases q2 : fr is z.2 with
      | none => rw [q2] at h; cases h
      | some L2 => rw [q2] at h; cases h; exact (tk_ok (L' := z.2) (y := z.1) q).trans ((fr_ok q2).cons _)
theorem ap_ok : ∀ {new L L' : List At}, apO new L = some L' → L' = new ++ L
  | [], _, _, h => by cases h; rfl
  | x :: r, L, L', h => by
    unfold apO at h
    cases q : apO r L with
    | none => rw [q] at h; cases h
    | some z => rw [q] at h; cases h; rw [ap_ok q]; rfl
theorem rep_ok : ∀ {i : Nat} {new L L' : List At} {x : At}, L[i]? = some x → rep i new L = some L' → L.Perm (x :: L.eraseIdx i) ∧ L'.Perm (new ++ L.eraseIdx i)
  | _, _, [], _, _, _, h => by unfold rep at h; cases h
  | 0, new, y :: L, _, _, e, h => by cases e; exact ⟨.refl _, by rw [ap_ok (show apO new L = _ from h)]; exact .refl _⟩
  | i + 1, new, y :: L, L', x, e, h => by
    unfold rep at h
    dsimp only at h
    cases q : rep i new L with
    | none => rw [q] at h; cases h
    | some z =>
      rw [q] at h; cases h
      obtain ⟨h2, h3⟩ := rep_ok (show L[i]? = some x from e) q
      exact ⟨(h2.cons y).trans (.swap ..), (h3.cons y).trans List.perm_middle.symm⟩
theorem Sat.rep {i : Nat} {new : List At} {X' : Xc} {S' : Sto} (h : Sat F X L S) (e : L[i]? = some x) (hr : rep i new L = some L') (st : ∀ R, Sat F X (x :: R) S → Sat F X' (new ++ R) S') : Sat F X' L' S' := by
  obtain ⟨h2, h3⟩ := rep_ok e hr
  exact (st _ (h.perm h2)).perm h3.symm
end
end
section
noncomputable def Rc.get (r : Rc) (f : Fld) : Option AV := match r with
  | ⟨K, o, d, c, lim, l, r, p⟩ => match f with
    | .num => some (.int d.num)
    | .bgn => some (.int (d.b - K))
    | .en => some (.int (d.e - K))
    | .fr => some (.bool d.fr)
    | .re => some (.bool d.re)
    | .lim => some (.int (lim - K))
    | .off => some (.int o)
    | .red => some (.bool c)
    | .lft => some (.opt l)
    | .rgt => some (.opt r)
    | .prn => some (.opt p)
    | _ => none
noncomputable def Rc.put (r : Rc) (f : Fld) (w : AV) : Option Rc := match r with
  | ⟨K, o, d, c, lim, l, r, p⟩ => match f with
    | .bgn => (match w with | .int i => some ⟨K, o, ⟨d.num, i + K, d.e, d.fr, d.re⟩, c, lim, l, r, p⟩ | _ => none)
    | .en => (match w with | .int i => some ⟨K, o, ⟨d.num, d.b, i + K, d.fr, d.re⟩, c, lim, l, r, p⟩ | _ => none)
    | .lim => (match w with | .int i => some ⟨K, o, d, c, i + K, l, r, p⟩ | _ => none)
    | .off => (match w with | .int i => some ⟨K, i, d, c, lim, l, r, p⟩ | _ => none)
    | .red => (match w with | .bool b => some ⟨K, o, d, b, lim, l, r, p⟩ | _ => none)
    | .lft => (match w with | .none => some ⟨K, o, d, c, lim, none, r, p⟩ | .ref a => some ⟨K, o, d, c, lim, some a, r, p⟩ | _ => none)
    | .rgt => (match w with | .none => some ⟨K, o, d, c, lim, l, none, p⟩ | .ref a => some ⟨K, o, d, c, lim, l, some a, p⟩ | _ => none)
    | .prn => (match w with | .none => some ⟨K, o, d, c, lim, l, r, none⟩ | .ref a => some ⟨K, o, d, c, lim, l, r, some a⟩ | _ => none)
    | _ => none
noncomputable def Rc.putO (r : Rc) (f : Fld) (w : Option Addr) : Option Rc := match r with
  | ⟨K, o, d, c, lim, l, r, p⟩ => match f with
    | .lft => some ⟨K, o, d, c, lim, w, r, p⟩
    | .rgt => some ⟨K, o, d, c, lim, l, w, p⟩
    | .prn => some ⟨K, o, d, c, lim, l, r, w⟩
    | _ => none
theorem Rc.get_ok {r : Rc} {f : Fld} {v : AV} (h : r.get f = some v) : r.nr.fs.lookup f.name = some v := by
  refine Ans.of (P := fun v => r.nr.fs.lookup f.name = some v) ?_ h
  clear h
  cases f <;> first | exact fs_get _ rfl | exact trivial
theorem Rc.put_ok {r r' : Rc} {f : Fld} {w : AV} (h : r.put f w = some r') : r.nr.set f.name w = some r'.nr := by
  rw [← put_set]
  refine Ans.of (P := fun r' => r.nr.put f w = some (Rc.nr r')) ?_ h
  clear h
  obtain ⟨K, o, d, c, lim, l, q, p⟩ := r
  have e : ∀ i : Int, i = i + K - K := fun i => (Int.add_sub_cancel i K).symm
  cases f <;> first
    | exact trivial
    | (cases w <;> first
      | exact trivial
      | exact rfl
      | exact congrArg (fun z => some (NodeRec.mk _ z _ _ _ _ _ _ _ _ _)) (e _)
      | exact congrArg (fun z => some (NodeRec.mk _ _ z _ _ _ _ _ _ _ _)) (e _)
      | exact congrArg (fun z => some (NodeRec.mk _ _ _ _ _ z _ _ _ _ _)) (e _))
theorem opt_toOpt (w : Option Addr) : (AV.opt w).toOpt = some w := by cases w <;> rfl
theorem Rc.putO_ok {r r' : Rc} {f : Fld} {w : Option Addr} (h : r.putO f w = some r') : r.nr.set f.name (.opt w) = some r'.nr := by
  rw [← put_set]
  refine Ans.of (P := fun r' => r.nr.put f (.opt w) = some (Rc.nr r')) ?_ h
  clear h
  obtain ⟨K, o, d, c, lim, l, q, p⟩ := r
  cases f
  all_goals first
    | exact trivial
    | (show Option.map _ _ = _; rw [opt_toOpt]; rfl)
noncomputable def MS.go (m : MS) : MS := match m with | ⟨c, ks, st, vs⟩ => Mine.go true 300 c ks st vs
noncomputable def MS.go0 (m : MS) : MS := match m with | ⟨c, ks, st, vs⟩ => Mine.go false 300 c ks st vs
theorem treeSet_root (h h' : Option Addr) (n : Int) : treeSet (h, n) Fld.root.name (.opt h') = some (h', n) := by cases h' <;> rfl
theorem lsLst {S : Sto} {l : Addr} {xs : List AV} (h : S.ls l = some xs) : S.lst l = some xs := by unfold Sto.lst; rw [h]
noncomputable def At.hd : At → Option Addr
  | .cell a _ => some a
  | .tree _ _ t => t.root
  | _ => none
noncomputable def hdAt : Nat → List At → Option Addr
  | i, L => match L with
    | [] => none
    | x :: L => match i with
      | 0 => x.hd
      | i + 1 => hdAt i L
section
variable {F : Fc} {X : Xc} {L L' : List At} {c : Cst} {k : Nat} {Q : AV → Sto → Prop} {P : Sto → Prop} {m : MS} {code : Code} {ks : List KI} {st : List AV} {vs : Vs} {f : Fld} {a b : Addr} {r r' : Rc} {v w : AV} {i j : Nat}
theorem Post.go (hg : m.go = ⟨code, ks, st, vs⟩) (H : Post F X L (Run c k ⟨code, ks, st, vs⟩ Q)) : Post F X L (Run c k m Q) := fun S h => go_ok (f := true) (n := 300) (by show Run c k m.go Q S; rw [hg]; exact H S h)
theorem Post.go0 (hg : m.go0 = ⟨code, ks, st, vs⟩) (H : Post F X L (Run c k ⟨code, ks, st, vs⟩ Q)) : Post F X L (Run c k m Q) := fun S h => go_ok (f := false) (n := 300) (by show Run c k m.go0 Q S; rw [hg]; exact H S h)
theorem Sat.get {S : Sto} (h : Sat F X L S) (hi : L[i]? = some (.cell a r)) (hv : r.get f = some v) : S.getA (.ref a) f.name = some v := by
  unfold Sto.getA; dsimp only; rw [h.at hi]; exact Rc.get_ok hv
theorem p_rd (i : Nat) (hg : m.go = ⟨.ga f code, ks, .ref a :: st, vs⟩) (hi : L[i]? = some (.cell a r)) (hv : r.get f = some v) (H : Post F X L (Run c k ⟨code, ks, v :: st, vs⟩ Q)) : Post F X L (Run c k m Q) :=
  Post.go hg fun S h => ⟨v, h.get hi hv, H S h⟩
theorem p_rdR {h : Option Addr} {M : Option (Option Int)} {K n : Int} {C : Cx} (hg : m.go = ⟨.ga .root code, ks, .ref F.tr :: st, vs⟩) (H : Post F ⟨h, M, K, n, C⟩ L (Run c k ⟨code, ks, .opt (rootC C h) :: st, vs⟩ Q)) : Post F ⟨h, M, K, n, C⟩ L (Run c k m Q) :=
  Post.go hg fun S s => ⟨_, by unfold Sto.getA; dsimp only; rw [s.fm.nn, s.rt]; rfl, H S s⟩
theorem p_rdN {h : Option Addr} {M : Option (Option Int)} {K n : Int} {C : Cx} (hg : m.go = ⟨.ga .cnt code, ks, .ref F.tr :: st, vs⟩) (H : Post F ⟨h, M, K, n, C⟩ L (Run c k ⟨code, ks, .int n :: st, vs⟩ Q)) : Post F ⟨h, M, K, n, C⟩ L (Run c k m Q) :=
  Post.go hg fun S s => ⟨_, by unfold Sto.getA; dsimp only; rw [s.fm.nn, s.rt]; rfl, H S s⟩
theorem Sat.set {S : Sto} (h : Sat F X L S) (hi : L[i]? = some (.cell a r)) (hv : r.nr.set f.name w = some r'.nr) (hr : Mine.rep i [.cell a r'] L = some L') : ∃ S', S.setA (.ref a) f.name w = some S' ∧ Sat F X L' S' :=
  ⟨S.setNd a r'.nr, by unfold Sto.setA; dsimp only; rw [h.at hi]; dsimp only; rw [hv]; rfl, h.rep hi hr fun _ k => k.wr r'⟩
theorem p_wr (i : Nat) (hg : m.go = ⟨.sa f code, ks, .ref a :: w :: st, vs⟩) (hi : L[i]? = some (.cell a r)) (hv : r.put f w = some r') (hr : rep i [.cell a r'] L = some L') (H : Post F X L' (Run c k ⟨code, ks, st, vs⟩ Q)) : Post F X L (Run c k m Q) :=
  Post.go hg fun _ h => let ⟨S', e, h'⟩ := h.set hi (Rc.put_ok hv) hr; ⟨S', e, H S' h'⟩
theorem p_wrO (i : Nat) {w : Option Addr} (hg : m.go = ⟨.sa f code, ks, .ref a :: .opt w :: st, vs⟩) (hi : L[i]? = some (.cell a r)) (hv : r.putO f w = some r') (hr : rep i [.cell a r'] L = some L') (H : Post F X L' (Run c k ⟨code, ks, st, vs⟩ Q)) : Post F X L (Run c k m Q) :=
  Post.go hg fun _ h => let ⟨S', e, h'⟩ := h.set hi (Rc.putO_ok hv) hr; ⟨S', e, H S' h'⟩
theorem p_wrN {h : Option Addr} {M : Option (Option Int)} {K n n' : Int} {C : Cx} (hg : m.go = ⟨.sa .cnt code, ks, .ref F.tr :: .int n' :: st, vs⟩) (H : Post F ⟨h, M, K, n', C⟩ L (Run c k ⟨code, ks, st, vs⟩ Q)) : Post F ⟨h, M, K, n, C⟩ L (Run c k m Q) :=
  Post.go hg fun S s => ⟨_, by unfold Sto.setA; dsimp only; rw [s.fm.nn, s.rt]; rfl, H _ (s.setCnt n')⟩
theorem p_wrR {h h' : Option Addr} {M M' : Option (Option Int)} {K n : Int} (hg : m.go = ⟨.sa .root code, ks, .ref F.tr :: .opt h' :: st, vs⟩) (H : Post F ⟨h', M', K, n, []⟩ L (Run c k ⟨code, ks, st, vs⟩ Q)) : Post F ⟨h, M, K, n, []⟩ L (Run c k m Q) :=
  Post.go hg fun S s => ⟨_, by unfold Sto.setA; dsimp only; rw [s.fm.nn, s.rt]; dsimp only; rw [treeSet_root]; rfl, H _ s.setRoot⟩
theorem p_cmp {op : CmpOp} {t : Bool} (hg : m.go = ⟨.cmp op code, ks, w :: v :: st, vs⟩) (hc : ∀ S : Sto, S.cmp op v w = some t) (H : Post F X L (Run c k ⟨code, ks, .bool t :: st, vs⟩ Q)) : Post F X L (Run c k m Q) :=
  Post.go hg fun S h => ⟨t, hc S, H S h⟩
theorem p_cmpT {op : CmpOp} (hg : m.go = ⟨.cmp op code, ks, w :: v :: st, vs⟩) (hc : ∀ S : Sto, S.cmp op v w = some true) (H : Post F X L (Run c k ⟨code, ks, .bool true :: st, vs⟩ Q)) : Post F X L (Run c k m Q) := p_cmp hg hc H
theorem p_cmpF {op : CmpOp} (hg : m.go = ⟨.cmp op code, ks, w :: v :: st, vs⟩) (hc : ∀ S : Sto, S.cmp op v w = some false) (H : Post F X L (Run c k ⟨code, ks, .bool false :: st, vs⟩ Q)) : Post F X L (Run c k m Q) := p_cmp hg hc H
theorem p_cmpB {op : CmpOp} {p : Prop} [Decidable p] (hg : m.go = ⟨.cmp op code, ks, w :: v :: st, vs⟩) (hc : ∀ S : Sto, S.cmp op v w = some (decide p)) (h1 : p → Post F X L (Run c k ⟨code, ks, .bool true :: st, vs⟩ Q)) (h2 : ¬ p → Post F X L (Run c k ⟨code, ks, .bool false :: st, vs⟩ Q)) : Post F X L (Run c k m Q) := by
  by_cases h : p
  · exact p_cmp hg (fun S => (hc S).trans (congrArg some (decide_eq_true h))) (h1 h)
  · exact p_cmp hg (fun S => (hc S).trans (congrArg some (decide_eq_false h))) (h2 h)
theorem Sat.isN {S : Sto} (h : Sat F X L S) {x : At} (hi : L[i]? = some x) (ha : x.hd = some a) : S.isNode a = true := by
  have ok := h.ok _ (List.mem_of_getElem? hi)
  unfold Sto.isNode
  cases x with
  | cell b r => cases ha; rw [ok.1]; rfl
  | tree p K t => obtain ⟨rr, e⟩ := ok.1.got (mem_root ha); rw [e]; rfl
  | ls l xs => cases ha
  | dt l xs => cases ha
  | sp p D h => cases ha
  | pt C h M => cases ha
theorem Sat.isRef {S : Sto} (ha : S.isNode a = true) (hb : S.isNode b = true) : S.cmp .Is (.ref a) (.ref b) = some (decide (a = b)) := by
  unfold Sto.cmp Sto.isQ; dsimp only; rw [ha, hb]; rfl
theorem Sat.isnotRef {S : Sto} (ha : S.isNode a = true) (hb : S.isNode b = true) : S.cmp .IsNot (.ref a) (.ref b) = some (!decide (a = b)) := by
  unfold Sto.cmp Sto.isQ; dsimp only; rw [ha, hb]; rfl
theorem hd_ad {x : At} (h : x.hd = some a) : a ∈ x.ad := by
  cases x with
  | cell b r => cases h; exact List.mem_singleton.mpr rfl
  | tree p K t => exact mem_root h
  | ls l xs => cases h
  | dt l xs => cases h
  | sp p D h => cases h
  | pt C h' M => cases h
theorem Sat.ne {S : Sto} (h : Sat F X L S) {x y : At} (hi : L[i]? = some x) (hj : L[j]? = some y) (n : i ≠ j) {z : Addr} (hz : z ∈ x.ad) : z ∉ y.ad := by
  have nd := (List.nodup_append.mp h.nodup).2.1
  clear h
  induction L generalizing i j with
  | nil => cases hi
  | cons u L ih =>
    rw [ads_cons, List.nodup_append] at nd
    cases i with
    | zero =>
      cases hi
      cases j with
      | zero => exact absurd rfl n
      | succ j => exact fun k => nd.2.2 z hz z (mem_ads (List.mem_of_getElem? hj) k) rfl
    | succ i =>
      cases j with
      | zero => cases hj; exact fun k => nd.2.2 z k z (mem_ads (List.mem_of_getElem? hi) hz) rfl
      | succ j => exact ih hi hj (fun e => n (congrArg Nat.succ e)) nd.2.1
theorem hdAt_ok : ∀ {i : Nat} {L : List At}, hdAt i L = some a → ∃ x, L[i]? = some x ∧ x.hd = some a
  | _, [], h => by unfold hdAt at h; cases h
  | 0, x :: L, h => ⟨x, rfl, h⟩
  | i + 1, x :: L, h => hdAt_ok (i := i) (L := L) h
theorem Sat.isHd {S : Sto} (h : Sat F X L S) (hi : hdAt i L = some a) : S.isNode a = true := let ⟨_, h1, h2⟩ := hdAt_ok hi; h.isN h1 h2
theorem Sat.neq {S : Sto} (h : Sat F X L S) (hi : hdAt i L = some a) (hj : hdAt j L = some b) (n : Nat.beq i j = false) : ¬ a = b := fun e => by
  subst e
  obtain ⟨_, h1, h2⟩ := hdAt_ok hi
  obtain ⟨_, h3, h4⟩ := hdAt_ok hj
  exact h.ne h1 h3 (Nat.ne_of_beq_eq_false n) (hd_ad h2) (hd_ad h4)
theorem hd0 {x : At} (h : x.hd = some a) : hdAt 0 (x :: L) = some a := h
theorem hd1 {x y0 : At} (h : x.hd = some a) : hdAt 1 (y0 :: x :: L) = some a := h
theorem hd2 {x y0 y1 : At} (h : x.hd = some a) : hdAt 2 (y0 :: y1 :: x :: L) = some a := h
theorem hd3 {x y0 y1 y2 : At} (h : x.hd = some a) : hdAt 3 (y0 :: y1 :: y2 :: x :: L) = some a := h
theorem hd5 {x y0 y1 y2 y3 y4 : At} (h : x.hd = some a) : hdAt 5 (y0 :: y1 :: y2 :: y3 :: y4 :: x :: L) = some a := h
theorem p_same (i : Nat) (hg : m.go = ⟨.cmp .Is code, ks, .ref a :: .ref a :: st, vs⟩) (hi : hdAt i L = some a) (H : Post F X L (Run c k ⟨code, ks, .bool true :: st, vs⟩ Q)) : Post F X L (Run c k m Q) :=
  Post.go hg fun S h => ⟨true, by rw [Sat.isRef (h.isHd hi) (h.isHd hi), decide_eq_true rfl], H S h⟩
theorem p_diff (i j : Nat) (hg : m.go = ⟨.cmp .Is code, ks, .ref b :: .ref a :: st, vs⟩) (hi : hdAt i L = some a) (hj : hdAt j L = some b) (n : Nat.beq i j = false) (H : Post F X L (Run c k ⟨code, ks, .bool false :: st, vs⟩ Q)) : Post F X L (Run c k m Q) :=
  Post.go hg fun S h => ⟨false, by rw [Sat.isRef (h.isHd hi) (h.isHd hj), decide_eq_false (h.neq hi hj n)], H S h⟩
theorem p_sameN (i : Nat) (hg : m.go = ⟨.cmp .IsNot code, ks, .ref a :: .ref a :: st, vs⟩) (hi : hdAt i L = some a) (H : Post F X L (Run c k ⟨code, ks, .bool false :: st, vs⟩ Q)) : Post F X L (Run c k m Q) :=
  Post.go hg fun S h => ⟨false, by rw [Sat.isnotRef (h.isHd hi) (h.isHd hi), decide_eq_true rfl]; rfl, H S h⟩
theorem p_diffN (i j : Nat) (hg : m.go = ⟨.cmp .IsNot code, ks, .ref b :: .ref a :: st, vs⟩) (hi : hdAt i L = some a) (hj : hdAt j L = some b) (n : Nat.beq i j = false) (H : Post F X L (Run c k ⟨code, ks, .bool true :: st, vs⟩ Q)) : Post F X L (Run c k m Q) :=
  Post.go hg fun S h => ⟨true, by rw [Sat.isnotRef (h.isHd hi) (h.isHd hj), decide_eq_false (h.neq hi hj n)]; rfl, H S h⟩
theorem p_br {x : Bool} {ca cb : Code} (hg : m.go0 = ⟨.br ca cb code, ks, .bool x :: st, vs⟩) (h1 : x = true → Post F X L (Run c k ⟨ca, .sg code :: ks, st, vs⟩ Q)) (h2 : x = false → Post F X L (Run c k ⟨cb, .sg code :: ks, st, vs⟩ Q)) : Post F X L (Run c k m Q) :=
  Post.go0 hg fun S h => ⟨x, rfl, fun e => h1 e S h, fun e => h2 e S h⟩
theorem p_call {g : Value} {n : Nat} {as st' : List AV} (hg : m.go = ⟨.call g n code, ks, st, vs⟩) (hp : popN n st [] = some (as, st')) (H : Post F X L (CW c k g as fun v S' => Run c k ⟨code, ks, v :: st', vs⟩ Q S')) : Post F X L (Run c k m Q) :=
  Post.go hg fun S h => ⟨as, st', hp, H S h⟩
theorem p_ret (hg : m.go = ⟨.ret, ks, v :: st, vs⟩) (H : Post F X L (Q v)) : Post F X L (Run c k m Q) := Post.go hg H
theorem p_fin (hg : m.go = ⟨.done, [], st, vs⟩) (H : Post F X L (Q .none)) : Post F X L (Run c k m Q) := Post.go hg H
theorem p_lp {J : Vs → Sto → Prop} (hg : m.go = ⟨.done, .lp J :: ks, st, vs⟩) (H : Post F X L (J vs)) : Post F X L (Run c k m Q) := Post.go hg H
theorem p_mkl {n : Nat} {as st' : List AV} (hg : m.go = ⟨.mkl n code, ks, st, vs⟩) (hp : popN n st [] = some (as, st')) (H : ∀ l, Post F X (.ls l as :: L) (Run c k ⟨code, ks, .ref l :: st', vs⟩ Q)) : Post F X L (Run c k m Q) :=
  Post.go hg fun S h => ⟨as, st', hp, fun l f => H l _ (h.newLs f as)⟩
theorem p_mkd (hg : m.go = ⟨.mkd code, ks, st, vs⟩) (H : ∀ l, Post F X (.dt l [] :: L) (Run c k ⟨code, ks, .ref l :: st, vs⟩ Q)) : Post F X L (Run c k m Q) :=
  Post.go hg fun S h l f => H l _ (h.newDt f [])
theorem p_chk (i : Nat) {nm : Str} {xs : List AV} (hg : m.go = ⟨.mchk false nm code, ks, .ref a :: st, vs⟩) (hi : L[i]? = some (.ls a xs)) (hn : (lsId nm).isSome = true) (H : Post F X L (Run c k ⟨code, ks, .ref a :: st, vs⟩ Q)) : Post F X L (Run c k m Q) :=
  Post.go hg fun S h => ⟨a, rfl, ⟨⟨xs, h.lsAt hi⟩, hn⟩, H S h⟩
theorem p_chkD (i : Nat) {nm : Str} {xs : Es} (hg : m.go = ⟨.mchk true nm code, ks, .ref a :: st, vs⟩) (hi : L[i]? = some (.dt a xs)) (hn : (dtId nm).isSome = true) (H : Post F X L (Run c k ⟨code, ks, .ref a :: st, vs⟩ Q)) : Post F X L (Run c k m Q) :=
  Post.go hg fun S h => ⟨a, rfl, ⟨⟨xs, h.dtAt hi⟩, hn⟩, H S h⟩
theorem p_app (i : Nat) {xs : List AV} (hg : m.go = ⟨.meth false (Str.ofString "append") 1 code, ks, v :: .ref a :: st, vs⟩) (hi : L[i]? = some (.ls a xs)) (hr : rep i [.ls a (xs ++ [v])] L = some L') (hl : xs.length < 1000)
    (H : Post F X L' (Run c k ⟨code, ks, .none :: st, vs⟩ Q)) : Post F X L (Run c k m Q) :=
  Post.go hg fun S h => ⟨[v], st, a, rfl, xs, h.lsAt hi, v, rfl, hl, H _ (h.rep hi hr fun _ k => k.wrLs _)⟩
theorem p_lpop (i : Nat) {xs : List AV} (hg : m.go = ⟨.meth false (Str.ofString "pop") 0 code, ks, .ref a :: st, vs⟩) (hi : L[i]? = some (.ls a (xs ++ [v]))) (hr : rep i [.ls a xs] L = some L')
    (H : Post F X L' (Run c k ⟨code, ks, v :: st, vs⟩ Q)) : Post F X L (Run c k m Q) :=
  Post.go hg fun S h => ⟨[], st, a, rfl, _, h.lsAt hi, .inl ⟨rfl, xs, v, rfl, H _ (h.rep hi hr fun _ k => k.wrLs _)⟩⟩
theorem p_dget (i : Nat) {es : Es} {n : Int} (hg : m.go = ⟨.meth true (Str.ofString "get") 2 code, ks, w :: .int n :: .ref a :: st, vs⟩) (hi : L[i]? = some (.dt a es)) (H : Post F X L (Run c k ⟨code, ks, (getE es n).getD w :: st, vs⟩ Q)) : Post F X L (Run c k m Q) :=
  Post.go hg fun S h => ⟨[.int n, w], st, a, rfl, es, h.dtAt hi, n, w, rfl, H S h⟩
theorem p_slc (i : Nat) {lo hi sp : Option Int} {xs ys : List AV} (hg : m.go = ⟨.slc lo hi sp code, ks, .ref a :: st, vs⟩) (hx : L[i]? = some (.ls a xs)) (hy : Sliced xs lo hi sp ys) (H : ∀ l, Post F X (.ls l ys :: L) (Run c k ⟨code, ks, .ref l :: st, vs⟩ Q)) : Post F X L (Run c k m Q) :=
  Post.go hg fun S h => ⟨a, xs, ys, rfl, lsLst (h.lsAt hx), hy, fun l f => H l _ (h.newLs f ys)⟩
theorem p_sub (i : Nat) {es : Es} {n : Int} (hg : m.go = ⟨.sub code, ks, .int n :: .ref a :: st, vs⟩) (hi : L[i]? = some (.dt a es)) (hv : getE es n = some v) (H : Post F X L (Run c k ⟨code, ks, v :: st, vs⟩ Q)) : Post F X L (Run c k m Q) :=
  Post.go hg fun S h => ⟨v, .inr (.inr ⟨_, _, _, rfl, rfl, h.dtAt hi, hv⟩), H S h⟩
theorem p_whl {t cb : Code} (I : Nat → Vs → Xc → List At → Prop) (n : Nat) (hg : m.go = ⟨.whl t cb code, ks, [], vs⟩) (h0 : I n vs X L)
    (turn : ∀ n vs X L, I n vs X L → ∀ J : Vs → Sto → Prop, (∀ n' vs X L, n' < n → I n' vs X L → Post F X L (J vs)) → Post F X L (Run c k ⟨t, .wt cb code J :: ks, [], vs⟩ Q)) : Post F X L (Run c k m Q) :=
  Post.go hg fun S h => ⟨rfl, fun n vs S => ∃ X L, I n vs X L ∧ Sat F X L S, n, ⟨X, L, h0, h⟩, fun n vs S ⟨X, L, hI, h⟩ =>
    turn n vs X L hI (fun vs S => ∃ n', n' < n ∧ ∃ X L, I n' vs X L ∧ Sat F X L S) (fun n' vs X L hn hI S h => ⟨n', hn, X, L, hI, h⟩) S h⟩
theorem Post.len (i : Nat) {xs : List AV} (hi : L[i]? = some (.ls a xs)) (H : Post F X L (Q (.int xs.length))) : Post F X L (CW c k (.builtin "len") [.ref a] Q) := fun S h => CW.len (lsLst (h.lsAt hi)) (H S h)
theorem Post.max {x y : Int} (H : Post F X L (Q (.int (Max.max x y)))) : Post F X L (CW c k (.builtin "max") [.int x, .int y] Q) := fun S h => CW.max (H S h)
theorem p_unf (i : Nat) {p : Option Addr} {K : Int} {l t : T} {d : D} {cc : Bool} {L' : Int → List At} (hi : L[i]? = some (.tree p K (.node l a d cc t))) (hr : ∀ o, rep i [.cell a ⟨K + o, o, d, cc, gE d l.mx t.mx, l.root, t.root, p⟩, .tree (some a) (K + o) l, .tree (some a) (K + o) t] L = some (L' o))
    (H : ∀ o, Post F X (L' o) P) : Post F X L P := fun S h => by
  obtain ⟨o, h'⟩ := (h.perm (rep_ok hi (hr 0)).1).unf
  exact H o S (h'.perm (rep_ok hi (hr o)).2.symm)
theorem p_fr (is : List Nat) (hr : fr is L = some L') (H : Post F X L' P) : Post F X L P := fun S h => H S (h.perm (fr_ok hr))
theorem p_fold {p : Option Addr} {K K' o : Int} {l t : T} {d : D} {cc : Bool} (e : K' = K + o) (H : Post F X (.tree p K (.node l a d cc t) :: L) P) : Post F X (.cell a ⟨K', o, d, cc, gE d l.mx t.mx, l.root, t.root, p⟩ :: .tree (some a) K' l :: .tree (some a) K' t :: L) P := fun S h => H S (h.fold e)
theorem p_fold0 {p : Option Addr} {K lim : Int} {l t : T} {d : D} {cc : Bool} {ll rr : Option Addr} (e : lim = gE d l.mx t.mx) (e1 : ll = l.root) (e2 : rr = t.root) (H : Post F X (.tree p K (.node l a d cc t) :: L) P) :
    Post F X (.cell a ⟨K, 0, d, cc, lim, ll, rr, p⟩ :: .tree (some a) K l :: .tree (some a) K t :: L) P := by subst e; subst e1; subst e2; exact p_fold (Int.add_zero K).symm H
theorem p_foldc {p : Option Addr} {K K' o lim : Int} {l t : T} {d : D} {cc : Bool} {ll rr : Option Addr} (e : K' = K + o) (e0 : lim = gE d l.mx t.mx) (e1 : ll = l.root) (e2 : rr = t.root) (H : Post F X (.tree p K (.node l a d cc t) :: L) P) :
    Post F X (.cell a ⟨K', o, d, cc, lim, ll, rr, p⟩ :: .tree (some a) K' l :: .tree (some a) K' t :: L) P := by subst e0; subst e1; subst e2; exact p_fold e H
theorem p_drop {x : At} (H : Post F X L P) : Post F X (x :: L) P := fun S h => H S ⟨h.rt, h.cx, h.own, by have := h.nodup; exact (List.Sublist.append_left (List.sublist_append_right _ _) _).nodup this, fun y hy => h.ok y (List.mem_cons_of_mem _ hy), h.fm⟩
theorem p_nil {p : Option Addr} {K : Int} (H : Post F X (.tree p K .nil :: L) P) : Post F X L P := fun S h => H S ⟨h.rt, h.cx, h.own, h.nodup, fun y hy => by
  rcases List.mem_cons.mp hy with rfl | hy
  · exact ⟨trivial, nofun⟩
  · exact h.ok y hy, h.fm⟩
theorem p_pop {f : Fr} {C : Cx} {h : Option Addr} {M : Option (Option Int)} {K n : Int} (H : ∀ o lim, (∀ m, M = some m → lim = f.gE m) → Post F ⟨some f.a, M.map fun m => some (f.gE m), K - o, n, C⟩ (.cell f.a ⟨K, o, f.d, f.red, lim, f.l h, f.r h, par C⟩ :: .tree (some f.a) K f.sib :: L) P) :
    Post F ⟨h, M, K, n, f :: C⟩ L P := fun S s => let ⟨o, lim, hl, s'⟩ := s.popC; H o lim hl S s'
theorem p_push {f : Fr} {C : Cx} {h h' : Option Addr} {M M' : Option (Option Int)} {K K' n lim o : Int} (H : Post F ⟨h, M, K, n, f :: C⟩ L P) (e1 : h' = some f.a) (e2 : M' = M.map fun m => some (f.gE m)) (e3 : K' = K - o) (hl : ∀ m, M = some m → lim = f.gE m) :
    Post F ⟨h', M', K', n, C⟩ (.cell f.a ⟨K, o, f.d, f.red, lim, f.l h, f.r h, par C⟩ :: .tree (some f.a) K f.sib :: L) P := fun S s => H S (s.pushC e1 e2 e3 hl)
theorem at0 {x : At} : (x :: L)[0]? = some x := rfl
theorem at1 {x y0 : At} : (y0 :: x :: L)[1]? = some x := rfl
theorem at2 {x y0 y1 : At} : (y0 :: y1 :: x :: L)[2]? = some x := rfl
theorem at3 {x y0 y1 y2 : At} : (y0 :: y1 :: y2 :: x :: L)[3]? = some x := rfl
theorem at4 {x y0 y1 y2 y3 : At} : (y0 :: y1 :: y2 :: y3 :: x :: L)[4]? = some x := rfl
theorem at5 {x y0 y1 y2 y3 y4 : At} : (y0 :: y1 :: y2 :: y3 :: y4 :: x :: L)[5]? = some x := rfl
theorem at6 {x y0 y1 y2 y3 y4 y5 : At} : (y0 :: y1 :: y2 :: y3 :: y4 :: y5 :: x :: L)[6]? = some x := rfl
theorem p_rc {r' : Rc} (e : r.nr = r'.nr) (H : Post F X (.cell a r' :: L) P) : Post F X (.cell a r :: L) P := fun S h => H S ⟨h.rt, h.cx, h.own, h.nodup, fun y hy => by
  rcases List.mem_cons.mp hy with rfl | hy
  · have := h.ok _ List.mem_cons_self; exact ⟨this.1.trans (congrArg some e), this.2⟩
  · exact h.ok y (List.mem_cons_of_mem _ hy), h.fm⟩
theorem p_K0 {h : Option Addr} {M : Option (Option Int)} {K n : Int} (H : K = 0 → Post F ⟨h, M, K, n, []⟩ L P) : Post F ⟨h, M, K, n, []⟩ L P := fun S s => H s.cx S s
theorem p_M0 {h : Option Addr} {M : Option (Option Int)} {K n : Int} (M' : Option (Option Int)) (H : Post F ⟨h, M', K, n, []⟩ L P) : Post F ⟨h, M, K, n, []⟩ L P := fun S s => H S ⟨s.rt, s.cx, s.own, s.nodup, s.ok, s.fm⟩
theorem p_ptNil {h : Option Addr} {M : Option (Option Int)} (H : Post F X (.pt [] h M :: L) P) : Post F X L P := fun S s => H S ⟨s.rt, s.cx, s.own, s.nodup, fun y hy => by
  rcases List.mem_cons.mp hy with rfl | hy
  · exact ⟨trivial, nofun⟩
  · exact s.ok y hy, s.fm⟩
theorem p_ptPop {f : Fr} {C : Cx} {h : Option Addr} {M : Option (Option Int)} (H : ∀ lim, (∀ m, M = some m → lim = f.gE m) → Post F X (.cell f.a ⟨0, 0, f.d, f.red, lim, f.l h, f.r h, par C⟩ :: .tree (some f.a) 0 f.sib :: .pt C (some f.a) (M.map fun m => some (f.gE m)) :: L) P) : Post F X (.pt (f :: C) h M :: L) P := fun S s => by
  obtain ⟨⟨⟨lim, h2, hl⟩, h3, h1⟩, hA⟩ := s.ok _ List.mem_cons_self
  refine H lim hl S ⟨s.rt, s.cx, s.own, ?_, fun y hy => ?_, s.fm⟩
  · have := s.nodup
    simpa [ads, At.ad, Cx.ad] using this
  rcases List.mem_cons.mp hy with rfl | hy
  · exact ⟨h2, hA _ List.mem_cons_self⟩
  rcases List.mem_cons.mp hy with rfl | hy
  · exact ⟨h3, fun x hx => hA x (List.mem_cons_of_mem _ (List.mem_append_left _ hx))⟩
  rcases List.mem_cons.mp hy with rfl | hy
  · exact ⟨h1, fun x hx => hA x (List.mem_cons_of_mem _ (List.mem_append_right _ hx))⟩
  · exact s.ok y (List.mem_cons_of_mem _ hy)
theorem p_ptPush {f : Fr} {C : Cx} {h h' : Option Addr} {M M' : Option (Option Int)} {lim : Int} {ll rr : Option Addr} (H : Post F X (.pt (f :: C) h M :: L) P) (hl : ∀ m, M = some m → lim = f.gE m) (e1 : h' = some f.a) (e2 : M' = M.map fun m => some (f.gE m)) (e3 : ll = f.l h) (e4 : rr = f.r h) :
    Post F X (.cell f.a ⟨0, 0, f.d, f.red, lim, ll, rr, par C⟩ :: .tree (some f.a) 0 f.sib :: .pt C h' M' :: L) P := fun S s => by
  subst e1; subst e2; subst e3; subst e4
  have h1 := s.ok _ List.mem_cons_self
  have h2 := s.ok (.tree (some f.a) 0 f.sib) (by simp)
  have h3 := s.ok (.pt C (some f.a) (M.map fun m => some (f.gE m))) (by simp)
  refine H S ⟨s.rt, s.cx, s.own, ?_, fun y hy => ?_, s.fm⟩
  · have := s.nodup
    simpa [ads, At.ad, Cx.ad] using this
  rcases List.mem_cons.mp hy with rfl | hy
  · refine ⟨⟨⟨lim, h1.1, hl⟩, h2.1, h3.1⟩, fun x hx => ?_⟩
    rcases List.mem_cons.mp hx with rfl | hx
    · exact h1.2
    rcases List.mem_append.mp hx with hx | hx
    · exact h2.2 x hx
    · exact h3.2 x hx
  · exact s.ok y (by simp [hy])
theorem p_spNil {p h : Option Addr} (H : Post F X (.sp p [] h :: L) P) : Post F X L P := fun S s => H S ⟨s.rt, s.cx, s.own, s.nodup, fun y hy => by
  rcases List.mem_cons.mp hy with rfl | hy
  · exact ⟨trivial, nofun⟩
  · exact s.ok y hy, s.fm⟩
noncomputable def pb : Option Addr → Cx → Option Addr
  | p, [] => p
  | _, g :: D => pb (some g.a) D
theorem IsSp.snoc {nd : Nd} {g : Fr} {h : Option Addr} : ∀ {D : Cx} {p : Option Addr}, IsSp nd p (D ++ [g]) h ↔ IsSp nd p D (some g.a) ∧ (∃ lim, nd g.a = some (mkR 0 0 g.d g.red lim h g.sib.root (pb p D))) ∧ IsT nd (some g.a) 0 g.sib
  | [], p => ⟨fun ⟨x, y, _⟩ => ⟨trivial, x, y⟩, fun ⟨_, x, y⟩ => ⟨x, y, trivial⟩⟩
  | f :: D, p => by
    have e : rt (D ++ [g]) h = rt D (some g.a) := by cases D <;> rfl
    show (_ ∧ _ ∧ IsSp nd (some f.a) (D ++ [g]) h) ↔ ((_ ∧ _ ∧ IsSp nd (some f.a) D (some g.a)) ∧ _)
    rw [IsSp.snoc, show rt (D.append [g]) h = rt D (some g.a) from e]
    exact ⟨fun ⟨a, b, c, d⟩ => ⟨⟨a, b, c⟩, d⟩, fun ⟨⟨a, b, c⟩, d⟩ => ⟨a, b, c, d⟩⟩
theorem Cx.ad_app : ∀ (A B : Cx), Cx.ad (A ++ B) = Cx.ad A ++ Cx.ad B
  | [], _ => rfl
  | f :: A, B => by
    show f.a :: (f.sib.ad ++ Cx.ad (A ++ B)) = _
    rw [Cx.ad_app A B, ← List.append_assoc]; rfl
theorem spAds (D : Cx) (g : Fr) (p q r : Option Addr) (rc : Rc) : (ads (.sp p (D ++ [g]) q :: L)) = ads (.sp p D r :: .cell g.a rc :: .tree (some g.a) 0 g.sib :: L) := by
  show Cx.ad (D ++ [g]) ++ ads L = Cx.ad D ++ ([g.a] ++ (g.sib.ad ++ ads L))
  rw [Cx.ad_app]
  show (Cx.ad D ++ (g.a :: (g.sib.ad ++ []))) ++ ads L = _
  simp
theorem p_snoc {p h : Option Addr} {D : Cx} {lim : Int} {g : Fr} (H : Post F X (.sp p (D ++ [g]) h :: L) P) : Post F X (.sp p D (some g.a) :: .cell g.a ⟨0, 0, g.d, g.red, lim, h, g.sib.root, pb p D⟩ :: .tree (some g.a) 0 g.sib :: L) P := fun S s => by
  have h1 := s.ok _ List.mem_cons_self
  have h2 := s.ok (.cell g.a ⟨0, 0, g.d, g.red, lim, h, g.sib.root, pb p D⟩) (by simp)
  have h3 := s.ok (.tree (some g.a) 0 g.sib) (by simp)
  refine H S ⟨s.rt, s.cx, s.own, by rw [spAds]; exact s.nodup, fun y hy => ?_, s.fm⟩
  rcases List.mem_cons.mp hy with rfl | hy
  · refine ⟨IsSp.snoc.mpr ⟨h1.1, ⟨lim, h2.1⟩, h3.1⟩, fun x hx => ?_⟩
    rw [Cx.ad_app] at hx
    rcases List.mem_append.mp hx with hx | hx
    · exact h1.2 x hx
    rcases List.mem_cons.mp hx with rfl | hx
    · exact h2.2
    · exact h3.2 x (by simpa [Cx.ad] using hx)
  · exact s.ok y (by simp [hy])
theorem p_unsnoc {p h : Option Addr} {D : Cx} {g : Fr} (H : ∀ lim, Post F X (.sp p D (some g.a) :: .cell g.a ⟨0, 0, g.d, g.red, lim, h, g.sib.root, pb p D⟩ :: .tree (some g.a) 0 g.sib :: L) P) : Post F X (.sp p (D ++ [g]) h :: L) P := fun S s => by
  obtain ⟨h1, hA⟩ := s.ok _ List.mem_cons_self
  obtain ⟨h1, ⟨lim, h2⟩, h3⟩ := IsSp.snoc.mp h1
  rw [Cx.ad_app] at hA
  refine H lim S ⟨s.rt, s.cx, s.own, by rw [← spAds]; exact s.nodup, fun y hy => ?_, s.fm⟩
  rcases List.mem_cons.mp hy with rfl | hy
  · exact ⟨h1, fun x hx => hA x (List.mem_append_left _ hx)⟩
  rcases List.mem_cons.mp hy with rfl | hy
  · exact ⟨h2, hA _ (List.mem_append_right _ List.mem_cons_self)⟩
  rcases List.mem_cons.mp hy with rfl | hy
  · exact ⟨h3, fun x hx => hA x (List.mem_append_right _ (List.mem_cons_of_mem _ (List.mem_append_left _ hx)))⟩
  · exact s.ok y (List.mem_cons_of_mem _ hy)
theorem p_uncons {p h : Option Addr} {D : Cx} {g : Fr} (H : ∀ lim, Post F X (.cell g.a ⟨0, 0, g.d, g.red, lim, rt D h, g.sib.root, p⟩ :: .tree (some g.a) 0 g.sib :: .sp (some g.a) D h :: L) P) : Post F X (.sp p (g :: D) h :: L) P := fun S s => by
  obtain ⟨⟨⟨lim, h2⟩, h3, h1⟩, hA⟩ := s.ok _ List.mem_cons_self
  refine H lim S ⟨s.rt, s.cx, s.own, ?_, fun y hy => ?_, s.fm⟩
  · have := s.nodup
    simpa [ads, At.ad, Cx.ad] using this
  rcases List.mem_cons.mp hy with rfl | hy
  · exact ⟨h2, hA _ List.mem_cons_self⟩
  rcases List.mem_cons.mp hy with rfl | hy
  · exact ⟨h3, fun x hx => hA x (List.mem_cons_of_mem _ (List.mem_append_left _ hx))⟩
  rcases List.mem_cons.mp hy with rfl | hy
  · exact ⟨h1, fun x hx => hA x (List.mem_cons_of_mem _ (List.mem_append_right _ hx))⟩
  · exact s.ok y (List.mem_cons_of_mem _ hy)
theorem p_cons {p h : Option Addr} {D : Cx} {g : Fr} {lim : Int} (H : Post F X (.sp p (g :: D) h :: L) P) : Post F X (.cell g.a ⟨0, 0, g.d, g.red, lim, rt D h, g.sib.root, p⟩ :: .tree (some g.a) 0 g.sib :: .sp (some g.a) D h :: L) P := fun S s => by
  have h1 := s.ok _ List.mem_cons_self
  have h2 := s.ok (.tree (some g.a) 0 g.sib) (by simp)
  have h3 := s.ok (.sp (some g.a) D h) (by simp)
  refine H S ⟨s.rt, s.cx, s.own, ?_, fun y hy => ?_, s.fm⟩
  · have := s.nodup
    simpa [ads, At.ad, Cx.ad] using this
  rcases List.mem_cons.mp hy with rfl | hy
  · refine ⟨⟨⟨lim, h1.1⟩, h2.1, h3.1⟩, fun x hx => ?_⟩
    rcases List.mem_cons.mp hx with rfl | hx
    · exact h1.2
    rcases List.mem_append.mp hx with hx | hx
    · exact h2.2 x hx
    · exact h3.2 x hx
  · exact s.ok y (by simp [hy])
theorem IsC.old {nd : Nd} : ∀ {C : Cx} {h : Option Addr} {M : Option (Option Int)} {K : Int}, IsC nd h M K C → IsC nd h none K C
  | [], _, _, _, h => h
  | _ :: _, _, _, _, ⟨o, lim, x, _, y, z⟩ => ⟨o, lim, x, nofun, y, z.old⟩
theorem p_old {h : Option Addr} {M : Option (Option Int)} {K n : Int} {C : Cx} (H : Post F ⟨h, none, K, n, C⟩ L P) : Post F ⟨h, M, K, n, C⟩ L P := fun S s => H S ⟨s.rt, s.cx.old, s.own, s.nodup, s.ok, s.fm⟩
theorem p_spC {n : Int} : ∀ {D : Cx} {h : Option Addr} {C : Cx}, (∀ f ∈ D, f.left = true) → Post F ⟨h, none, 0, n, D.reverse ++ C⟩ L P → Post F ⟨rt D h, none, 0, n, C⟩ (.sp (par C) D h :: L) P
  | [], _, _, _, H => p_drop H
  | g :: D, h, C, hl, H => p_uncons fun lim => by
    have e : g.left = true := hl g List.mem_cons_self
    obtain ⟨left, a, d, cc, sb⟩ := g
    cases e
    refine p_push (f := ⟨true, a, d, cc, sb⟩) (h := rt D h) (M := none) ?_ rfl rfl rfl nofun
    exact p_spC (C := ⟨true, a, d, cc, sb⟩ :: C) (fun f hf => hl f (List.mem_cons_of_mem _ hf)) (by rw [List.reverse_cons, List.append_assoc] at H; exact H)
theorem rootC_mem (g : Fr) (C : Cx) (h : Option Addr) : ∃ ρ, rootC (g :: C) h = some ρ ∧ ρ ∈ Cx.ad (g :: C) := by
  induction C generalizing g h with
  | nil => exact ⟨g.a, rfl, List.mem_cons_self⟩
  | cons f C ih =>
    obtain ⟨ρ, h1, h2⟩ := ih f (some g.a)
    exact ⟨ρ, h1, List.mem_cons_of_mem _ (List.mem_append_right _ h2)⟩
theorem Sat.notRoot {S : Sto} {g : Fr} {C : Cx} {h : Option Addr} {M : Option (Option Int)} {K n : Int} (s : Sat F ⟨h, M, K, n, g :: C⟩ L S) (hi : hdAt i L = some a) : ∃ ρ, rootC (g :: C) h = some ρ ∧ S.isNode ρ = true ∧ ¬ a = ρ := by
  obtain ⟨ρ, e, hm⟩ := rootC_mem g C h
  obtain ⟨x, h1, h2⟩ := hdAt_ok hi
  obtain ⟨rr, hr⟩ := s.cx.got hm
  refine ⟨ρ, e, by unfold Sto.isNode; rw [hr]; rfl, fun k => ?_⟩
  subst k
  exact (List.nodup_append.mp s.nodup).2.2 a hm a (mem_ads (List.mem_of_getElem? h1) (hd_ad h2)) rfl
theorem p_isRt (i : Nat) {g : Fr} {C : Cx} {h : Option Addr} {M : Option (Option Int)} {K n : Int} (hg : m.go = ⟨.cmp .Is code, ks, .opt (rootC (g :: C) h) :: .ref a :: st, vs⟩) (hi : hdAt i L = some a)
    (H : Post F ⟨h, M, K, n, g :: C⟩ L (Run c k ⟨code, ks, .bool false :: st, vs⟩ Q)) : Post F ⟨h, M, K, n, g :: C⟩ L (Run c k m Q) :=
  Post.go hg fun S s => ⟨false, by obtain ⟨ρ, e, h1, h2⟩ := s.notRoot hi; rw [e]; exact (Sat.isRef (s.isHd hi) h1).trans (congrArg some (decide_eq_false h2)), H S s⟩
theorem p_isnotRt (i : Nat) {g : Fr} {C : Cx} {h : Option Addr} {M : Option (Option Int)} {K n : Int} (hg : m.go = ⟨.cmp .IsNot code, ks, .opt (rootC (g :: C) h) :: .ref a :: st, vs⟩) (hi : hdAt i L = some a)
    (H : Post F ⟨h, M, K, n, g :: C⟩ L (Run c k ⟨code, ks, .bool true :: st, vs⟩ Q)) : Post F ⟨h, M, K, n, g :: C⟩ L (Run c k m Q) :=
  Post.go hg fun S s => ⟨true, by obtain ⟨ρ, e, h1, h2⟩ := s.notRoot hi; rw [e]; exact (Sat.isnotRef (s.isHd hi) h1).trans (congrArg some (congrArg (!·) (decide_eq_false h2))), H S s⟩
theorem p_noneRt {g : Fr} {C : Cx} {h : Option Addr} {M : Option (Option Int)} {K n : Int} (hg : m.go = ⟨.cmp .IsNot code, ks, .opt (rootC (g :: C) h) :: .none :: st, vs⟩)
    (H : Post F ⟨h, M, K, n, g :: C⟩ L (Run c k ⟨code, ks, .bool true :: st, vs⟩ Q)) : Post F ⟨h, M, K, n, g :: C⟩ L (Run c k m Q) :=
  Post.go hg fun S s => ⟨true, by obtain ⟨ρ, e, _⟩ := rootC_mem g C h; rw [e]; rfl, H S s⟩
theorem p_forl {l : Addr} {i : Nat} {cb : Code} {xs : List AV} (I : List AV → Vs → Xc → List At → Prop) (hg : m.go = ⟨.forl i cb code, ks, [.ref l], vs⟩) (h0 : I xs vs X L) (hl : ∀ rest vs X L, I rest vs X L → ∃ j : Nat, L[j]? = some (.ls l xs))
    (step : ∀ v rest vs X L, I (v :: rest) vs X L → ∃ vs', vs.put i v = some vs' ∧ ∀ J : Vs → Sto → Prop, (∀ vs X L, I rest vs X L → Post F X L (J vs)) → Post F X L (Run c k ⟨cb, .lp J :: ks, [], vs'⟩ Q))
    (fin : ∀ vs X L, I [] vs X L → Post F X L (Run c k ⟨code, ks, [], vs⟩ Q)) : Post F X L (Run c k m Q) := by
  refine Post.go hg ?_
  have lst : ∀ {rest vs X L}, I rest vs X L → ∀ {S}, Sat F X L S → S.lst l = some xs := fun h _ s => let ⟨_, e⟩ := hl _ _ _ _ h; lsLst (s.lsAt e)
  have main : ∀ (rest : List AV) vs X L, I rest vs X L → Post F X L (fun S => forD (fun K' vs S => den c k cb Q K' [] vs S) (fun S => S.lst l = some xs) i (fun vs S => den c k code Q (denKs c k Q ks) [] vs S) rest vs S) := by
    intro rest
    induction rest with
    | nil => exact fun vs X L h S s => ⟨lst h s, fin vs X L h S s⟩
    | cons v rest ih =>
      intro vs X L h S s
      obtain ⟨vs', e, hs⟩ := step v rest vs X L h
      exact ⟨lst h s, vs', e, hs (fun vs S => forD (fun K' vs S => den c k cb Q K' [] vs S) (fun S => S.lst l = some xs) i (fun vs S => den c k code Q (denKs c k Q ks) [] vs S) rest vs S) ih S s⟩
  exact fun S s => ⟨l, xs, rfl, lst h0 s, main xs vs X L h0 S s⟩
end
end
local macro_rules | `(tactic| walk_at "hi") => `(tactic| with_reducible first | exact at0 | exact at1 | exact at2 | exact at3 | exact at4 | exact at5 | exact at6 | exact at7 | exact at8)
local macro_rules | `(tactic| walk_at "hd") => `(tactic| first | exact hd0 rfl | exact hd1 rfl | exact hd2 rfl | exact hd3 rfl | exact hd4 rfl | exact hd5 rfl | exact hd6 rfl)
local macro_rules | `(tactic| walk_at "q") => `(tactic| first
  | (apply p_rd; (focus exact rfl); (focus walk_at "hi"); (focus exact rfl))
  | (apply p_wr; (focus exact rfl); (focus walk_at "hi"); (focus exact rfl); (focus exact rfl))
  | (apply p_wrO; (focus exact rfl); (focus walk_at "hi"); (focus exact rfl); (focus exact rfl))
  | (apply p_cmpT; (focus exact rfl); (focus exact fun _ => rfl))
  | (apply p_cmpF; (focus exact rfl); (focus exact fun _ => rfl))
  | (apply p_same; (focus exact rfl); (focus walk_at "hd"))
  | (apply p_diff; (focus exact rfl); (focus walk_at "hd"); (focus walk_at "hd"); (focus exact rfl))
  | (apply p_sameN; (focus exact rfl); (focus walk_at "hd"))
  | (apply p_diffN; (focus exact rfl); (focus walk_at "hd"); (focus walk_at "hd"); (focus exact rfl))
  | (apply p_rdR; (focus exact rfl))
  | (apply p_rdN; (focus exact rfl))
  | (apply p_wrN; (focus exact rfl))
  | (apply p_wrR; (focus exact rfl))
  | (apply p_call; (focus exact rfl); (focus exact rfl))
  | (apply p_ret; (focus exact rfl))
  | (apply p_fin; (focus exact rfl)))
local macro_rules | `(tactic| walk_at "qq") => `(tactic| repeat walk_at "q")
section
noncomputable abbrev Cnt := List (Addr × D)
noncomputable def T.io : T → Cnt
  | .nil => []
  | .node l a d _ r => l.io ++ (a, d) :: r.io
noncomputable def T.rb : T → Nat → Prop
  | .nil, n => n = 0
  | .node l _ _ true r, n => l.isRed = false ∧ r.isRed = false ∧ l.rb n ∧ r.rb n
  | .node l _ _ false r, n => ∃ m, n = m + 1 ∧ l.rb m ∧ r.rb m
noncomputable def topRed : Cx → Bool
  | [] => false
  | f :: _ => f.red
noncomputable def crb : Cx → Nat → Prop
  | [], _ => True
  | f :: C, n => f.sib.rb n ∧ (f.red = true → f.sib.isRed = false ∧ topRed C = false ∧ C ≠ [] ∧ crb C n) ∧ (f.red = false → crb C (n + 1))
theorem fill_io {t t' : T} (f : Fr) (h : t.io = t'.io) : (f.fill t).io = (f.fill t').io := by
  unfold Fr.fill
  split <;> simp only [T.io, h]
theorem plug_io {t t' : T} (h : t.io = t'.io) : ∀ C : Cx, (plug C t).io = (plug C t').io
  | [] => h
  | f :: C => plug_io (fill_io f h) C
theorem fill_rb {f : Fr} {t : T} {n : Nat} (h : t.rb n) (hs : f.sib.rb n) : (f.red = false → (f.fill t).rb (n + 1)) ∧ (f.red = true → f.sib.isRed = false → t.isRed = false → (f.fill t).rb n) := by
  obtain ⟨left, a, d, c, s⟩ := f
  cases left <;> cases c <;> first
    | exact ⟨fun _ => ⟨n, rfl, hs, h⟩, nofun⟩
    | exact ⟨fun _ => ⟨n, rfl, h, hs⟩, nofun⟩
    | exact ⟨nofun, fun _ h1 h2 => ⟨h1, h2, hs, h⟩⟩
    | exact ⟨nofun, fun _ h1 h2 => ⟨h2, h1, h, hs⟩⟩
theorem fill_red (f : Fr) (t : T) : (f.fill t).isRed = f.red := by unfold Fr.fill; split <;> rfl
theorem plug_rb : ∀ {C : Cx} {t : T} {n : Nat}, t.rb n → crb C n → (t.isRed = true → topRed C = false ∧ C ≠ []) → (∃ N, (plug C t).rb N) ∧ (plug C t).isRed = false
  | [], t, n, h, _, hr => by
    refine ⟨⟨n, h⟩, ?_⟩
    cases q : t.isRed with
    | false => exact q
    | true => exact absurd rfl (hr q).2
  | f :: C, t, n, h, hc, hr => by
    obtain ⟨h1, h2, h3⟩ := hc
    have key := fill_rb h h1
    cases q : f.red with
    | true =>
      obtain ⟨e1, e2, e3, e4⟩ := h2 q
      have tr : t.isRed = false := by
        cases q2 : t.isRed with
        | false => rfl
        | true => have := (hr q2).1; rw [show topRed (f :: C) = f.red from rfl, q] at this; cases this
      exact plug_rb (C := C) (key.2 q e1 tr) e4 fun _ => ⟨e2, e3⟩
    | false => exact plug_rb (C := C) (key.1 q) (h3 q) fun e => by rw [fill_red, q] at e; cases e
theorem io_mem {x : Addr} : ∀ {t : T}, x ∈ t.ad ↔ x ∈ t.io.map Prod.fst
  | .nil => Iff.rfl
  | .node l a d c r => by
    simp only [T.ad, T.io, List.map_append, List.map_cons, List.mem_append, List.mem_cons, io_mem (t := l), io_mem (t := r)]
    exact or_left_comm
theorem omax_a (x y : Int) (b : Option Int) : omax x (some (omax y b)) = omax (omax x (some y)) b := by
  cases b with
  | none => rfl
  | some b => exact (Int.max_assoc x y b).symm
theorem omax_c (x : Int) (a b : Option Int) : omax (omax x a) b = omax (omax x b) a := by
  cases a with
  | none => rfl
  | some a =>
    cases b with
    | none => rfl
    | some b => exact (Int.max_assoc x a b).trans ((congrArg (max x) (Int.max_comm a b)).trans (Int.max_assoc x b a).symm)
theorem gE_rot (d e : D) (l m r : Option Int) : gE e (some (gE d l m)) r = gE d l (some (gE e m r)) := by
  unfold gE
  rw [omax_a, omax_a, omax_a, omax_a, omax_c d.e l (some e.e), show omax e.e (some d.e) = omax d.e (some e.e) from Int.max_comm ..]
theorem mx_rot (l m r : T) (a b : Addr) (d e : D) (ca cb cc cd : Bool) : (T.node (.node l a d ca m) b e cb r).mx = (T.node l a d cc (.node m b e cd r)).mx := congrArg some (gE_rot d e l.mx m.mx r.mx)
noncomputable def pre : Cx → Cnt
  | [] => []
  | f :: C => if f.left then pre C else pre C ++ (f.sib.io ++ [(f.a, f.d)])
noncomputable def post : Cx → Cnt
  | [] => []
  | f :: C => if f.left then ((f.a, f.d) :: f.sib.io) ++ post C else post C
theorem plug_split : ∀ (C : Cx) (t : T), (plug C t).io = pre C ++ (t.io ++ post C)
  | [], t => by simp [plug, pre, post]
  | f :: C, t => by
    obtain ⟨left, a, d, c, sib⟩ := f
    have ih := plug_split C
    cases left <;> simp [plug, Fr.fill, pre, post, T.io, ih]
noncomputable def Srt (L : Cnt) : Prop := L.Pairwise fun p q => p.2.b ≤ q.2.b
theorem ad_perm_io : ∀ t : T, t.ad.Perm (t.io.map Prod.fst)
  | .nil => List.Perm.refl _
  | .node l a d c r => by
    show (a :: (l.ad ++ r.ad)).Perm ((l.io ++ (a, d) :: r.io).map Prod.fst)
    rw [List.map_append, List.map_cons]
    exact (List.Perm.cons a ((ad_perm_io l).append (ad_perm_io r))).trans List.perm_middle.symm
end
section
section
variable {F : Fc} {X : Xc} {R : List At} {c : Cst} {k : Nat} {Q : AV → Sto → Prop}
theorem Post.fn {f : Addr} {np nl : Nat} {code : Code} {args : List AV} {L : List At} (h : Fn f np nl code) (ha : args.length = np) (H : Post F X L (Run c k ⟨code, [], [], vsOf args nl⟩ Q)) : Post F X L (CW c (k + 1) (.ref f) args Q) := fun S s => h c k args Q S ha (H S s)
theorem Post.int {L : List At} {x y : Int} (e : x = y) (H : Post F X L (Q (.int y))) : Post F X L (Q (.int x)) := e ▸ H
theorem mxA (x y k : Int) : max (x + k) (y + k) = max x y + k := by
  rcases Int.le_total x y with h | h
  · rw [Int.max_eq_right h, Int.max_eq_right (Int.add_le_add_right h k)]
  · rw [Int.max_eq_left h, Int.max_eq_left (Int.add_le_add_right h k)]
theorem sub_o (y K o : Int) : y - (K + o) + o = y - K := by rw [← Int.sub_sub, Int.sub_add_cancel]
theorem mK (x y K o : Int) : max (x - K) (y - (K + o) + o) = max x y - K := by rw [sub_o]; exact mxA x y (-K)
theorem greatest_end_ok {a : Addr} {K o lim : Int} {d : D} {cc : Bool} {l t : T} {p q q' : Option Addr}
    (H : Post F X (.cell a ⟨K, o, d, cc, lim, l.root, t.root, p⟩ :: .tree q K l :: .tree q' K t :: R) (Q (.int (gE d l.mx t.mx - K)))) :
    Post F X (.cell a ⟨K, o, d, cc, lim, l.root, t.root, p⟩ :: .tree q K l :: .tree q' K t :: R) (CW c (k + 1) (.ref 77) [.ref a] Q) := by
  refine Post.fn f77 rfl ?_
  walk_at "qq"
  cases l with
  | nil =>
    cases t with
    | nil => walk_at "qq"; exact H
    | node tl ta td tc tr =>
      refine p_unf 2 rfl (fun _ => rfl) fun o1 => ?_
      walk_at "qq"
      refine Post.max ?_
      walk_at "qq"
      refine Post.int (mK ..) (p_fr [2, 2, 2] rfl (p_fold rfl (p_fr [1, 1] rfl H)))
  | node ll la ld lc lr =>
    refine p_unf 1 rfl (fun _ => rfl) fun o1 => ?_
    cases t with
    | nil =>
      walk_at "qq"
      refine Post.max ?_
      walk_at "qq"
      refine Post.int (mK ..) (p_fr [1, 1, 1] rfl (p_fold rfl (p_fr [1] rfl H)))
    | node tl ta td tc tr =>
      refine p_unf 4 rfl (fun _ => rfl) fun o2 => ?_
      walk_at "qq"
      refine Post.max ?_
      walk_at "qq"
      refine Post.max ?_
      walk_at "qq"
      refine Post.int ((congrArg (max · _) (mK ..)).trans (mK ..)) (p_fr [1, 1, 1] rfl (p_fold rfl (p_fr [2, 2, 2] rfl (p_fold rfl (p_fr [2, 1] rfl H)))))
end
end
section
section
variable {F : Fc} {X : Xc} {R : List At} {c : Cst} {k : Nat} {Q : AV → Sto → Prop}
theorem hdK (b K o : Int) : b - (K + o) + o + (K + o) - (K + o) = b - K := by rw [Int.add_sub_cancel, sub_o]
theorem hd_nr {K o lim : Int} {d : D} {cc : Bool} {l r p : Option Addr} : (Rc.mk (K + o) 0 ⟨d.num, d.b - (K + o) + o + (K + o), d.e - (K + o) + o + (K + o), d.fr, d.re⟩ cc (lim - (K + o) + o + (K + o)) l r p).nr = (Rc.mk K 0 d cc lim l r p).nr := by
  simp only [Rc.nr, mkR, hdK]
theorem hdO (K o o1 : Int) : K + o + o1 = K + (o1 + o) := by rw [Int.add_assoc, Int.add_comm o]
theorem hand_down_ok {a : Addr} {K : Int} {d : D} {cc : Bool} {l t : T} {p : Option Addr}
    (H : Post F X (.cell a ⟨K, 0, d, cc, gE d l.mx t.mx, l.root, t.root, p⟩ :: .tree (some a) K l :: .tree (some a) K t :: R) (Q .none)) :
    Post F X (.tree p K (.node l a d cc t) :: R) (CW c (k + 1) (.ref 63) [.ref a] Q) := by
  refine Post.fn f63 rfl (p_unf 0 rfl (fun _ => rfl) fun o => ?_)
  walk_at "qq"
  refine p_cmpB rfl (fun _ => rfl) (fun h0 => ?_) (fun h0 => ?_)
  · subst h0
    rw [Int.add_zero]
    walk_at "qq"
    exact H
  clear h0
  cases l with
  | nil =>
    cases t with
    | nil => walk_at "qq"; exact p_rc (hd_nr (K := K) (o := o) (d := d)) (p_fr [1, 1] rfl (p_drop (p_drop (p_nil (p_nil (p_fr [2] rfl H))))))
    | node tl ta td tc tr =>
      refine p_unf 2 rfl (fun _ => rfl) fun o1 => ?_
      walk_at "qq"
      exact p_rc (hd_nr (K := K) (o := o) (d := d)) (p_fr [2, 2, 2] rfl (p_fold (hdO ..) (p_fr [2] rfl (p_drop (p_nil (p_fr [2, 0, 0] rfl H))))))
  | node ll la ld lc lr =>
    refine p_unf 1 rfl (fun _ => rfl) fun o1 => ?_
    cases t with
    | nil =>
      walk_at "qq"
      exact p_rc (hd_nr (K := K) (o := o) (d := d)) (p_fr [1, 1, 1] rfl (p_fold (hdO ..) (p_fr [2] rfl (p_drop (p_nil (p_fr [2, 1] rfl H))))))
    | node tl ta td tc tr =>
      refine p_unf 4 rfl (fun _ => rfl) fun o2 => ?_
      walk_at "qq"
      exact p_rc (hd_nr (K := K) (o := o) (d := d)) (p_fr [1, 1, 1] rfl (p_fold (hdO ..) (p_fr [2, 2, 2] rfl (p_fold (hdO ..) (p_fr [2, 1] rfl H)))))
theorem hang_cell {a b : Addr} {ra : Rc} {K1 o1 lim1 K n : Int} {d1 : D} {c1 : Bool} {l1 r1 p1 : Option Addr} {M : Option (Option Int)} {C : Cx}
    (H : Post F ⟨some b, M, K, n, C⟩ (.cell a ra :: .cell b ⟨K1, o1, d1, c1, lim1, l1, r1, par C⟩ :: R) (Q .none)) :
    Post F ⟨some a, M, K, n, C⟩ (.cell a ra :: .cell b ⟨K1, o1, d1, c1, lim1, l1, r1, p1⟩ :: R) (CW c (k + 1) (.ref 91) [.ref F.tr, .opt (par C), .ref a, .ref b] Q) := by
  refine Post.fn f91 rfl ?_
  cases C with
  | nil =>
    walk_at "q"
    refine p_wrR (h' := some b) (M' := M) rfl ?_
    walk_at "qq"
    exact H
  | cons f C =>
    obtain ⟨left, fa, fd, fred, sib⟩ := f
    refine p_pop fun o lim hl => ?_
    cases left with
    | true => walk_at "qq"; exact p_push (f := ⟨true, fa, fd, fred, sib⟩) (h := some b) H rfl rfl rfl hl
    | false =>
      cases sib with
      | nil => walk_at "qq"; exact p_push (f := ⟨false, fa, fd, fred, .nil⟩) (h := some b) H rfl rfl rfl hl
      | node sl sa sd sc sr => walk_at "qq"; exact p_push (f := ⟨false, fa, fd, fred, .node sl sa sd sc sr⟩) (h := some b) H rfl rfl rfl hl
theorem hang_none {a : Addr} {ra : Rc} {K n : Int} {M : Option (Option Int)} {C : Cx}
    (H : Post F ⟨none, M, K, n, C⟩ (.cell a ra :: R) (Q .none)) : Post F ⟨some a, M, K, n, C⟩ (.cell a ra :: R) (CW c (k + 1) (.ref 91) [.ref F.tr, .opt (par C), .ref a, .none] Q) := by
  refine Post.fn f91 rfl ?_
  cases C with
  | nil =>
    walk_at "q"
    refine p_wrR (h' := none) (M' := M) rfl ?_
    walk_at "qq"
    exact H
  | cons f C =>
    obtain ⟨left, fa, fd, fred, sib⟩ := f
    refine p_pop fun o lim hl => ?_
    cases left with
    | true => walk_at "qq"; exact p_push (f := ⟨true, fa, fd, fred, sib⟩) (h := none) H rfl rfl rfl hl
    | false =>
      cases sib with
      | nil => walk_at "qq"; exact p_push (f := ⟨false, fa, fd, fred, .nil⟩) (h := none) H rfl rfl rfl hl
      | node sl sa sd sc sr => walk_at "qq"; exact p_push (f := ⟨false, fa, fd, fred, .node sl sa sd sc sr⟩) (h := none) H rfl rfl rfl hl
end
end
section
section
variable {F : Fc} {X : Xc} {R : List At} {c : Cst} {k : Nat} {Q : AV → Sto → Prop}
theorem turn_left_ok {a b : Addr} {K n : Int} {d e : D} {ca cb : Bool} {l m r : T} {M : Option (Option Int)} {C : Cx}
    (H : Post F ⟨some b, M, K, n, C⟩ (.tree (par C) K (.node (.node l a d ca m) b e cb r) :: R) (Q .none)) :
    Post F ⟨some a, M, K, n, C⟩ (.tree (par C) K (.node l a d ca (.node m b e cb r)) :: R) (CW c (k + 2) (.ref 98) [.ref F.tr, .ref a] Q) := by
  refine Post.fn f98 rfl (p_unf 0 rfl (fun _ => rfl) fun o => ?_)
  walk_at "qq"
  refine p_fold rfl (hand_down_ok ?_)
  walk_at "qq"
  refine p_fr [2] rfl (hand_down_ok ?_)
  walk_at "qq"
  cases m with
  | nil =>
    walk_at "qq"
    refine p_fr [1] rfl (p_drop (p_nil (p := some a) (K := K) (p_fr [1] rfl ?_)))
    refine p_fr [3, 0] rfl (hang_cell ?_)
    walk_at "qq"
    refine p_fr [0, 3, 1] rfl (greatest_end_ok ?_)
    walk_at "qq"
    refine p_fold0 (Int.sub_add_cancel ..) rfl rfl (p_fr [1, 0] rfl (greatest_end_ok (l := .node l a d ca .nil) ?_))
    walk_at "qq"
    exact p_fold0 (Int.sub_add_cancel ..) rfl rfl H
  | node ml ma md mc mr =>
    refine p_unf 1 rfl (fun _ => rfl) fun o3 => ?_
    walk_at "qq"
    refine p_fr [1, 1, 1] rfl (p_fold rfl (p_fr [1] rfl ?_))
    refine p_fr [3, 0] rfl (hang_cell ?_)
    walk_at "qq"
    refine p_fr [0, 3, 1] rfl (greatest_end_ok (t := .node ml ma md mc mr) ?_)
    walk_at "qq"
    refine p_fold0 (Int.sub_add_cancel ..) rfl rfl (p_fr [1, 0] rfl (greatest_end_ok (l := .node l a d ca (.node ml ma md mc mr)) ?_))
    walk_at "qq"
    exact p_fold0 (Int.sub_add_cancel ..) rfl rfl H
theorem turn_right_ok {a b : Addr} {K n : Int} {d e : D} {ca cb : Bool} {l m r : T} {M : Option (Option Int)} {C : Cx}
    (H : Post F ⟨some b, M, K, n, C⟩ (.tree (par C) K (.node r b e cb (.node m a d ca l)) :: R) (Q .none)) :
    Post F ⟨some a, M, K, n, C⟩ (.tree (par C) K (.node (.node r b e cb m) a d ca l) :: R) (CW c (k + 2) (.ref 105) [.ref F.tr, .ref a] Q) := by
  refine Post.fn f105 rfl (p_unf 0 rfl (fun _ => rfl) fun o => ?_)
  walk_at "qq"
  refine p_fold rfl (hand_down_ok ?_)
  walk_at "qq"
  refine p_fr [1] rfl (hand_down_ok ?_)
  walk_at "qq"
  cases m with
  | nil =>
    walk_at "qq"
    refine p_fr [2] rfl (p_drop (p_nil (p := some a) (K := K) (p_fr [3, 1] rfl (hang_cell ?_))))
    walk_at "qq"
    refine p_fr [0, 1, 2] rfl (greatest_end_ok ?_)
    walk_at "qq"
    refine p_fold0 (Int.sub_add_cancel ..) rfl rfl (p_fr [1, 1] rfl (greatest_end_ok (t := .node .nil a d ca l) ?_))
    walk_at "qq"
    exact p_fold0 (Int.sub_add_cancel ..) rfl rfl H
  | node ml ma md mc mr =>
    refine p_unf 2 rfl (fun _ => rfl) fun o3 => ?_
    walk_at "qq"
    refine p_fr [2, 2, 2] rfl (p_fold rfl (p_fr [3, 1] rfl (hang_cell ?_)))
    walk_at "qq"
    refine p_fr [0, 1, 2] rfl (greatest_end_ok (l := .node ml ma md mc mr) ?_)
    walk_at "qq"
    refine p_fold0 (Int.sub_add_cancel ..) rfl rfl (p_fr [1, 1] rfl (greatest_end_ok (t := .node (.node ml ma md mc mr) a d ca l) ?_))
    walk_at "qq"
    exact p_fold0 (Int.sub_add_cancel ..) rfl rfl H
theorem is_red_t {p : Option Addr} {K : Int} {t : T} (H : Post F X (.tree p K t :: R) (Q (.bool t.isRed))) : Post F X (.tree p K t :: R) (CW c (k + 1) (.ref 112) [.opt t.root] Q) := by
  refine Post.fn f112 rfl ?_
  cases t with
  | nil => walk_at "qq"; exact H
  | node l a d cc r =>
    refine p_unf 0 rfl (fun _ => rfl) fun o => ?_
    walk_at "qq"
    exact p_fold rfl H
theorem is_red_c {a : Addr} {K o lim : Int} {d : D} {cc : Bool} {l r p : Option Addr} (H : Post F X (.cell a ⟨K, o, d, cc, lim, l, r, p⟩ :: R) (Q (.bool cc))) : Post F X (.cell a ⟨K, o, d, cc, lim, l, r, p⟩ :: R) (CW c (k + 1) (.ref 112) [.ref a] Q) := by
  refine Post.fn f112 rfl ?_
  walk_at "qq"
  exact H
theorem is_red_n {L : List At} (H : Post F X L (Q (.bool false))) : Post F X L (CW c (k + 1) (.ref 112) [.none] Q) := by
  refine Post.fn f112 rfl ?_
  walk_at "qq"
  exact H
theorem sibling_L {a : Addr} {K o lim : Int} {d : D} {cc : Bool} {l r p : Option Addr} (H : Post F X (.cell a ⟨K, o, d, cc, lim, l, r, p⟩ :: R) (Q (.opt r))) : Post F X (.cell a ⟨K, o, d, cc, lim, l, r, p⟩ :: R) (CW c (k + 1) (.ref 168) [.ref a, .bool true] Q) := by
  refine Post.fn f168 rfl ?_
  walk_at "qq"
  exact H
theorem sibling_R {a : Addr} {K o lim : Int} {d : D} {cc : Bool} {l r p : Option Addr} (H : Post F X (.cell a ⟨K, o, d, cc, lim, l, r, p⟩ :: R) (Q (.opt l))) : Post F X (.cell a ⟨K, o, d, cc, lim, l, r, p⟩ :: R) (CW c (k + 1) (.ref 168) [.ref a, .bool false] Q) := by
  refine Post.fn f168 rfl ?_
  walk_at "qq"
  exact H
theorem towards_L {a b : Addr} {K n : Int} {d e : D} {ca cb : Bool} {l m r : T} {M : Option (Option Int)} {C : Cx}
    (H : Post F ⟨some b, M, K, n, C⟩ (.tree (par C) K (.node (.node l a d ca m) b e cb r) :: R) (Q .none)) :
    Post F ⟨some a, M, K, n, C⟩ (.tree (par C) K (.node l a d ca (.node m b e cb r)) :: R) (CW c (k + 3) (.ref 175) [.ref F.tr, .ref a, .bool true] Q) := by
  refine Post.fn f175 rfl ?_
  walk_at "qq"
  refine turn_left_ok ?_
  walk_at "qq"
  exact H
theorem towards_R {a b : Addr} {K n : Int} {d e : D} {ca cb : Bool} {l m r : T} {M : Option (Option Int)} {C : Cx}
    (H : Post F ⟨some b, M, K, n, C⟩ (.tree (par C) K (.node r b e cb (.node m a d ca l)) :: R) (Q .none)) :
    Post F ⟨some a, M, K, n, C⟩ (.tree (par C) K (.node (.node r b e cb m) a d ca l) :: R) (CW c (k + 3) (.ref 175) [.ref F.tr, .ref a, .bool false] Q) := by
  refine Post.fn f175 rfl ?_
  walk_at "qq"
  refine turn_right_ok ?_
  walk_at "qq"
  exact H
end
end
section
section
variable {F : Fc} {n : Int} {R : List At} {C : Cx} {t : T} {P : Sto → Prop} {c : Cst} {k : Nat} {Q : AV → Sto → Prop}
noncomputable def Z (F : Fc) (n : Int) (C : Cx) (t : T) (R : List At) (P : Sto → Prop) : Prop := ∀ K, Post F ⟨t.root, some t.mx, K, n, C⟩ (.tree (par C) K t :: R) P
theorem pop_fold {f : Fr} {K o lim : Int} {X : Xc} {p : Option Addr} (e : lim = f.gE t.mx) (H : Post F X (.tree p (K - o) (f.fill t) :: R) P) :
    Post F X (.cell f.a ⟨K, o, f.d, f.red, lim, f.l t.root, f.r t.root, p⟩ :: .tree (some f.a) K f.sib :: .tree (some f.a) K t :: R) P := by
  obtain ⟨left, a, d, cc, s⟩ := f
  subst e
  cases left
  · exact p_fold (K := K - o) (Int.sub_add_cancel K o).symm H
  · exact p_fr [0, 1] rfl (p_fold (K := K - o) (Int.sub_add_cancel K o).symm H)
theorem z_up {f : Fr} (H : Z F n C (f.fill t) R P) : Z F n (f :: C) t R P := fun K => p_pop fun o lim hl => pop_fold (hl _ rfl) (by
  have := H (K - o)
  rw [fill_root, fill_mx] at this
  exact this)
theorem z_down {f : Fr} (H : Z F n (f :: C) t R P) : Z F n C (f.fill t) R P := fun K S s => by
  rw [fill_root, fill_mx] at s
  obtain ⟨left, a, d, cc, sb⟩ := f
  cases left
  · obtain ⟨o, s⟩ := s.unf
    exact H _ S (Sat.pushC (f := ⟨false, a, d, cc, sb⟩) s rfl rfl (Int.add_sub_cancel K o).symm fun m e => by cases e; rfl)
  · obtain ⟨o, s⟩ := s.unf
    exact H _ S (Sat.pushC (f := ⟨true, a, d, cc, sb⟩) (s.perm (.cons _ (.swap ..))) rfl rfl (Int.add_sub_cancel K o).symm fun m e => by cases e; rfl)
theorem z_plug : ∀ {C : Cx} {t : T}, Z F n [] (plug C t) R P → Z F n C t R P
  | [], _, h => h
  | _ :: C, _, h => z_up (z_plug (C := C) h)
noncomputable def Fin (F : Fc) (n : Int) (R : List At) (io : Cnt) (P : Sto → Prop) : Prop := ∀ t N, t.rb N → t.isRed = false → t.io = io → Z F n [] t R P
theorem Fin.z {io : Cnt} {N : Nat} (h : Fin F n R io P) (hb : t.rb N) (hC : crb C N) (hr : t.isRed = true → topRed C = false ∧ C ≠ []) (e : (plug C t).io = io) : Z F n C t R P :=
  z_plug (let ⟨⟨_, h1⟩, h2⟩ := plug_rb hb hC hr; h _ _ h1 h2 e)
theorem z_left {a b : Addr} {d e : D} {ca cb : Bool} {l m r : T} (H : Z F n C (.node (.node l a d ca m) b e cb r) R (Q .none)) : Z F n C (.node l a d ca (.node m b e cb r)) R (CW c (k + 2) (.ref 98) [.ref F.tr, .ref a] Q) :=
  fun K => turn_left_ok (by rw [← mx_rot]; exact H K)
theorem z_right {a b : Addr} {d e : D} {ca cb : Bool} {l m r : T} (H : Z F n C (.node r b e cb (.node m a d ca l)) R (Q .none)) : Z F n C (.node (.node r b e cb m) a d ca l) R (CW c (k + 2) (.ref 105) [.ref F.tr, .ref a] Q) :=
  fun K => turn_right_ok (by rw [mx_rot]; exact H K)
noncomputable def Trq (x y z x' y' z' : T) : Prop := ∀ p : T → Prop, p x → p y → p z → p x' ∧ p y' ∧ p z'
theorem turned_inward_ok {x y fs : T} {a fa : Addr} {d fd : D} {fl isl cc fc : Bool}
    (H : ∀ x' y' fs' a' fa' d' fd', Trq x y fs x' y' fs' → (Fr.fill ⟨isl, fa', fd', fc, fs'⟩ (.node x' a' d' cc y')).io = (Fr.fill ⟨fl, fa, fd, fc, fs⟩ (.node x a d cc y)).io → (cc = fc → Z F n (⟨isl, fa', fd', fc, fs'⟩ :: C) (.node x' a' d' cc y') R (Q (.ref a'))))
    (hc : cc = fc) : Z F n (⟨fl, fa, fd, fc, fs⟩ :: C) (.node x a d cc y) R (CW c (k + 3) (.ref 126) [.ref F.tr, .ref a, .bool isl] Q) := by
  subst hc
  intro K
  refine Post.fn f126 rfl (p_pop fun o lim hl => p_unf 2 rfl (fun _ => rfl) fun o2 => ?_)
  have done : ∀ {P : Sto → Prop}, Z F n (⟨fl, fa, fd, cc, fs⟩ :: C) (.node x a d cc y) R P → Post F ⟨some fa, (some (T.node x a d cc y).mx).map fun m => some (Fr.gE ⟨fl, fa, fd, cc, fs⟩ m), K - o, n, C⟩ (.cell fa ⟨K, o, fd, cc, lim, Fr.l ⟨fl, fa, fd, cc, fs⟩ (some a), Fr.r ⟨fl, fa, fd, cc, fs⟩ (some a), par C⟩ :: .tree (some fa) K fs ::
      .cell a ⟨K + o2, o2, d, cc, gE d x.mx y.mx, x.root, y.root, some fa⟩ :: .tree (some a) (K + o2) x :: .tree (some a) (K + o2) y :: R) P := fun h => p_fr [2, 2, 2] rfl (p_fold rfl (p_fr [1, 1] rfl (p_push (f := ⟨fl, fa, fd, cc, fs⟩) (h := some a) (h K) rfl rfl rfl hl)))
  cases isl with
  | true =>
    cases fl with
    | true =>
      cases fs with
      | nil => walk_at "qq"; exact done (H _ _ _ _ _ _ _ (fun p h1 h2 h3 => ⟨h1, h2, h3⟩) rfl rfl)
      | node fsl fsa fsd fsc fsr => walk_at "qq"; exact done (H _ _ _ _ _ _ _ (fun p h1 h2 h3 => ⟨h1, h2, h3⟩) rfl rfl)
    | false =>
      walk_at "qq"
      refine done (z_up (f := ⟨false, fa, fd, cc, fs⟩) (z_left fun K => ?_))
      walk_at "qq"
      exact z_down (f := ⟨true, a, d, cc, y⟩) (H fs x y fa a fd d (fun p h1 h2 h3 => ⟨h3, h1, h2⟩) (by simp [Fr.fill, T.io]) rfl) K
  | false =>
    cases fl with
    | false =>
      cases fs with
      | nil => walk_at "qq"; exact done (H _ _ _ _ _ _ _ (fun p h1 h2 h3 => ⟨h1, h2, h3⟩) rfl rfl)
      | node fsl fsa fsd fsc fsr => walk_at "qq"; exact done (H _ _ _ _ _ _ _ (fun p h1 h2 h3 => ⟨h1, h2, h3⟩) rfl rfl)
    | true =>
      walk_at "qq"
      refine done (z_up (f := ⟨true, fa, fd, cc, fs⟩) (z_right fun K => ?_))
      walk_at "qq"
      exact z_down (f := ⟨false, a, d, cc, x⟩) (H y fs x fa a fd d (fun p h1 h2 h3 => ⟨h2, h3, h1⟩) (by simp [Fr.fill, T.io]) rfl) K
end
end
section
section
variable {F : Fc} {n : Int} {R : List At} {C : Cx} {t : T} {P : Sto → Prop} {c : Cst} {k : Nat} {Q : AV → Sto → Prop}
theorem ci_tail {K : Int} {vs : Vs} {M : Option (Option Int)} (h : ∀ l a d r, (t = .node l a d false r ∨ t = .node l a d true r) → Z F n [] (.node l a d false r) R (Q .none)) (hn : t ≠ .nil) :
    Post F ⟨t.root, M, K, n, []⟩ (.tree none K t :: R) (Run c k ⟨.ga .root <| .sa .red <| .done, [], [.ref F.tr, .bool false], vs⟩ Q) := by
  cases t with
  | nil => exact absurd rfl hn
  | node l a d cc r =>
    walk_at "q"
    refine p_unf 0 rfl (fun _ => rfl) fun o => ?_
    walk_at "qq"
    refine p_fold rfl ?_
    intro S s
    exact h l a d r (by cases cc; exact .inl rfl; exact .inr rfl) K S ⟨s.rt, s.cx, s.own, s.nodup, s.ok, s.fm⟩
theorem plug_ne {f : Fr} : ∀ {C : Cx} {t : T}, plug (f :: C) t ≠ .nil
  | [], t, e => by have := fill_root f t; rw [show f.fill t = .nil from e] at this; cases this
  | _ :: C, _, e => plug_ne (C := C) e
noncomputable def T.blk : T → T
  | .nil => .nil
  | .node l a d _ r => .node l a d false r
theorem blk_io (t : T) : t.blk.io = t.io := by cases t <;> rfl
theorem blk_rb {t : T} {N : Nat} (h : t.rb N) (hr : t.isRed = true) : t.blk.rb (N + 1) := by
  cases t with
  | nil => cases hr
  | node l a d c r => cases hr; exact ⟨N, rfl, h.2.2⟩
theorem pop_fold' {f : Fr} {h : Option Addr} {K o lim : Int} {X : Xc} {p : Option Addr} (eh : h = t.root) (e : lim = f.gE t.mx) (H : Post F X (.tree p (K - o) (f.fill t) :: R) P) :
    Post F X (.cell f.a ⟨K, o, f.d, f.red, lim, f.l h, f.r h, p⟩ :: .tree (some f.a) K f.sib :: .tree (some f.a) K t :: R) P := by subst eh; exact pop_fold e H
theorem z_at {h : Option Addr} {M : Option (Option Int)} {K : Int} (H : Post F ⟨t.root, some t.mx, K, n, C⟩ (.tree (par C) K t :: R) P) (e1 : h = t.root) (e2 : M = some t.mx) : Post F ⟨h, M, K, n, C⟩ (.tree (par C) K t :: R) P := by subst e1; subst e2; exact H
inductive CI (F : Fc) (n : Int) (R : List At) (io : Cnt) : Nat → Vs → Xc → List At → Prop
  | mk (C : Cx) (x : T) (a : Addr) (d : D) (y : T) (N : Nat) (v1 v2 v3 v4 : Option AV) (K : Int) (hb : (T.node x a d true y).rb N) (hC : crb C N) (hio : (plug C (.node x a d true y)).io = io) :
    CI F n R io C.length (.s (some (.ref F.tr)) (.s (some (.ref a)) (.s v1 (.s v2 (.s v3 (.s v4 .nil)))))) ⟨some a, some (T.node x a d true y).mx, K, n, C⟩ (.tree (par C) K (.node x a d true y) :: R)
theorem hdAt_of {x : At} {b : Addr} (e : x.hd = some b) : ∀ {i : Nat} {L : List At}, L[i]? = some x → hdAt i L = some b
  | 0, _ :: _, h => by cases h; exact e
  | i + 1, _ :: L, h => hdAt_of e (i := i) (L := L) h
theorem p_isOpt (i j : Nat) {m : MS} {code : Code} {ks : List KI} {st : List AV} {vs : Vs} {X : Xc} {L : List At} {t : T} {b : Addr} {p : Option Addr} {K : Int} {Q : AV → Sto → Prop} (hg : m.go = ⟨.cmp .Is code, ks, .ref b :: .opt t.root :: st, vs⟩) (hi : L[i]? = some (.tree p K t)) (hj : hdAt j L = some b) (n : Nat.beq i j = false)
    (H : Post F X L (Run c k ⟨code, ks, .bool false :: st, vs⟩ Q)) : Post F X L (Run c k m Q) := by
  cases t with
  | nil => exact Post.go hg fun S s => ⟨false, rfl, H S s⟩
  | node l a d cc r => exact Post.go hg fun S s => ⟨false, (Sat.isRef (s.isHd (hdAt_of rfl hi)) (s.isHd hj)).trans (congrArg some (decide_eq_false (s.neq (hdAt_of rfl hi) hj n))), H S s⟩
theorem colour_inserted_ok {x y : T} {a : Addr} {d : D} {N : Nat} {io : Cnt} (hb : (T.node x a d true y).rb N) (hC : crb C N) (hio : (plug C (.node x a d true y)).io = io) (H : Fin F n R io (Q .none)) :
    Z F n C (.node x a d true y) R (CW c (k + 4) (.ref 119) [.ref F.tr, .ref a] Q) := by
  intro K
  refine Post.fn f119 rfl ?_
  refine p_whl (CI F n R io) _ rfl (.mk C x a d y N _ _ _ _ K hb hC hio) ?_
  clear hb hC hio
  rintro _ _ _ _ ⟨C, x, a, d, y, N, v1, v2, v3, v4, K, hb, hC, hio⟩ J hJ
  cases C with
  | nil =>
    refine p_unf 0 rfl (fun _ => rfl) fun o => ?_
    walk_at "qq"
    refine is_red_n ?_
    refine p_fold rfl (Post.go rfl (ci_tail (t := .node x a d true y) (fun l' a' d' r' e => ?_) nofun))
    rcases e with e | e <;> cases e
    exact H _ (N + 1) ⟨N, rfl, hb.2.2⟩ rfl hio
  | cons f C =>
    obtain ⟨fl, fa, fd, fc, fs⟩ := f
    cases fc with
    | false =>
      obtain ⟨⟨N', h1⟩, h2⟩ := plug_rb hb hC (fun _ => ⟨rfl, List.cons_ne_nil _ _⟩)
      refine p_pop fun o lim hl => p_unf 2 rfl (fun _ => rfl) fun o2 => ?_
      walk_at "qq"
      refine is_red_c ?_
      refine p_fr [2, 2, 2] rfl (p_fold rfl (p_fr [1, 1] rfl (p_push (f := ⟨fl, fa, fd, false, fs⟩) (h := some a) ?_ rfl rfl rfl hl)))
      refine (z_plug (C := ⟨fl, fa, fd, false, fs⟩ :: C) (t := .node x a d true y) fun K => Post.go rfl (ci_tail (fun l' a' d' r' e => ?_) plug_ne)) K
      rcases e with e | e
      · rw [← e]; exact H _ _ h1 h2 hio
      · rw [e] at h2; cases h2
    | true =>
      obtain ⟨hfs, hC1, _⟩ := hC
      obtain ⟨hfr, hg, hne, hC⟩ := hC1 rfl
      clear hC1
      cases C with
      | nil => exact absurd rfl hne
      | cons g C =>
        clear hne
        obtain ⟨gl, ga, gd, gc, gs⟩ := g
        cases (show gc = false from hg)
        obtain ⟨hgs, _, hC2⟩ := hC
        have hC3 := hC2 rfl
        clear hC2 hg H
        cases hred : gs.isRed with
        | false =>
          cases gl with
          | true =>
            refine p_pop fun o lim hl => p_unf 2 rfl (fun _ => rfl) fun o2 => ?_
            walk_at "qq"
            refine is_red_c ?_
            refine p_pop fun o3 lim3 hl3 => ?_
            walk_at "qq"
            refine p_fr [1] rfl (is_red_t (t := gs) (p_fr [1] rfl ?_))
            rw [hred]
            walk_at "qq"
            refine p_push (f := ⟨true, ga, gd, false, gs⟩) (h := some fa) (p_fr [2, 2, 2] rfl (p_fold rfl (p_fr [1, 1] rfl (p_push (f := ⟨fl, fa, fd, true, fs⟩) (h := some a) (turned_inward_ok (fun x' y' fs' a' fa' d' fd' tri eio _ K2 => ?_) rfl K) rfl rfl rfl hl)))) rfl rfl rfl hl3
            obtain ⟨q1, q2, q3⟩ := tri (fun t => t.isRed = false ∧ t.rb N) ⟨hb.1, hb.2.2.1⟩ ⟨hb.2.1, hb.2.2.2⟩ ⟨hfr, hfs⟩
            refine p_pop fun o5 lim5 hl5 => p_pop fun o6 lim6 hl6 => p_unf 4 rfl (fun _ => rfl) fun o7 => ?_
            walk_at "qq"
            refine p_fr [4, 4, 4] rfl (p_fold rfl (p_fr [3, 3, 0] rfl (pop_fold (f := ⟨true, fa', fd', false, fs'⟩) (t := .node x' a' d' true y') (hl5 _ rfl) (p_fr [1, 1, 0] rfl (pop_fold (f := ⟨true, ga, gd, true, gs⟩) (t := Fr.fill ⟨true, fa', fd', false, fs'⟩ (.node x' a' d' true y')) (hl6 _ rfl) ?_)))))
            refine z_at ((z_right (l := gs) (fun K9 => ?_) : Z F n C (.node (.node (.node x' a' d' true y') fa' fd' false fs') ga gd true gs) R _) _) rfl rfl
            walk_at "qq"
            refine p_lp rfl (z_down (f := ⟨true, fa', fd', false, .node fs' ga gd true gs⟩) (t := .node x' a' d' true y') (fun K8 => hJ _ _ _ _ (Nat.lt_succ_self _) (CI.mk (⟨true, fa', fd', false, .node fs' ga gd true gs⟩ :: C) x' a' d' y' N _ _ _ _ K8 ⟨q1.1, q2.1, q1.2, q2.2⟩ ⟨⟨q3.1, hred, q3.2, hgs⟩, nofun, fun _ => hC3⟩ ?_)) K9)
            have e9 := fill_io ⟨true, ga, gd, false, gs⟩ eio
            exact (plug_io (C := C) (Eq.trans (by simp [Fr.fill, T.io]) e9)).trans hio
          | false =>
            refine p_pop fun o lim hl => p_unf 2 rfl (fun _ => rfl) fun o2 => ?_
            walk_at "qq"
            refine is_red_c ?_
            refine p_pop fun o3 lim3 hl3 => ?_
            walk_at "qq"
            refine p_isOpt 1 2 (t := gs) rfl rfl (hd2 rfl) rfl ?_
            walk_at "qq"
            refine p_fr [1] rfl (is_red_t (t := gs) (p_fr [1] rfl ?_))
            rw [hred]
            walk_at "qq"
            refine p_push (f := ⟨false, ga, gd, false, gs⟩) (h := some fa) (p_fr [2, 2, 2] rfl (p_fold rfl (p_fr [1, 1] rfl (p_push (f := ⟨fl, fa, fd, true, fs⟩) (h := some a) (turned_inward_ok (fun x' y' fs' a' fa' d' fd' tri eio _ K2 => ?_) rfl K) rfl rfl rfl hl)))) rfl rfl rfl hl3
            obtain ⟨q1, q2, q3⟩ := tri (fun t => t.isRed = false ∧ t.rb N) ⟨hb.1, hb.2.2.1⟩ ⟨hb.2.1, hb.2.2.2⟩ ⟨hfr, hfs⟩
            refine p_pop fun o5 lim5 hl5 => p_pop fun o6 lim6 hl6 => p_unf 4 rfl (fun _ => rfl) fun o7 => ?_
            walk_at "qq"
            refine p_fr [4, 4, 4] rfl (p_fold rfl (p_fr [3, 3, 0] rfl (pop_fold (f := ⟨false, fa', fd', false, fs'⟩) (t := .node x' a' d' true y') (hl5 _ rfl) (p_fr [1, 1, 0] rfl (pop_fold (f := ⟨false, ga, gd, true, gs⟩) (t := Fr.fill ⟨false, fa', fd', false, fs'⟩ (.node x' a' d' true y')) (hl6 _ rfl) ?_)))))
            refine z_at ((z_left (l := gs) (fun K9 => ?_) : Z F n C (.node gs ga gd true (.node fs' fa' fd' false (.node x' a' d' true y'))) R _) _) rfl rfl
            walk_at "qq"
            refine p_lp rfl (z_down (f := ⟨false, fa', fd', false, .node gs ga gd true fs'⟩) (t := .node x' a' d' true y') (fun K8 => hJ _ _ _ _ (Nat.lt_succ_self _) (CI.mk (⟨false, fa', fd', false, .node gs ga gd true fs'⟩ :: C) x' a' d' y' N _ _ _ _ K8 ⟨q1.1, q2.1, q1.2, q2.2⟩ ⟨⟨hred, q3.1, hgs, q3.2⟩, nofun, fun _ => hC3⟩ ?_)) K9)
            have e9 := fill_io ⟨false, ga, gd, false, gs⟩ eio
            exact (plug_io (C := C) (Eq.trans (by simp [Fr.fill, T.io]) e9)).trans hio
        | true =>
          cases gs with
          | nil => cases hred
          | node u1 u ud uc u2 =>
            cases (show uc = true from hred)
            clear hred
            cases gl with
            | true =>
              refine p_pop fun o lim hl => p_unf 2 rfl (fun _ => rfl) fun o2 => ?_
              walk_at "qq"
              refine is_red_c ?_
              refine p_pop fun o3 lim3 hl3 => ?_
              walk_at "qq"
              refine p_fr [1] rfl (is_red_t (t := (.node u1 u ud true u2)) (p_fr [1] rfl ?_))
              refine p_unf 1 rfl (fun _ => rfl) fun o4 => ?_
              walk_at "qq"
              have hu : T.rb (.node u1 u ud false u2) (N + 1) := ⟨N, rfl, hgs.2.2⟩
              refine p_fr [1, 1, 1] rfl (p_fold rfl (p_fr [4, 4, 4] rfl (p_fold rfl (p_fr [3, 3, 0] rfl (pop_fold (f := ⟨fl, fa, fd, false, fs⟩) (t := .node x a d true y) (hl _ rfl) (p_fr [2, 1, 0] rfl (pop_fold' (f := ⟨true, ga, gd, true, .node u1 u ud false u2⟩) (t := Fr.fill ⟨fl, fa, fd, false, fs⟩ (.node x a d true y)) (fill_root ⟨fl, fa, fd, false, fs⟩ _).symm ((hl3 _ rfl).trans (by rw [fill_mx]; rfl)) ?_)))))))
              refine p_lp rfl (z_at (hJ _ _ _ _ (Nat.lt_succ_of_lt (Nat.lt_succ_self _)) (CI.mk C (Fr.fill ⟨fl, fa, fd, false, fs⟩ (.node x a d true y)) ga gd (.node u1 u ud false u2) (N + 1) _ _ _ _ _ ⟨fill_red .., rfl, (fill_rb (f := ⟨fl, fa, fd, false, fs⟩) hb hfs).1 rfl, hu⟩ hC3 ?_)) rfl ?_)
              · exact (plug_io (C := C) (t' := Fr.fill ⟨true, ga, gd, false, .node u1 u ud true u2⟩ (Fr.fill ⟨fl, fa, fd, true, fs⟩ (.node x a d true y))) (by cases fl <;> rfl)).trans hio
              · rw [fill_mx, fill_mx]; rfl
            | false =>
              refine p_pop fun o lim hl => p_unf 2 rfl (fun _ => rfl) fun o2 => ?_
              walk_at "qq"
              refine is_red_c ?_
              refine p_pop fun o3 lim3 hl3 => ?_
              walk_at "qq"
              refine p_fr [1] rfl (is_red_t (t := (.node u1 u ud true u2)) (p_fr [1] rfl ?_))
              refine p_unf 1 rfl (fun _ => rfl) fun o4 => ?_
              walk_at "qq"
              have hu : T.rb (.node u1 u ud false u2) (N + 1) := ⟨N, rfl, hgs.2.2⟩
              refine p_fr [1, 1, 1] rfl (p_fold rfl (p_fr [4, 4, 4] rfl (p_fold rfl (p_fr [3, 3, 0] rfl (pop_fold (f := ⟨fl, fa, fd, false, fs⟩) (t := .node x a d true y) (hl _ rfl) (p_fr [2, 1, 0] rfl (pop_fold' (f := ⟨false, ga, gd, true, .node u1 u ud false u2⟩) (t := Fr.fill ⟨fl, fa, fd, false, fs⟩ (.node x a d true y)) (fill_root ⟨fl, fa, fd, false, fs⟩ _).symm ((hl3 _ rfl).trans (by rw [fill_mx]; rfl)) ?_)))))))
              refine p_lp rfl (z_at (hJ _ _ _ _ (Nat.lt_succ_of_lt (Nat.lt_succ_self _)) (CI.mk C (.node u1 u ud false u2) ga gd (Fr.fill ⟨fl, fa, fd, false, fs⟩ (.node x a d true y)) (N + 1) _ _ _ _ _ ⟨rfl, fill_red .., hu, (fill_rb (f := ⟨fl, fa, fd, false, fs⟩) hb hfs).1 rfl⟩ hC3 ?_)) rfl ?_)
              · exact (plug_io (C := C) (t' := Fr.fill ⟨false, ga, gd, false, .node u1 u ud true u2⟩ (Fr.fill ⟨fl, fa, fd, true, fs⟩ (.node x a d true y))) (by cases fl <;> rfl)).trans hio
              · rw [fill_mx, fill_mx]; rfl
end
end
section
section
variable {F : Fc} {n : Int} {R : List At} {C : Cx} {t : T} {P : Sto → Prop} {c : Cst} {k : Nat} {Q : AV → Sto → Prop}
theorem gE_L (d : D) (e : Int) (l r : Option Int) : gE d (some (omax e l)) r = omax e (some (gE d l r)) := by
  unfold gE
  rw [omax_a, omax_a, omax_a, show omax d.e (some e) = omax e (some d.e) from Int.max_comm ..]
theorem gE_R (d : D) (e : Int) (l r : Option Int) : gE d l (some (omax e r)) = omax e (some (gE d l r)) := by
  unfold gE
  rw [omax_a, omax_a, omax_a, omax_c d.e l (some e), show omax d.e (some e) = omax e (some d.e) from Int.max_comm ..]
theorem mxK' (g e K : Int) : max (g - K) (e - K) + K = max e g := by rw [show max (g - K) (e - K) = max g e - K from mxA g e (-K), Int.sub_add_cancel, Int.max_comm]
theorem nm0 {α : Type} {P : α → Prop} : ∀ q ∈ ([] : List α), P q := fun _ h => absurd h List.not_mem_nil
theorem nonil {l r : T} {a : Addr} {d : D} {c : Bool} : T.node l a d c r ≠ .nil := nofun
theorem nocons {α : Type} {x : α} {l : List α} {P : Prop} (h : x :: l = []) : P := absurd h (List.cons_ne_nil x l)
theorem leK {a b K : Int} (h : a - K ≤ b - K) : a ≤ b := Int.le_of_add_le_add_right h
theorem geK {a b K : Int} (h : ¬ a - K ≤ b - K) : b ≤ a := Int.not_lt.mp fun g => h (Int.sub_le_sub_right (Int.le_of_lt g) K)
theorem some_all {α : Type} {P : α → Prop} {a : α} (h : P a) : ∀ m, some a = some m → P m := fun _ e => Option.some.inj e ▸ h
theorem ltL (l : T) (a : Addr) (d : D) (c : Bool) (r : T) : l.ad.length < (T.node l a d c r).ad.length := by
  show l.ad.length < (a :: (l.ad ++ r.ad)).length
  rw [List.length_cons, List.length_append]; exact Nat.lt_succ_of_le (Nat.le_add_right ..)
theorem ltR (l : T) (a : Addr) (d : D) (c : Bool) (r : T) : r.ad.length < (T.node l a d c r).ad.length := by
  show r.ad.length < (a :: (l.ad ++ r.ad)).length
  rw [List.length_cons, List.length_append]; exact Nat.lt_succ_of_le (Nat.le_add_left ..)
noncomputable def topLeft : Cx → Bool
  | [] => false
  | f :: _ => f.left
theorem rb_sons {l r : T} {a : Addr} {d : D} {cc : Bool} {N : Nat} (hb : (T.node l a d cc r).rb N) (hC : crb C N) (hr : cc = true → topRed C = false ∧ C ≠ []) : ∃ N', l.rb N' ∧ r.rb N' ∧ crb (⟨true, a, d, cc, r⟩ :: C) N' ∧ crb (⟨false, a, d, cc, l⟩ :: C) N' ∧ (cc = true → l.isRed = false ∧ r.isRed = false) := by
  cases cc with
  | true => exact ⟨N, hb.2.2.1, hb.2.2.2, ⟨hb.2.2.2, fun _ => ⟨hb.2.1, (hr rfl).1, (hr rfl).2, hC⟩, nofun⟩, ⟨hb.2.2.1, fun _ => ⟨hb.1, (hr rfl).1, (hr rfl).2, hC⟩, nofun⟩, fun _ => ⟨hb.1, hb.2.1⟩⟩
  | false => obtain ⟨m, rfl, hl, hrr⟩ := hb; exact ⟨m, hl, hrr, ⟨hrr, nofun, fun _ => hC⟩, ⟨hl, nofun, fun _ => hC⟩, nofun⟩
theorem nored {C : Cx} {cc : Bool} {A : Prop} {s : T} {f : Fr} (h : cc = true → A) (g : A → s.isRed = false) (e : s.isRed = true) (q : f.red = cc) : topRed (f :: C) = false ∧ f :: C ≠ [] := by
  refine ⟨?_, nofun⟩
  cases cc with
  | false => exact q
  | true => rw [g (h rfl)] at e; cases e
theorem srt_node {l r : T} {a : Addr} {d : D} {cc : Bool} {C : Cx} (hs : Srt (plug C (.node l a d cc r)).io) : (∀ q ∈ l.io, q.2.b ≤ d.b) ∧ (∀ q ∈ r.io, d.b ≤ q.2.b) := by
  rw [plug_split] at hs
  have h := (List.pairwise_append.mp (List.pairwise_append.mp hs).2.1).1
  have h' := List.pairwise_append.mp h
  exact ⟨fun q hq => h'.2.2 q hq _ List.mem_cons_self, fun q hq => List.rel_of_pairwise_cons h'.2.1 hq⟩
theorem post_L {f : Fr} {C : Cx} {b : Int} (hf : f.left = true) (h1 : b ≤ f.d.b) (h2 : ∀ q ∈ f.sib.io, f.d.b ≤ q.2.b) (h3 : ∀ q ∈ post C, b ≤ q.2.b) : ∀ q ∈ post (f :: C), b ≤ q.2.b := by
  unfold post
  rw [if_pos hf]
  intro q hq
  rcases List.mem_append.mp hq with hq | hq
  · rcases List.mem_cons.mp hq with rfl | hq
    · exact h1
    · exact Int.le_trans h1 (h2 q hq)
  · exact h3 q hq
theorem pre_R {f : Fr} {C : Cx} {b : Int} (hf : f.left = false) (h1 : f.d.b ≤ b) (h2 : ∀ q ∈ f.sib.io, q.2.b ≤ f.d.b) (h3 : ∀ q ∈ pre C, q.2.b ≤ b) : ∀ q ∈ pre (f :: C), q.2.b ≤ b := by
  unfold pre
  rw [if_neg (by rw [hf]; decide)]
  intro q hq
  rcases List.mem_append.mp hq with hq | hq
  · exact h3 q hq
  · rcases List.mem_append.mp hq with hq | hq
    · exact Int.le_trans (h2 q hq) h1
    · cases List.mem_singleton.mp hq; exact h1
inductive PI (F : Fc) (n : Int) (R : List At) (x : Addr) (d : D) (c0 : Bool) (K : Int) (io : Cnt) : Nat → Vs → Xc → List At → Prop
  | mk (C : Cx) (t : T) (N : Nat) (hb : t.rb N) (hC : crb C N) (hr : t.isRed = true → topRed C = false ∧ C ≠ []) (hn : C = [] → t ≠ .nil) (hio : (plug C t).io = io) (h1 : ∀ q ∈ pre C, q.2.b ≤ d.b) (h2 : ∀ q ∈ post C, d.b ≤ q.2.b) :
    PI F n R x d c0 K io t.ad.length (.s (some (.ref F.tr)) (.s (some (.ref x)) (.s (some (.opt t.root)) (.s (some (.opt (par C))) (.s (some (.bool (topLeft C))) .nil))))) ⟨t.root, some (some (omax d.e t.mx)), K, n, C⟩
      (.tree (par C) K t :: .cell x ⟨K, 0, d, c0, d.e - K + K, none, none, none⟩ :: R)
theorem put_node_ok {x : Addr} {d : D} {c0 : Bool} {K o lim : Int} {l r p : Option Addr} {N : Nat} {M : Option (Option Int)} (hb : t.rb N) (ht : t.isRed = false)
    (hs : Srt t.io) (H : ∀ A B, t.io = A ++ B → (∀ q ∈ A, q.2.b ≤ d.b) → (∀ q ∈ B, d.b ≤ q.2.b) → Fin F (n + 1) R (A ++ (x, d) :: B) (Q .none)) :
    Post F ⟨t.root, M, K, n, []⟩ (.tree none K t :: .cell x ⟨0, o, d, c0, lim, l, r, p⟩ :: R) (CW c (k + 5) (.ref 133) [.ref F.tr, .ref x] Q) := by
  refine p_K0 fun e => ?_
  rw [show (0 : Int) = K from e.symm]
  clear e
  refine Post.fn f133 rfl ?_
  cases t with
  | nil =>
    walk_at "qq"
    refine p_wrR (h' := some x) (M' := some (T.node .nil x d false .nil).mx) rfl ?_
    walk_at "qq"
    refine p_drop (p_nil (p := some x) (K := K) (p_nil (p := some x) (K := K) (p_fr [2] rfl (p_fold0 (Int.sub_add_cancel ..) rfl rfl ?_))))
    exact H [] [] rfl nm0 nm0 (.node .nil x d false .nil) 1 ⟨0, rfl, rfl, rfl⟩ rfl rfl K
  | node tl ta td tc tr =>
    walk_at "qq"
    refine p_M0 (some (some (omax d.e (T.node tl ta td tc tr).mx))) ?_
    refine p_whl (PI F (n + 1) R x d c0 K (T.node tl ta td tc tr).io) _ rfl (.mk [] (.node tl ta td tc tr) N hb trivial (fun e => by rw [ht] at e; cases e) (fun _ => nonil) rfl nm0 nm0) ?_
    clear hb ht
    rintro _ _ _ _ ⟨C, t, N, hb, hC, hr, hn, hio, h1, h2⟩ J hJ
    cases t with
    | nil =>
      cases C with
      | nil => exact absurd rfl (hn rfl)
      | cons f C =>
        obtain ⟨fl, fa, fd, fc, fs⟩ := f
        cases (show N = 0 from hb)
        have io2 := hio.symm.trans (plug_split ..)
        have fin := H _ _ io2 h1 h2
        refine p_drop (p_pop fun o lim hl => ?_)
        cases fl with
        | true =>
          walk_at "qq"
          refine p_fr [2] rfl (p_nil (p := some x) (K := K) (p_nil (p := some x) (K := K) (p_fr [2] rfl (p_fold0 (Int.sub_add_cancel ..) rfl rfl (p_fr [1, 1] rfl ?_)))))
          exact p_push (f := ⟨true, fa, fd, fc, fs⟩) (h := some x) (colour_inserted_ok (x := .nil) (y := .nil) (N := 0) ⟨rfl, rfl, rfl, rfl⟩ hC (plug_split ..) (fun T' N' a1 a2 a3 K' => by walk_at "qq"; exact fin T' N' a1 a2 a3 K') K) rfl rfl rfl hl
        | false =>
          walk_at "qq"
          refine p_fr [2] rfl (p_nil (p := some x) (K := K) (p_nil (p := some x) (K := K) (p_fr [2] rfl (p_fold0 (Int.sub_add_cancel ..) rfl rfl (p_fr [1, 1] rfl ?_)))))
          exact p_push (f := ⟨false, fa, fd, fc, fs⟩) (h := some x) (colour_inserted_ok (x := .nil) (y := .nil) (N := 0) ⟨rfl, rfl, rfl, rfl⟩ hC (plug_split ..) (fun T' N' a1 a2 a3 K' => by walk_at "qq"; exact fin T' N' a1 a2 a3 K') K) rfl rfl rfl hl
    | node tl ta td tc tr =>
      obtain ⟨N', q1, q2, q3, q4, q5⟩ := rb_sons hb hC hr
      walk_at "qq"
      refine hand_down_ok ?_
      walk_at "qq"
      refine Post.max ?_
      walk_at "qq"
      refine p_cmpB rfl (fun _ => rfl) (fun hle => ?_) (fun hle => ?_)
      · walk_at "qq"
        refine p_lp rfl (p_fr [0, 1] rfl (p_push (f := ⟨true, ta, td, tc, tr⟩) (h := tl.root) (M := some (some (omax d.e tl.mx))) ?_ rfl (congrArg (fun z => some (some z)) (gE_L ..).symm) (Int.sub_zero K).symm (some_all ((mxK' _ _ K).trans (gE_L ..).symm))))
        exact hJ _ _ _ _ (ltL tl ta td tc tr) (.mk (⟨true, ta, td, tc, tr⟩ :: C) tl N' q1 q3 (fun e => nored q5 (·.1) e rfl) nocons hio h1 (post_L rfl (leK hle) (srt_node (hio ▸ hs)).2 h2))
      · walk_at "qq"
        refine p_lp rfl (p_push (f := ⟨false, ta, td, tc, tl⟩) (h := tr.root) (M := some (some (omax d.e tr.mx))) ?_ rfl (congrArg (fun z => some (some z)) (gE_R ..).symm) (Int.sub_zero K).symm (some_all ((mxK' _ _ K).trans (gE_R ..).symm)))
        exact hJ _ _ _ _ (ltR tl ta td tc tr) (.mk (⟨false, ta, td, tc, tl⟩ :: C) tr N' q2 q4 (fun e => nored q5 (·.2) e rfl) nocons hio (pre_R rfl (geK hle) (srt_node (hio ▸ hs)).1 h1) h2)
end
end
section
section
variable {F : Fc} {n : Int} {R : List At} {C : Cx} {t : T} {P : Sto → Prop} {c : Cst} {k : Nat} {Q : AV → Sto → Prop}
noncomputable def up (c : Bool) (N : Nat) : Nat := match c with
  | true => N + 1
  | false => N + 2
theorem Post.go' {X : Xc} {L : List At} {m m' : MS} (hg : m.go = m') (H : Post F X L (Run c k m' Q)) : Post F X L (Run c k m Q) := fun S h => go_ok (f := true) (n := 300) (by show Run c k m.go Q S; rw [hg]; exact H S h)
theorem red_nodeL {t : T} {N : Nat} (h : t.rb N) (hr : t.isRed = true) : ∃ l a d r, t = .node l a d true r ∧ l.isRed = false ∧ r.isRed = false ∧ l.rb N ∧ r.rb N := by
  cases t with
  | nil => cases hr
  | node l a d c r => cases hr; exact ⟨l, a, d, r, rfl, h⟩
theorem red_nodeR {t : T} {N : Nat} (h : t.rb N) (hr : t.isRed = true) : ∃ r a d l, t = .node l a d true r ∧ r.isRed = false ∧ l.isRed = false ∧ r.rb N ∧ l.rb N :=
  let ⟨l, a, d, r, e, h1, h2, h3, h4⟩ := red_nodeL h hr
  ⟨r, a, d, l, e, h2, h1, h4, h3⟩
theorem black_nodeL {t : T} {N : Nat} (h : t.rb (N + 1)) (hr : t.isRed = false) : ∃ l a d r, t = .node l a d false r ∧ l.rb N ∧ r.rb N := by
  cases t with
  | nil => cases h
  | node l a d c r => cases hr; obtain ⟨m, e, h1, h2⟩ := h; cases e; exact ⟨l, a, d, r, rfl, h1, h2⟩
theorem black_nodeR {t : T} {N : Nat} (h : t.rb (N + 1)) (hr : t.isRed = false) : ∃ r a d l, t = .node l a d false r ∧ r.rb N ∧ l.rb N :=
  let ⟨l, a, d, r, e, h1, h2⟩ := black_nodeL h hr
  ⟨r, a, d, l, e, h2, h1⟩
theorem rb_c_L {t sl o1 o2 : T} {fa s o : Addr} {fd sd od : D} {fc : Bool} {N : Nat} (ht : t.rb N) (hl : sl.rb N) (h1 : o1.rb N) (h2 : o2.rb N) : T.rb (.node (.node t fa fd false sl) s sd fc (.node o1 o od false o2)) (up fc N) := by
  cases fc
  · exact ⟨N + 1, rfl, ⟨N, rfl, ht, hl⟩, ⟨N, rfl, h1, h2⟩⟩
  · exact ⟨rfl, rfl, ⟨N, rfl, ht, hl⟩, ⟨N, rfl, h1, h2⟩⟩
theorem z_tL {a b : Addr} {d e : D} {ca cb : Bool} {l m r : T} (H : Z F n C (.node (.node l a d ca m) b e cb r) R (Q .none)) : Z F n C (.node l a d ca (.node m b e cb r)) R (CW c (k + 3) (.ref 175) [.ref F.tr, .ref a, .bool true] Q) :=
  fun K => towards_L (by rw [← mx_rot]; exact H K)
theorem rb_c_R {t sl o1 o2 : T} {fa s o : Addr} {fd sd od : D} {fc : Bool} {N : Nat} (ht : t.rb N) (hl : sl.rb N) (h1 : o1.rb N) (h2 : o2.rb N) : T.rb (.node (.node o2 o od false o1) s sd fc (.node sl fa fd false t)) (up fc N) := by
  cases fc
  · exact ⟨N + 1, rfl, ⟨N, rfl, h2, h1⟩, ⟨N, rfl, hl, ht⟩⟩
  · exact ⟨rfl, rfl, ⟨N, rfl, h2, h1⟩, ⟨N, rfl, hl, ht⟩⟩
theorem z_tR {a b : Addr} {d e : D} {ca cb : Bool} {l m r : T} (H : Z F n C (.node r b e cb (.node m a d ca l)) R (Q .none)) : Z F n C (.node (.node r b e cb m) a d ca l) R (CW c (k + 3) (.ref 175) [.ref F.tr, .ref a, .bool false] Q) :=
  fun K => towards_R (by rw [mx_rot]; exact H K)
theorem lc_L {t sl o1 o2 : T} {fa s o : Addr} {fd sd od : D} {fc : Bool} {N : Nat} {v1 v6 : Option AV} (ht : t.rb N) (hl : sl.rb N) (h1 : o1.rb N) (h2 : o2.rb N)
    (H : ∀ t' : T, t'.io = (.node t fa fd fc (.node sl s sd false (.node o1 o od true o2)) : T).io → t'.rb (up fc N) → (t'.isRed = true → fc = true) → Z F n C t' R (Q .none)) :
    Z F n C (.node t fa fd fc (.node sl s sd false (.node o1 o od true o2))) R (Run c (k + 3) (MS.go ⟨c182c, [], [], .s (some (.ref F.tr)) (.s v1 (.s (some (.ref fa)) (.s (some (.bool true)) (.s (some (.ref s)) (.s (some (.ref o)) (.s v6 .nil))))))⟩) Q) := by
  intro K
  refine p_unf 0 rfl (fun _ => rfl) fun q1 => p_unf 2 rfl (fun _ => rfl) fun q2 => p_unf 4 rfl (fun _ => rfl) fun q3 => ?_
  walk_at "qq"
  refine p_fr [4, 4, 4] rfl (p_foldc rfl rfl rfl rfl (p_fr [3, 3, 0] rfl (p_foldc rfl rfl rfl rfl (p_fr [1, 1, 0] rfl (p_foldc rfl rfl rfl rfl ?_)))))
  refine z_at ?_ rfl rfl
  refine z_tL (fun K => ?_) K
  walk_at "qq"
  exact H (.node (.node t fa fd false sl) s sd fc (.node o1 o od false o2)) (by simp only [T.io, List.append_assoc, List.cons_append]) (rb_c_L ht hl h1 h2) (fun e => e) K
theorem lb_L {t sl sr : T} {fa s : Addr} {fd sd : D} {fc : Bool} {N : Nat} {v1 v5 v6 : Option AV} (ht : t.rb N) (hl : sl.rb N) (hr : sr.rb N)
    (H1 : ∀ t' : T, t'.io = (.node t fa fd fc (.node sl s sd false sr) : T).io → (∃ N', t'.rb N' ∧ (C ≠ [] → N' = up fc N)) → (t'.isRed = true → fc = true) → Z F n C t' R (Q .none))
    (H2 : ∀ t' : T, t'.io = (.node t fa fd fc (.node sl s sd false sr) : T).io → fc = false → C ≠ [] → t'.root = some fa → t'.isRed = false → t'.rb (N + 1) → Z F n C t' R (Q (.ref fa))) :
    Z F n C (.node t fa fd fc (.node sl s sd false sr)) R (Run c (k + 3) (MS.go ⟨c182b, [], [], .s (some (.ref F.tr)) (.s v1 (.s (some (.ref fa)) (.s (some (.bool true)) (.s (some (.ref s)) (.s v5 (.s v6 .nil))))))⟩) Q) := by
  intro K
  refine p_unf 0 rfl (fun _ => rfl) fun q1 => p_unf 2 rfl (fun _ => rfl) fun q2 => ?_
  walk_at "qq"
  refine p_fr [4] rfl (is_red_t ?_)
  cases hrb : sr.isRed with
  | true =>
    obtain ⟨o1, o, od, o2, rfl, -, -, h1, h2⟩ := red_nodeL hr hrb
    walk_at "qq"
    refine is_red_t (t := .node o1 o od true o2) ?_
    refine Post.go' (m' := MS.go ⟨c182c, [], [], .s (some (.ref F.tr)) (.s v1 (.s (some (.ref fa)) (.s (some (.bool true)) (.s (some (.ref s)) (.s (some (.ref o)) (.s (some (.opt sl.root)) .nil))))))⟩) rfl ?_
    refine p_fr [3, 3, 0] rfl (p_foldc rfl rfl rfl rfl (p_fr [1, 1, 0] rfl (p_foldc rfl rfl rfl rfl ?_)))
    exact lc_L ht hl h1 h2 (fun t' a1 a2 a3 => H1 t' a1 ⟨_, a2, fun _ => rfl⟩ a3) K
  | false =>
    walk_at "qq"
    refine p_fr [4] rfl (is_red_t ?_)
    cases hsb : sl.isRed with
    | false =>
      cases fc with
      | true =>
        walk_at "qq"
        refine p_fr [4, 0, 0] rfl (p_foldc rfl rfl rfl rfl (p_fr [1, 1, 0] rfl (p_foldc rfl rfl rfl rfl ?_)))
        exact H1 (.node t fa fd false (.node sl s sd true sr)) rfl ⟨N + 1, ⟨N, rfl, ht, hsb, hrb, hl, hr⟩, fun _ => rfl⟩ nofun K
      | false =>
        cases C with
        | nil =>
          walk_at "qq"
          refine p_fr [4, 0, 0] rfl (p_foldc rfl rfl rfl rfl (p_fr [1, 1, 0] rfl (p_foldc rfl rfl rfl rfl ?_)))
          exact H1 (.node t fa fd false (.node sl s sd true sr)) rfl ⟨N + 1, ⟨N, rfl, ht, hsb, hrb, hl, hr⟩, fun e => absurd rfl e⟩ nofun K
        | cons g C =>
          walk_at "qq"
          refine p_isRt (g := g) _ rfl (hd2 rfl) ?_
          walk_at "qq"
          refine p_fr [4, 0, 0] rfl (p_foldc rfl rfl rfl rfl (p_fr [1, 1, 0] rfl (p_foldc rfl rfl rfl rfl ?_)))
          exact H2 (.node t fa fd false (.node sl s sd true sr)) rfl rfl nofun rfl rfl ⟨N, rfl, ht, hsb, hrb, hl, hr⟩ K
    | true =>
      obtain ⟨i1, i, idd, i2, rfl, -, -, h1, h2⟩ := red_nodeL hl hsb
      walk_at "qq"
      refine p_fr [1] rfl (is_red_t ?_)
      rw [hrb]
      refine p_unf 1 rfl (fun _ => rfl) fun q3 => ?_
      walk_at "qq"
      refine p_fr [1, 1, 1] rfl (p_foldc rfl rfl rfl rfl (p_fr [4, 0, 0] rfl (p_foldc rfl rfl rfl rfl (p_fr [1, 1, 0] rfl ?_))))
      refine p_push (f := ⟨false, fa, fd, fc, t⟩) (h := some s) (M := some (.node (.node i1 i idd false i2) s sd true sr : T).mx) ?_ rfl rfl (Int.add_sub_cancel ..).symm (some_all rfl)
      refine z_tR (C := ⟨false, fa, fd, fc, t⟩ :: C) (fun K2 => ?_) _
      refine p_pop fun q4 lim4 hl4 => ?_
      walk_at "qq"
      refine sibling_L ?_
      refine p_unf 2 rfl (fun _ => rfl) fun q5 => ?_
      walk_at "q"
      refine p_fr [2, 2, 2] rfl (p_foldc rfl rfl rfl rfl (p_fr [1, 1, 0] rfl (pop_fold (f := ⟨false, fa, fd, fc, t⟩) (t := .node i1 i idd false (.node i2 s sd true sr)) (hl4 _ rfl) ?_)))
      refine Post.go' (m' := MS.go ⟨c182c, [], [], .s (some (.ref F.tr)) (.s v1 (.s (some (.ref fa)) (.s (some (.bool true)) (.s (some (.ref i)) (.s (some (.opt (some s))) (.s (some (.ref i)) .nil))))))⟩) rfl ?_
      refine lc_L (sl := i1) ht h1 h2 hr (fun t' a1 a2 a3 => H1 t' (a1.trans ?_) ⟨_, a2, fun _ => rfl⟩ a3) _
      simp only [T.io, List.append_assoc, List.cons_append]
theorem light_L {t fs : T} {fa : Addr} {fd : D} {fc : Bool} {N : Nat} {v : AV} (ht : t.rb N) (hs : fs.rb (N + 1)) (hc : fc = true → fs.isRed = false)
    (H1 : ∀ t' : T, t'.io = (.node t fa fd fc fs : T).io → (∃ N', t'.rb N' ∧ (C ≠ [] → N' = up fc N)) → (t'.isRed = true → fc = true) → Z F n C t' R (Q .none))
    (H2 : ∀ t' : T, t'.io = (.node t fa fd fc fs : T).io → fc = false → C ≠ [] → t'.root = some fa → t'.isRed = false → t'.rb (N + 1) → Z F n C t' R (Q (.ref fa))) :
    Z F n C (.node t fa fd fc fs) R (CW c (k + 4) (.ref 182) [.ref F.tr, v, .ref fa, .bool true] Q) := by
  intro K
  refine Post.fn f182 rfl (p_unf 0 rfl (fun _ => rfl) fun q1 => ?_)
  walk_at "qq"
  refine sibling_L ?_
  walk_at "qq"
  refine p_fr [2] rfl (is_red_t ?_)
  cases hb : fs.isRed with
  | false =>
    obtain ⟨sl, s, sd, sr, rfl, h1, h2⟩ := black_nodeL hs hb
    refine Post.go' (m' := MS.go ⟨c182b, [], [], .s (some (.ref F.tr)) (.s (some v) (.s (some (.ref fa)) (.s (some (.bool true)) (.s (some (.ref s)) (.s none (.s none .nil))))))⟩) rfl ?_
    refine p_fr [1, 1, 0] rfl (p_foldc rfl rfl rfl rfl ?_)
    exact lb_L ht h1 h2 H1 H2 K
  | true =>
    obtain ⟨sl, s, sd, sr, rfl, hlb, -, h1, h2⟩ := red_nodeL hs hb
    obtain ⟨tl, u, ud, tr, rfl, h3, h4⟩ := black_nodeL h1 hlb
    cases fc with
    | true => cases hc rfl
    | false =>
      refine p_unf 0 rfl (fun _ => rfl) fun q2 => ?_
      walk_at "qq"
      refine p_foldc rfl rfl rfl rfl (p_fr [1, 1, 0] rfl (p_foldc rfl rfl rfl rfl ?_))
      refine z_at ?_ rfl rfl
      refine z_tL (fun K => ?_) K
      refine z_down (f := ⟨true, s, sd, false, sr⟩) (t := .node t fa fd true (.node tl u ud false tr)) (fun K => ?_) K
      refine p_unf 0 rfl (fun _ => rfl) fun q3 => ?_
      walk_at "qq"
      refine sibling_L ?_
      refine Post.go' (m' := MS.go ⟨c182b, [], [], .s (some (.ref F.tr)) (.s (some v) (.s (some (.ref fa)) (.s (some (.bool true)) (.s (some (.ref u)) (.s none (.s none .nil))))))⟩) rfl (p_foldc rfl rfl rfl rfl ?_)
      refine lb_L (C := ⟨true, s, sd, false, sr⟩ :: C) ht h3 h4 (fun t' a1 a2 a3 => z_up (H1 _ ?_ ⟨N + 2, ?_, fun _ => rfl⟩ nofun)) (fun _ _ e => by cases e) K
      · exact (fill_io ⟨true, s, sd, false, sr⟩ a1).trans (by simp only [Fr.fill, T.io, List.append_assoc, List.cons_append, if_true, if_false, Bool.false_eq_true])
      · obtain ⟨N', a2, e⟩ := a2
        have := e nofun
        subst this
        exact ⟨N + 1, rfl, a2, h2⟩
theorem lc_R {t sl o1 o2 : T} {fa s o : Addr} {fd sd od : D} {fc : Bool} {N : Nat} {v1 v6 : Option AV} (ht : t.rb N) (hl : sl.rb N) (h1 : o1.rb N) (h2 : o2.rb N)
    (H : ∀ t' : T, t'.io = (.node (.node (.node o2 o od true o1) s sd false sl) fa fd fc t : T).io → t'.rb (up fc N) → (t'.isRed = true → fc = true) → Z F n C t' R (Q .none)) :
    Z F n C (.node (.node (.node o2 o od true o1) s sd false sl) fa fd fc t) R (Run c (k + 3) (MS.go ⟨c182c, [], [], .s (some (.ref F.tr)) (.s v1 (.s (some (.ref fa)) (.s (some (.bool false)) (.s (some (.ref s)) (.s (some (.ref o)) (.s v6 .nil))))))⟩) Q) := by
  intro K
  refine p_unf 0 rfl (fun _ => rfl) fun q1 => p_unf 1 rfl (fun _ => rfl) fun q2 => p_unf 2 rfl (fun _ => rfl) fun q3 => ?_
  walk_at "qq"
  refine p_fr [2, 2, 2] rfl (p_foldc rfl rfl rfl rfl (p_fr [2, 0, 1] rfl (p_foldc rfl rfl rfl rfl (p_fr [1, 0, 0] rfl (p_foldc rfl rfl rfl rfl ?_)))))
  refine z_at ?_ rfl rfl
  refine z_tR (fun K => ?_) K
  walk_at "qq"
  exact H (.node (.node o2 o od false o1) s sd fc (.node sl fa fd false t)) (by simp only [T.io, List.append_assoc, List.cons_append]) (rb_c_R ht hl h1 h2) (fun e => e) K
theorem lb_R {t sl sr : T} {fa s : Addr} {fd sd : D} {fc : Bool} {N : Nat} {v1 v5 v6 : Option AV} (ht : t.rb N) (hl : sl.rb N) (hr : sr.rb N)
    (H1 : ∀ t' : T, t'.io = (.node (.node sr s sd false sl) fa fd fc t : T).io → (∃ N', t'.rb N' ∧ (C ≠ [] → N' = up fc N)) → (t'.isRed = true → fc = true) → Z F n C t' R (Q .none))
    (H2 : ∀ t' : T, t'.io = (.node (.node sr s sd false sl) fa fd fc t : T).io → fc = false → C ≠ [] → t'.root = some fa → t'.isRed = false → t'.rb (N + 1) → Z F n C t' R (Q (.ref fa))) :
    Z F n C (.node (.node sr s sd false sl) fa fd fc t) R (Run c (k + 3) (MS.go ⟨c182b, [], [], .s (some (.ref F.tr)) (.s v1 (.s (some (.ref fa)) (.s (some (.bool false)) (.s (some (.ref s)) (.s v5 (.s v6 .nil))))))⟩) Q) := by
  intro K
  refine p_unf 0 rfl (fun _ => rfl) fun q1 => p_unf 1 rfl (fun _ => rfl) fun q2 => ?_
  walk_at "qq"
  refine p_fr [2] rfl (is_red_t ?_)
  cases hrb : sr.isRed with
  | true =>
    obtain ⟨o1, o, od, o2, rfl, -, -, h1, h2⟩ := red_nodeR hr hrb
    walk_at "qq"
    refine is_red_t (t := .node o2 o od true o1) ?_
    refine Post.go' (m' := MS.go ⟨c182c, [], [], .s (some (.ref F.tr)) (.s v1 (.s (some (.ref fa)) (.s (some (.bool false)) (.s (some (.ref s)) (.s (some (.ref o)) (.s (some (.opt sl.root)) .nil))))))⟩) rfl ?_
    refine p_fr [2, 0, 1] rfl (p_foldc rfl rfl rfl rfl (p_fr [1, 0, 0] rfl (p_foldc rfl rfl rfl rfl ?_)))
    exact lc_R ht hl h1 h2 (fun t' a1 a2 a3 => H1 t' a1 ⟨_, a2, fun _ => rfl⟩ a3) K
  | false =>
    walk_at "qq"
    refine p_fr [3] rfl (is_red_t ?_)
    cases hsb : sl.isRed with
    | false =>
      cases fc with
      | true =>
        walk_at "qq"
        refine p_fr [3, 1, 0] rfl (p_foldc rfl rfl rfl rfl (p_fr [1, 0, 0] rfl (p_foldc rfl rfl rfl rfl ?_)))
        exact H1 (.node (.node sr s sd true sl) fa fd false t) rfl ⟨N + 1, ⟨N, rfl, ⟨hrb, hsb, hr, hl⟩, ht⟩, fun _ => rfl⟩ nofun K
      | false =>
        cases C with
        | nil =>
          walk_at "qq"
          refine p_fr [3, 1, 0] rfl (p_foldc rfl rfl rfl rfl (p_fr [1, 0, 0] rfl (p_foldc rfl rfl rfl rfl ?_)))
          exact H1 (.node (.node sr s sd true sl) fa fd false t) rfl ⟨N + 1, ⟨N, rfl, ⟨hrb, hsb, hr, hl⟩, ht⟩, fun e => absurd rfl e⟩ nofun K
        | cons g C =>
          walk_at "qq"
          refine p_isRt (g := g) _ rfl (hd2 rfl) ?_
          walk_at "qq"
          refine p_fr [3, 1, 0] rfl (p_foldc rfl rfl rfl rfl (p_fr [1, 0, 0] rfl (p_foldc rfl rfl rfl rfl ?_)))
          exact H2 (.node (.node sr s sd true sl) fa fd false t) rfl rfl nofun rfl rfl ⟨N, rfl, ⟨hrb, hsb, hr, hl⟩, ht⟩ K
    | true =>
      obtain ⟨i1, i, idd, i2, rfl, -, -, h1, h2⟩ := red_nodeR hl hsb
      walk_at "qq"
      refine p_fr [1] rfl (is_red_t ?_)
      rw [hrb]
      refine p_unf 1 rfl (fun _ => rfl) fun q3 => ?_
      walk_at "qq"
      refine p_fr [1, 1, 1] rfl (p_foldc rfl rfl rfl rfl (p_fr [3, 1, 0] rfl (p_foldc rfl rfl rfl rfl (p_fr [1, 1, 0] rfl ?_))))
      refine p_push (f := ⟨true, fa, fd, fc, t⟩) (h := some s) (M := some (.node sr s sd true (.node i2 i idd false i1) : T).mx) ?_ rfl rfl (Int.add_sub_cancel ..).symm (some_all rfl)
      refine z_tL (C := ⟨true, fa, fd, fc, t⟩ :: C) (fun K2 => ?_) _
      refine p_pop fun q4 lim4 hl4 => ?_
      walk_at "qq"
      refine sibling_R ?_
      refine p_unf 2 rfl (fun _ => rfl) fun q5 => ?_
      walk_at "q"
      refine p_fr [2, 2, 2] rfl (p_foldc rfl rfl rfl rfl (p_fr [1, 1, 0] rfl (pop_fold (f := ⟨true, fa, fd, fc, t⟩) (t := .node (.node sr s sd true i2) i idd false i1) (hl4 _ rfl) ?_)))
      refine Post.go' (m' := MS.go ⟨c182c, [], [], .s (some (.ref F.tr)) (.s v1 (.s (some (.ref fa)) (.s (some (.bool false)) (.s (some (.ref i)) (.s (some (.opt (some s))) (.s (some (.ref i)) .nil))))))⟩) rfl ?_
      refine lc_R (sl := i1) ht h1 h2 hr (fun t' a1 a2 a3 => H1 t' (a1.trans ?_) ⟨_, a2, fun _ => rfl⟩ a3) _
      simp only [T.io, List.append_assoc, List.cons_append]
theorem light_R {t fs : T} {fa : Addr} {fd : D} {fc : Bool} {N : Nat} {v : AV} (ht : t.rb N) (hs : fs.rb (N + 1)) (hc : fc = true → fs.isRed = false)
    (H1 : ∀ t' : T, t'.io = (.node fs fa fd fc t : T).io → (∃ N', t'.rb N' ∧ (C ≠ [] → N' = up fc N)) → (t'.isRed = true → fc = true) → Z F n C t' R (Q .none))
    (H2 : ∀ t' : T, t'.io = (.node fs fa fd fc t : T).io → fc = false → C ≠ [] → t'.root = some fa → t'.isRed = false → t'.rb (N + 1) → Z F n C t' R (Q (.ref fa))) :
    Z F n C (.node fs fa fd fc t) R (CW c (k + 4) (.ref 182) [.ref F.tr, v, .ref fa, .bool false] Q) := by
  intro K
  refine Post.fn f182 rfl (p_unf 0 rfl (fun _ => rfl) fun q1 => ?_)
  walk_at "qq"
  refine sibling_R ?_
  walk_at "qq"
  refine p_fr [1] rfl (is_red_t ?_)
  cases hb : fs.isRed with
  | false =>
    obtain ⟨sl, s, sd, sr, rfl, h1, h2⟩ := black_nodeR hs hb
    refine Post.go' (m' := MS.go ⟨c182b, [], [], .s (some (.ref F.tr)) (.s (some v) (.s (some (.ref fa)) (.s (some (.bool false)) (.s (some (.ref s)) (.s none (.s none .nil))))))⟩) rfl ?_
    refine p_fr [1, 0, 0] rfl (p_foldc rfl rfl rfl rfl ?_)
    exact lb_R ht h1 h2 H1 H2 K
  | true =>
    obtain ⟨sl, s, sd, sr, rfl, hlb, -, h1, h2⟩ := red_nodeR hs hb
    obtain ⟨tl, u, ud, tr, rfl, h3, h4⟩ := black_nodeR h1 hlb
    cases fc with
    | true => cases hc rfl
    | false =>
      refine p_unf 0 rfl (fun _ => rfl) fun q2 => ?_
      walk_at "qq"
      refine p_foldc rfl rfl rfl rfl (p_fr [1, 0, 0] rfl (p_foldc rfl rfl rfl rfl ?_))
      refine z_at ?_ rfl rfl
      refine z_tR (fun K => ?_) K
      refine z_down (f := ⟨false, s, sd, false, sr⟩) (t := .node (.node tr u ud false tl) fa fd true t) (fun K => ?_) K
      refine p_unf 0 rfl (fun _ => rfl) fun q3 => ?_
      walk_at "qq"
      refine sibling_R ?_
      refine Post.go' (m' := MS.go ⟨c182b, [], [], .s (some (.ref F.tr)) (.s (some v) (.s (some (.ref fa)) (.s (some (.bool false)) (.s (some (.ref u)) (.s none (.s none .nil))))))⟩) rfl (p_foldc rfl rfl rfl rfl ?_)
      refine lb_R (C := ⟨false, s, sd, false, sr⟩ :: C) ht h3 h4 (fun t' a1 a2 a3 => z_up (H1 _ ?_ ⟨N + 2, ?_, fun _ => rfl⟩ nofun)) (fun _ _ e => by cases e) K
      · exact (fill_io ⟨false, s, sd, false, sr⟩ a1).trans (by simp only [Fr.fill, T.io, List.append_assoc, List.cons_append, if_true, if_false, Bool.false_eq_true])
      · obtain ⟨N', a2, e⟩ := a2
        have := e nofun
        subst this
        exact ⟨N + 1, rfl, h2, a2⟩
end
end
section
section
variable {F : Fc} {n : Int} {R : List At} {C : Cx} {t : T} {P : Sto → Prop} {c : Cst} {k : Nat} {Q : AV → Sto → Prop}
theorem blk_any {t : T} {N : Nat} (h : t.rb N) : ∃ N', t.blk.rb N' ∧ t.blk.isRed = false := by
  cases t with
  | nil => exact ⟨N, h, rfl⟩
  | node l a d c r =>
    cases c
    · exact ⟨N, h, rfl⟩
    · exact ⟨N + 1, blk_rb h rfl, rfl⟩
inductive CD (F : Fc) (n : Int) (R : List At) (io : Cnt) : Nat → Vs → Xc → List At → Prop
  | mk (C : Cx) (t : T) (N : Nat) (v : Option AV) (K : Int) (hb : t.rb N) (hC : crb C (N + 1)) (hio : (plug C t).io = io) :
    CD F n R io C.length (.s (some (.ref F.tr)) (.s (some (.opt t.root)) (.s (some (.opt (par C))) (.s v .nil)))) ⟨t.root, some t.mx, K, n, C⟩ (.tree (par C) K t :: R)
theorem colour_dropped_ok {N : Nat} {io : Cnt} (hb : t.rb N) (hC : crb C (N + 1)) (hio : (plug C t).io = io) (H : Fin F n R io (Q .none)) :
    Z F n C t R (CW c (k + 5) (.ref 161) [.ref F.tr, .opt t.root, .opt (par C)] Q) := by
  intro K
  refine Post.fn f161 rfl ?_
  refine p_whl (CD F n R io) _ rfl (.mk C t N _ K hb hC hio) ?_
  clear hb hC hio
  rintro _ _ _ _ ⟨C, t, N, v, K, hb, hC, hio⟩ J hJ
  cases C with
  | nil =>
    obtain ⟨N', h1, h2⟩ := blk_any hb
    have := H _ _ h1 h2 ((blk_io t).trans hio) K
    cases t with
    | nil => walk_at "qq"; exact this
    | node l a d cc r =>
      walk_at "qq"
      refine p_unf 0 rfl (fun _ => rfl) fun q => ?_
      walk_at "qq"
      exact p_fold rfl this
  | cons f C =>
    obtain ⟨fl, fa, fd, fc, fs⟩ := f
    obtain ⟨hC1, hC2, hC3⟩ := id hC
    have hfc : fc = true → fs.isRed = false := fun e => (hC2 e).1
    have fin1 : ∀ t' : T, t'.io = (Fr.fill ⟨fl, fa, fd, fc, fs⟩ t).io → (∃ N', t'.rb N' ∧ (C ≠ [] → N' = up fc N)) → (t'.isRed = true → fc = true) → Z F n C t' R (Q .none) := fun t' a1 a2 a3 => by
      obtain ⟨N', a2, e⟩ := a2
      refine H.z a2 ?_ (fun e => ⟨(hC2 (a3 e)).2.1, (hC2 (a3 e)).2.2.1⟩) ((plug_io a1 C).trans hio)
      cases C with
      | nil => trivial
      | cons g C =>
        rw [e nofun]
        cases fc
        · exact hC3 rfl
        · exact (hC2 rfl).2.2.2
    obtain ⟨sl, s, sd, sc, sr, e⟩ : ∃ l a d c r, fs = .node l a d c r := by
      cases fs with
      | nil => cases hC1
      | node l a d c r => exact ⟨l, a, d, c, r, rfl⟩
    subst e
    cases t with
    | nil =>
      walk_at "q"
      refine p_noneRt (g := ⟨fl, fa, fd, fc, .node sl s sd sc sr⟩) rfl ?_
      walk_at "qq"
      refine is_red_t (t := .nil) (p_pop fun o lim hl => ?_)
      cases fl with
      | true =>
        walk_at "qq"
        refine (pop_fold (f := ⟨true, fa, fd, fc, .node sl s sd sc sr⟩) (t := .nil) (hl _ rfl) ?_)
        refine light_L (t := .nil) hb hC1 hfc (fun t' a1 a2 a3 K => ?_) (fun t' a1 a2 a3 a4 a5 a6 K => ?_) _
        · walk_at "qq"
          exact fin1 t' a1 a2 a3 K
        · cases t' with
          | nil => cases a4
          | node ul ua ud uc ur =>
            cases a4
            refine p_unf 0 rfl (fun _ => rfl) fun q => ?_
            walk_at "qq"
            exact p_lp rfl (p_fold rfl (hJ _ _ _ _ (Nat.lt_succ_self _) (.mk C (.node ul fa ud uc ur) (N + 1) _ K a6 (hC3 a2) ((plug_io a1 C).trans hio))))
      | false =>
        walk_at "qq"
        refine (pop_fold (f := ⟨false, fa, fd, fc, .node sl s sd sc sr⟩) (t := .nil) (hl _ rfl) ?_)
        refine light_R (t := .nil) hb hC1 hfc (fun t' a1 a2 a3 K => ?_) (fun t' a1 a2 a3 a4 a5 a6 K => ?_) _
        · walk_at "qq"
          exact fin1 t' a1 a2 a3 K
        · cases t' with
          | nil => cases a4
          | node ul ua ud uc ur =>
            cases a4
            refine p_unf 0 rfl (fun _ => rfl) fun q => ?_
            walk_at "qq"
            exact p_lp rfl (p_fold rfl (hJ _ _ _ _ (Nat.lt_succ_self _) (.mk C (.node ul fa ud uc ur) (N + 1) _ K a6 (hC3 a2) ((plug_io a1 C).trans hio))))
    | node tl ta td tc tr =>
      walk_at "q"
      refine p_isnotRt (g := ⟨fl, fa, fd, fc, .node sl s sd sc sr⟩) _ rfl (hd0 rfl) ?_
      walk_at "qq"
      refine is_red_t (t := .node tl ta td tc tr) ?_
      cases tc with
      | true =>
        walk_at "q"
        refine p_unf 0 rfl (fun _ => rfl) fun q => ?_
        walk_at "qq"
        refine p_fold rfl (H.z (t := .node tl ta td false tr) (C := ⟨fl, fa, fd, fc, .node sl s sd sc sr⟩ :: C) (N := N + 1) ⟨N, rfl, hb.2.2⟩ hC nofun ((plug_io (t := .node tl ta td false tr) (t' := .node tl ta td true tr) rfl (_ :: C)).trans hio) K)
      | false =>
        refine p_pop fun o lim hl => ?_
        cases fl with
        | true =>
          walk_at "qq"
          refine (pop_fold (f := ⟨true, fa, fd, fc, .node sl s sd sc sr⟩) (t := (.node tl ta td false tr)) (hl _ rfl) ?_)
          refine light_L (t := (.node tl ta td false tr)) hb hC1 hfc (fun t' a1 a2 a3 K => ?_) (fun t' a1 a2 a3 a4 a5 a6 K => ?_) _
          · walk_at "qq"
            exact fin1 t' a1 a2 a3 K
          · cases t' with
            | nil => cases a4
            | node ul ua ud uc ur =>
              cases a4
              refine p_unf 0 rfl (fun _ => rfl) fun q => ?_
              walk_at "qq"
              exact p_lp rfl (p_fold rfl (hJ _ _ _ _ (Nat.lt_succ_self _) (.mk C (.node ul fa ud uc ur) (N + 1) _ K a6 (hC3 a2) ((plug_io a1 C).trans hio))))
        | false =>
          walk_at "qq"
          refine (pop_fold (f := ⟨false, fa, fd, fc, .node sl s sd sc sr⟩) (t := (.node tl ta td false tr)) (hl _ rfl) ?_)
          refine light_R (t := (.node tl ta td false tr)) hb hC1 hfc (fun t' a1 a2 a3 K => ?_) (fun t' a1 a2 a3 a4 a5 a6 K => ?_) _
          · walk_at "qq"
            exact fin1 t' a1 a2 a3 K
          · cases t' with
            | nil => cases a4
            | node ul ua ud uc ur =>
              cases a4
              refine p_unf 0 rfl (fun _ => rfl) fun q => ?_
              walk_at "qq"
              exact p_lp rfl (p_fold rfl (hJ _ _ _ _ (Nat.lt_succ_self _) (.mk C (.node ul fa ud uc ur) (N + 1) _ K a6 (hC3 a2) ((plug_io a1 C).trans hio))))
end
end
section
section
variable {F : Fc} {n : Int} {R : List At} {C : Cx} {t : T} {P : Sto → Prop} {c : Cst} {k : Nat} {Q : AV → Sto → Prop}
noncomputable def pu : Cx → Addr → List Addr
  | [], a => [a]
  | f :: C, a => a :: pu C f.a
theorem pu_len : ∀ (C : Cx) (a : Addr), (pu C a).length = C.length + 1
  | [], _ => rfl
  | f :: C, a => congrArg Nat.succ (pu_len C f.a)
theorem pu_snoc : ∀ (C : Cx) (f : Fr) (a : Addr), pu (C ++ [f]) a = pu C a ++ [f.a]
  | [], _, _ => rfl
  | g :: C, f, a => congrArg (a :: ·) (pu_snoc C f g.a)
theorem plug_app : ∀ (A B : Cx) (t : T), plug (A ++ B) t = plug B (plug A t)
  | [], _, _ => rfl
  | f :: A, B, t => plug_app A B (f.fill t)
noncomputable abbrev refs (l : List Addr) : List AV := l.map .ref
theorem fill_node (f : Fr) (t : T) : ∃ l r, f.fill t = .node l f.a f.d f.red r := by
  unfold Fr.fill; split
  · exact ⟨_, _, rfl⟩
  · exact ⟨_, _, rfl⟩
inductive HI (F : Fc) (n : Int) (R : List At) (lp : Addr) (P : List Addr) (T0 : T) : Nat → Vs → Xc → List At → Prop
  | up (C : Cx) (l : T) (a : Addr) (d : D) (cc : Bool) (r : T) (xs : List Addr) (K : Int) (h1 : xs ++ pu C a = P) (h2 : plug C (.node l a d cc r) = T0) :
    HI F n R lp P T0 (C.length + 1) (.s (some (.ref a)) (.s (some (.ref lp)) (.s none .nil))) ⟨some a, some (T.node l a d cc r).mx, K, n, C⟩ (.tree (par C) K (.node l a d cc r) :: .ls lp (refs xs) :: R)
  | fin (K : Int) : HI F n R lp P T0 0 (.s (some .none) (.s (some (.ref lp)) (.s none .nil))) ⟨T0.root, some T0.mx, K, n, []⟩ (.tree none K T0 :: .ls lp (refs P) :: R)
inductive HJ (F : Fc) (n : Int) (R : List At) (C : Cx) (l : T) (a : Addr) (d : D) (cc : Bool) (r : T) : List AV → Vs → Xc → List At → Prop
  | dn (C1 C2 : Cx) (v0 v1 v2 : Option AV) (h : C1 ++ C2 = C) : HJ F n R C l a d cc r (refs (pu C1 a).reverse) (.s v0 (.s v1 (.s v2 .nil))) ⟨(plug C1 (.node l a d cc r)).root, some (plug C1 (.node l a d cc r)).mx, 0, n, C2⟩ (.tree (par C2) 0 (plug C1 (.node l a d cc r)) :: R)
  | fin (v0 v1 v2 : Option AV) : HJ F n R C l a d cc r [] (.s v0 (.s v1 (.s v2 .nil))) ⟨some a, some (T.node l a d cc r).mx, 0, n, C⟩ (.cell a ⟨0, 0, d, cc, gE d l.mx r.mx, l.root, r.root, par C⟩ :: .tree (some a) 0 l :: .tree (some a) 0 r :: R)
theorem hand_down_to_ok {l r : T} {a : Addr} {d : D} {cc : Bool} (hz : C.length < 900)
    (H : Post F ⟨some a, some (T.node l a d cc r).mx, 0, n, C⟩ (.cell a ⟨0, 0, d, cc, gE d l.mx r.mx, l.root, r.root, par C⟩ :: .tree (some a) 0 l :: .tree (some a) 0 r :: R) (Q .none)) :
    Z F n C (.node l a d cc r) R (CW c (k + 2) (.ref 70) [.ref a] Q) := by
  intro K
  refine Post.fn f70 rfl (p_mkl rfl rfl fun lp => p_fr [1] rfl ?_)
  refine p_whl (HI F n R lp (pu C a) (plug C (.node l a d cc r))) _ rfl (.up C l a d cc r [] K rfl rfl) ?_
  rintro _ _ _ _ (⟨C1, l1, a1, d1, c1, r1, xs, K1, h1, h2⟩ | ⟨K1⟩) J hJ
  · walk_at "qq"
    refine p_chk _ rfl at1 rfl (p_app _ rfl at1 rfl ?_ ?_)
    · have := congrArg List.length h1
      rw [List.length_append, pu_len, pu_len] at this
      rw [List.length_map]; omega
    refine p_unf 0 rfl (fun _ => rfl) fun o => ?_
    walk_at "qq"
    refine p_fold rfl ?_
    refine p_lp rfl ?_
    have e : refs xs ++ [.ref a1] = refs (xs ++ [a1]) := (List.map_append (f := AV.ref) (l₁ := xs) (l₂ := [a1])).symm
    rw [e]
    cases C1 with
    | nil =>
      have key := hJ _ _ _ _ (Nat.lt_succ_self _) (.fin K1)
      rw [← h2, ← h1] at key
      exact key
    | cons f C1 =>
      refine z_up (f := f) (t := .node l1 a1 d1 c1 r1) (C := C1) (fun K' => ?_) K1
      obtain ⟨l', r', e⟩ := fill_node f (.node l1 a1 d1 c1 r1)
      rw [e]
      exact hJ _ _ _ _ (Nat.lt_succ_self _) (.up C1 l' f.a f.d f.red r' (xs ++ [a1]) K' ((List.append_assoc ..).trans h1) ((congrArg (plug C1) e.symm).trans h2))
  · walk_at "qq"
    refine p_slc (ys := refs (pu C a).reverse) _ rfl at1 (sl_rev (List.map_reverse ..).symm) fun l2 => p_fr [1] rfl (p_K0 fun e => ?_)
    cases e
    refine p_forl (HJ F n _ C l a d cc r) rfl (.dn C [] _ _ _ (List.append_nil C)) ?_ ?_ ?_
    · rintro _ _ _ _ (_ | _)
      · exact ⟨1, rfl⟩
      · exact ⟨3, rfl⟩
    · intro v rest vs X L h
      generalize e : v :: rest = ys at h
      cases h with
      | fin => cases e
      | dn C1 C2 v0 v1 v2 h =>
        refine ⟨.s v0 (.s v1 (.s (some v) .nil)), rfl, fun J hJ => ?_⟩
        rcases List.eq_nil_or_concat C1 with rfl | ⟨C1, f, rfl⟩
        · cases e
          cases h
          walk_at "qq"
          refine hand_down_ok ?_
          walk_at "qq"
          exact p_lp rfl (hJ _ _ _ (.fin ..))
        · rw [List.concat_eq_append] at h e ⊢
          rw [pu_snoc, List.reverse_append] at e
          obtain ⟨rfl, rfl⟩ := List.cons.inj e
          rw [plug_app]
          obtain ⟨fl, fa, fd, fc, fs⟩ := f
          have key := fun v0 v1 v2 => hJ _ _ _ (.dn C1 (⟨fl, fa, fd, fc, fs⟩ :: C2) v0 v1 v2 ((List.append_assoc C1 [_] C2).symm.trans h))
          cases fl with
          | true =>
            walk_at "qq"
            refine hand_down_ok ?_
            walk_at "qq"
            exact p_lp rfl (p_fr [0, 1] rfl (p_push (f := ⟨true, fa, fd, fc, fs⟩) (M := some (plug C1 (.node l a d cc r)).mx) (key _ _ _) rfl rfl rfl (some_all rfl)))
          | false =>
            walk_at "qq"
            refine hand_down_ok ?_
            walk_at "qq"
            exact p_lp rfl (p_push (f := ⟨false, fa, fd, fc, fs⟩) (M := some (plug C1 (.node l a d cc r)).mx) (key _ _ _) rfl rfl rfl (some_all rfl))
    · intro vs X L h
      generalize e : ([] : List AV) = ys at h
      cases h with
      | dn C1 C2 v0 v1 v2 h =>
        have := congrArg List.length e
        rw [List.length_map, List.length_reverse, pu_len] at this
        cases this
      | fin => exact p_fin rfl (p_fr [3, 3] rfl (p_drop (p_drop H)))
end
end
section
section
variable {F : Fc} {X : Xc} {n : Int} {R : List At} {C : Cx} {t : T} {P : Sto → Prop} {c : Cst} {k : Nat} {Q : AV → Sto → Prop}
theorem pb_snoc (p : Option Addr) : ∀ (D : Cx) (g : Fr), pb p (D ++ [g]) = some g.a := fun D => by
  induction D generalizing p with
  | nil => exact fun _ => rfl
  | cons f D ih => exact fun g => ih (some f.a) g
inductive FB (R : List At) (p : Option Addr) (T0 : T) (X : Xc) : Nat → Vs → Xc → List At → Prop
  | mk (Dl : Cx) (l : T) (a : Addr) (d : D) (cc : Bool) (r : T) (q : Option Addr) (hq : q = pb p Dl) (hl : ∀ f ∈ Dl, f.left = true) (h : plug Dl.reverse (.node l a d cc r) = T0) :
    FB R p T0 X l.ad.length (.s (some (.ref a)) .nil) X (.sp p Dl (some a) :: .cell a ⟨0, 0, d, cc, gE d l.mx r.mx, l.root, r.root, q⟩ :: .tree (some a) 0 l :: .tree (some a) 0 r :: R)
theorem first_below_ok {l r : T} {a : Addr} {d : D} {cc : Bool} {p : Option Addr}
    (H : ∀ (Dl : Cx) (b : Addr) (e : D) (cb : Bool) (rb : T) (lim : Int), (∀ f ∈ Dl, f.left = true) → plug Dl.reverse (.node .nil b e cb rb) = .node l a d cc r →
      Post F X (.sp p Dl (some b) :: .cell b ⟨0, 0, e, cb, lim, none, rb.root, pb p Dl⟩ :: .tree (some b) 0 rb :: R) (Q (.ref b))) :
    Post F X (.tree p 0 (.node l a d cc r) :: R) (CW c (k + 2) (.ref 140) [.ref a] Q) := by
  refine Post.fn f140 rfl ?_
  walk_at "qq"
  refine hand_down_ok (p_spNil (p := p) (h := some a) ?_)
  refine p_whl (FB R p (.node l a d cc r) X) _ rfl (.mk [] l a d cc r p rfl (fun _ h => absurd h List.not_mem_nil) rfl) ?_
  rintro _ _ _ _ ⟨Dl, l, a, d, cc, r, q, hq, hl, h⟩ J hJ
  subst hq
  cases l with
  | nil => walk_at "qq"; exact p_fr [2] rfl (p_drop (H Dl a d cc r _ hl h))
  | node ll la ld lc lr =>
    walk_at "qq"
    refine p_fr [0, 0, 1] rfl (p_snoc (g := ⟨true, a, d, cc, r⟩) ?_)
    refine p_fr [1] rfl (hand_down_ok ?_)
    walk_at "qq"
    refine p_fr [3] rfl (p_lp rfl (hJ _ _ _ _ (ltL ll la ld lc lr) (.mk (Dl ++ [⟨true, a, d, cc, r⟩]) ll la ld lc lr _ (pb_snoc ..).symm (fun f hf => ?_) ?_)))
    · rcases List.mem_append.mp hf with hf | hf
      · exact hl f hf
      · cases List.mem_singleton.mp hf; rfl
    · rw [List.reverse_append]; exact h
theorem hang_tree {a : Addr} {ra : Rc} {K K' : Int} {q : Option Addr} {M : Option (Option Int)}
    (H : Post F ⟨t.root, M, K, n, C⟩ (.cell a ra :: .tree (par C) K' t :: R) (Q .none)) :
    Post F ⟨some a, M, K, n, C⟩ (.cell a ra :: .tree q K' t :: R) (CW c (k + 1) (.ref 91) [.ref F.tr, .opt (par C), .ref a, .opt t.root] Q) := by
  cases t with
  | nil => exact p_fr [1] rfl (p_drop (hang_none (p_nil (p := par C) (K := K') (p_fr [1] rfl H))))
  | node l b d cc r =>
    refine p_unf 1 rfl (fun _ => rfl) fun o => ?_
    exact hang_cell (p_fr [1, 1, 1] rfl (p_fold rfl (p_fr [1] rfl H)))
theorem hang_pL {p b : Addr} {rb : Rc} {K o K' lim : Int} {d : D} {cc : Bool} {r pp q : Option Addr}
    (H : Post F X (.cell p ⟨K, o, d, cc, lim, t.root, r, pp⟩ :: .cell b rb :: .tree (some p) K' t :: R) (Q .none)) :
    Post F X (.cell p ⟨K, o, d, cc, lim, some b, r, pp⟩ :: .cell b rb :: .tree q K' t :: R) (CW c (k + 1) (.ref 91) [.ref F.tr, .ref p, .ref b, .opt t.root] Q) := by
  refine Post.fn f91 rfl ?_
  cases t with
  | nil => walk_at "qq"; exact p_fr [2] rfl (p_drop (p_nil (p := some p) (K := K') (p_fr [1, 1] rfl H)))
  | node l x e ce y =>
    refine p_unf 2 rfl (fun _ => rfl) fun o => ?_
    walk_at "qq"
    exact p_fr [2, 2, 2] rfl (p_fold rfl (p_fr [1, 1] rfl H))
theorem hang_pR {p b x : Addr} {rb rx : Rc} {K o K' lim : Int} {d : D} {cc : Bool} {pp q : Option Addr}
    (H : Post F X (.cell p ⟨K, o, d, cc, lim, some x, t.root, pp⟩ :: .cell b rb :: .tree (some p) K' t :: .cell x rx :: R) (Q .none)) :
    Post F X (.cell p ⟨K, o, d, cc, lim, some x, some b, pp⟩ :: .cell b rb :: .tree q K' t :: .cell x rx :: R) (CW c (k + 1) (.ref 91) [.ref F.tr, .ref p, .ref b, .opt t.root] Q) := by
  refine Post.fn f91 rfl ?_
  cases t with
  | nil => walk_at "qq"; exact p_fr [2] rfl (p_drop (p_nil (p := some p) (K := K') (p_fr [1, 1] rfl H)))
  | node l z e ce y =>
    refine p_unf 2 rfl (fun _ => rfl) fun o => ?_
    walk_at "qq"
    exact p_fr [2, 2, 2] rfl (p_fold rfl (p_fr [1, 1] rfl H))
theorem greatest_end_c {a x y : Addr} {K o lim K1 o1 l1 K2 o2 l2 : Int} {d d1 d2 : D} {cc c1 c2 : Bool} {p p1 p2 r1 r2 q1 q2 : Option Addr}
    (H : ∀ v, Post F X (.cell a ⟨K, o, d, cc, lim, some x, some y, p⟩ :: .cell x ⟨K1, o1, d1, c1, l1, r1, q1, p1⟩ :: .cell y ⟨K2, o2, d2, c2, l2, r2, q2, p2⟩ :: R) (Q (.int v))) :
    Post F X (.cell a ⟨K, o, d, cc, lim, some x, some y, p⟩ :: .cell x ⟨K1, o1, d1, c1, l1, r1, q1, p1⟩ :: .cell y ⟨K2, o2, d2, c2, l2, r2, q2, p2⟩ :: R) (CW c (k + 1) (.ref 77) [.ref a] Q) := by
  refine Post.fn f77 rfl ?_
  walk_at "qq"
  refine Post.max ?_
  walk_at "qq"
  refine Post.max ?_
  walk_at "qq"
  exact H _
theorem take_placeB {a b g x : Addr} {d e xd gd : D} {cc cb xc gc : Bool} {xl xr : T} {o lim lim2 lim3 : Int} {q1 q2 q3 q4 q5 : Option Addr} {M : Option (Option Int)}
    (H : ∀ v, Post F ⟨some b, M, 0, n, C⟩ (.cell a ⟨0, 0, d, cc, lim, some x, some g, par C⟩ :: .cell b ⟨0, 0, e, cc, v, some x, some g, par C⟩ :: .tree (some b) 0 (.node xl x xd xc xr) :: .cell g ⟨0, o, gd, gc, lim3, q4, q5, some b⟩ :: R) (Q .none)) :
    Post F ⟨some a, M, 0, n, C⟩ (.cell a ⟨0, 0, d, cc, lim, some x, some g, par C⟩ :: .cell b ⟨0, 0, e, cb, lim2, q1, q2, q3⟩ :: .tree (some a) 0 (.node xl x xd xc xr) :: .cell g ⟨0, o, gd, gc, lim3, q4, q5, some a⟩ :: R)
      (CW c (k + 2) (.ref 147) [.ref F.tr, .ref a, .ref b] Q) := by
  refine Post.fn f147 rfl ?_
  walk_at "qq"
  refine hang_cell ?_
  refine p_unf 2 rfl (fun _ => rfl) fun o1 => ?_
  walk_at "qq"
  refine p_fr [1, 1, 3] rfl (greatest_end_c fun v => ?_)
  walk_at "qq"
  exact p_fr [1, 3, 3] rfl (p_fold rfl (p_fr [3, 1, 0] rfl (H _)))
theorem take_placeA {a b x : Addr} {d e xd : D} {cc cb xc : Bool} {xl xr : T} {lim lim2 : Int} {q1 q2 q3 : Option Addr} {M : Option (Option Int)}
    (H : ∀ v, Post F ⟨some b, M, 0, n, C⟩ (.cell a ⟨0, 0, d, cc, lim, some x, t.root, par C⟩ :: .cell b ⟨0, 0, e, cc, v, some x, t.root, par C⟩ :: .tree (some b) 0 (.node xl x xd xc xr) :: .tree (some b) 0 t :: R) (Q .none)) :
    Post F ⟨some a, M, 0, n, C⟩ (.cell a ⟨0, 0, d, cc, lim, some x, t.root, par C⟩ :: .cell b ⟨0, 0, e, cb, lim2, q1, q2, q3⟩ :: .tree (some a) 0 (.node xl x xd xc xr) :: .tree (some a) 0 t :: R)
      (CW c (k + 2) (.ref 147) [.ref F.tr, .ref a, .ref b] Q) := by
  refine Post.fn f147 rfl ?_
  walk_at "qq"
  refine hang_cell (p_unf 2 rfl (fun _ => rfl) fun o1 => ?_)
  cases t with
  | nil =>
    walk_at "qq"
    refine p_fr [2, 2, 2] rfl (p_fold rfl (p_fr [2, 0, 1] rfl (greatest_end_ok (l := .node xl x xd xc xr) (t := .nil) ?_)))
    walk_at "qq"
    exact p_fr [2] rfl (p_drop (p_nil (p := some b) (K := 0) (p_fr [3, 1, 1] rfl (H _))))
  | node tl u ud uc tr =>
    refine p_unf 5 rfl (fun _ => rfl) fun o2 => ?_
    walk_at "qq"
    refine p_fr [2, 2, 2] rfl (p_fold rfl (p_fr [3, 3, 3] rfl (p_fold rfl (p_fr [3, 1, 0] rfl (greatest_end_ok (l := .node xl x xd xc xr) (t := .node tl u ud uc tr) ?_)))))
    walk_at "qq"
    exact p_fr [3] rfl (H _)
end
end
section
section
variable {F : Fc} {X : Xc} {n : Int} {R : List At} {C : Cx} {t : T} {P : Sto → Prop} {c : Cst} {k : Nat} {Q : AV → Sto → Prop}
theorem z_unplug : ∀ {C : Cx} {t : T}, Z F n C t R P → Z F n [] (plug C t) R P
  | [], _, h => h
  | _ :: C, _, h => z_unplug (C := C) (z_down h)
inductive LI (F : Fc) (n : Int) (R : List At) (T1 : T) (w0 w1 w2 w3 w4 w5 : Option AV) : Nat → Vs → Xc → List At → Prop
  | mk (C : Cx) (t : T) (K : Int) (h : plug C t = T1) : LI F n R T1 w0 w1 w2 w3 w4 w5 C.length (.s w0 (.s w1 (.s w2 (.s w3 (.s w4 (.s w5 (.s (some (.opt (par C))) .nil))))))) ⟨t.root, none, K, n, C⟩ (.tree (par C) K t :: R)
theorem dn_tail {a : Addr} {d : D} {cc cb : Bool} {lim K : Int} {q1 q2 q3 : Option Addr} {w : Option AV} {io : Cnt} {g : AV} (h1 : cb = true → ∃ N, t.rb N ∧ crb C N ∧ t.isRed = false) (h2 : cb = false → ∃ N, t.rb N ∧ crb C (N + 1)) (hio : (plug C t).io = io)
    (H : ∀ cc lim, Fin F n (.cell a ⟨0, 0, d, cc, lim, none, none, none⟩ :: R) io (Q .none)) :
    Post F ⟨t.root, none, K, n, C⟩ (.tree (par C) K t :: .cell a ⟨0, 0, d, cc, lim, q1, q2, q3⟩ :: R)
      (Run c (k + 5) (MS.go ⟨c154b, [], [], .s (some (.ref F.tr)) (.s (some (.ref a)) (.s (some g) (.s (some (.opt t.root)) (.s (some (.opt (par C))) (.s (some (.bool cb)) (.s w .nil))))))⟩) Q) := by
  refine p_whl (LI F n _ (plug C t) _ _ _ _ _ _) _ rfl (.mk C t K rfl) ?_
  rintro _ _ _ _ ⟨C1, t1, K1, h⟩ J hJ
  cases C1 with
  | nil =>
    cases (show t1 = plug C t from h)
    refine p_M0 (some (plug C t).mx) ?_
    cases cb with
    | true =>
      obtain ⟨N, b1, b2, b3⟩ := h1 rfl
      walk_at "qq"
      exact (H cc lim).z b1 b2 (fun e => by rw [b3] at e; cases e) hio |> z_unplug |> fun z => z K1
    | false =>
      obtain ⟨N, b1, b2⟩ := h2 rfl
      walk_at "qq"
      refine z_unplug (colour_dropped_ok b1 b2 hio fun T' N' a1 a2 a3 K' => ?_) K1
      walk_at "qq"
      exact H cc lim T' N' a1 a2 a3 K'
  | cons f C1 =>
    obtain ⟨left, fa, fd, fc, fs⟩ := f
    refine p_pop fun o lim' _ => ?_
    have key : ∀ K', Post F ⟨(Fr.fill ⟨left, fa, fd, fc, fs⟩ t1).root, none, K', n, C1⟩ (.tree (par C1) K' (Fr.fill ⟨left, fa, fd, fc, fs⟩ t1) :: _ :: R) (J _) := fun K' => hJ _ _ _ _ (Nat.lt_succ_self _) (.mk C1 (Fr.fill ⟨left, fa, fd, fc, fs⟩ t1) K' h)
    cases left with
    | true =>
      walk_at "qq"
      refine p_fr [0, 1] rfl (greatest_end_ok ?_)
      walk_at "qq"
      exact p_lp rfl (p_foldc (K := K1 - o) (Int.sub_add_cancel K1 o).symm (Int.sub_add_cancel ..) rfl rfl (key _))
    | false =>
      walk_at "qq"
      refine greatest_end_ok ?_
      walk_at "qq"
      exact p_lp rfl (p_foldc (K := K1 - o) (Int.sub_add_cancel K1 o).symm (Int.sub_add_cancel ..) rfl rfl (key _))
theorem unplugG : ∀ {A B : Cx} {t : T} {M : Nat}, (plug A t).rb M → crb B M → ((plug A t).isRed = true → topRed B = false ∧ B ≠ []) → ∃ N, t.rb N ∧ crb (A ++ B) N ∧ (t.isRed = true → topRed (A ++ B) = false ∧ A ++ B ≠ [])
  | [], _, t, M, h, hB, hr => ⟨M, h, hB, hr⟩
  | f :: A, B, t, M, h, hB, hr => by
    obtain ⟨N, h1, h2, h3⟩ := unplugG (A := A) (t := f.fill t) h hB hr
    obtain ⟨left, a, d, cc, s⟩ := f
    cases left
    · obtain ⟨N', q1, q2, q3, q4, q5⟩ := rb_sons (l := s) (r := t) (a := a) (d := d) (cc := cc) h1 h2 h3
      exact ⟨N', q2, q4, fun e => nored q5 (·.2) e rfl⟩
    · obtain ⟨N', q1, q2, q3, q4, q5⟩ := rb_sons (l := t) (r := s) (a := a) (d := d) (cc := cc) h1 h2 h3
      exact ⟨N', q1, q3, fun e => nored q5 (·.1) e rfl⟩
theorem crb_swap {left cc : Bool} {a b : Addr} {d e : D} {s : T} {C : Cx} : ∀ {A : Cx} {n : Nat}, crb (A ++ ⟨left, a, d, cc, s⟩ :: C) n → crb (A ++ ⟨left, b, e, cc, s⟩ :: C) n
  | [], _, h => h
  | g :: A, n, ⟨h1, h2, h3⟩ => by
    refine ⟨h1, fun q => ?_, fun q => crb_swap (A := A) (h3 q)⟩
    obtain ⟨a1, a2, a3, a4⟩ := h2 q
    refine ⟨a1, ?_, by cases A <;> exact nofun, crb_swap (A := A) a4⟩
    cases A <;> exact a2
theorem plug_rt (D : Cx) (t : T) : (plug D.reverse t).root = rt D t.root := by
  cases D with
  | nil => rfl
  | cons g D => rw [List.reverse_cons, plug_app]; exact fill_root ..
theorem pre_lefts : ∀ {A : Cx}, (∀ f ∈ A, f.left = true) → pre A = []
  | [], _ => rfl
  | f :: A, h => by
    unfold pre
    rw [if_pos (h f List.mem_cons_self)]; exact pre_lefts fun g hg => h g (List.mem_cons_of_mem _ hg)
theorem lefts_rev {A : Cx} (h : ∀ f ∈ A, f.left = true) : ∀ f ∈ A.reverse, f.left = true := fun f hf => h f (List.mem_reverse.mp hf)
theorem rb_one {x y : T} {a : Addr} {d : D} {cc : Bool} {N : Nat} (hb : (T.node x a d cc y).rb N) (t : T) (ht : t = x ∨ t = y) : (cc = true → t.rb N ∧ t.isRed = false) ∧ (cc = false → ∃ m, N = m + 1 ∧ t.rb m) := by
  cases cc with
  | true => exact ⟨fun _ => by rcases ht with rfl | rfl; exact ⟨hb.2.2.1, hb.1⟩; exact ⟨hb.2.2.2, hb.2.1⟩, nofun⟩
  | false => obtain ⟨m, e, h1, h2⟩ := hb; exact ⟨nofun, fun _ => ⟨m, e, by rcases ht with rfl | rfl; exact h1; exact h2⟩⟩
theorem drop_node_ok {l r : T} {a : Addr} {d : D} {cc : Bool} {N : Nat} (hb : (T.node l a d cc r).rb N) (hC : crb C N) (hr : cc = true → topRed C = false ∧ C ≠ []) (hz : C.length < 900)
    (H : ∀ cc lim, Fin F (n - 1) (.cell a ⟨0, 0, d, cc, lim, none, none, none⟩ :: R) (pre C ++ (l.io ++ (r.io ++ post C))) (Q .none)) : Z F n C (.node l a d cc r) R (CW c (k + 6) (.ref 154) [.ref F.tr, .ref a] Q) := by
  intro K
  refine Post.fn f154 rfl ?_
  walk_at "qq"
  refine hand_down_to_ok hz ?_ K
  have one : ∀ t : T, (t = l ∨ t = r) → (cc = true → ∃ N, t.rb N ∧ crb C N ∧ t.isRed = false) ∧ (cc = false → ∃ N, t.rb N ∧ crb C (N + 1)) := fun t ht =>
    let h := rb_one hb t ht
    ⟨fun e => ⟨N, (h.1 e).1, hC, (h.1 e).2⟩, fun e => let ⟨m, e1, e2⟩ := h.2 e; ⟨m, e2, e1 ▸ hC⟩⟩
  cases l with
  | nil =>
    walk_at "qq"
    refine p_fr [1] rfl (p_drop (hang_tree ?_))
    walk_at "qq"
    refine p_fr [1] rfl (p_old ?_)
    refine Post.go' (m' := MS.go ⟨c154b, [], [], _⟩) rfl (dn_tail (w := none) (one r (.inr rfl)).1 (one r (.inr rfl)).2 (plug_split ..) H)
  | node xl x xd xc xr =>
    cases r with
    | nil =>
      walk_at "qq"
      refine p_fr [2] rfl (p_drop (hang_tree ?_))
      walk_at "qq"
      refine p_fr [1] rfl (p_old ?_)
      refine Post.go' (m' := MS.go ⟨c154b, [], [], _⟩) rfl (dn_tail (w := none) (one _ (.inl rfl)).1 (one _ (.inl rfl)).2 (plug_split ..) H)
    | node rl ra rd rc rr =>
      walk_at "qq"
      refine p_fr [2] rfl (first_below_ok fun Dl b e cb rb lim hl heq => ?_)
      obtain ⟨N1, _, q2, _, q4, q5⟩ := rb_sons hb hC hr
      obtain ⟨N2, b1, b2, b3⟩ := unplugG (A := Dl.reverse) (by rw [heq]; exact q2) q4 (fun e => by rw [heq] at e; exact nored q5 (·.2) e rfl)
      have hroot : some ra = rt Dl (some b) := ((plug_rt Dl (.node .nil b e cb rb)).symm.trans (congrArg T.root heq)).symm
      have two := rb_one b1 rb (.inr rfl)
      have two' : (cb = true → ∃ N, rb.rb N ∧ crb (Dl.reverse ++ ⟨false, b, e, cc, .node xl x xd xc xr⟩ :: C) N ∧ rb.isRed = false) ∧ (cb = false → ∃ N, rb.rb N ∧ crb (Dl.reverse ++ ⟨false, b, e, cc, .node xl x xd xc xr⟩ :: C) (N + 1)) :=
        ⟨fun e => ⟨N2, (two.1 e).1, crb_swap b2, (two.1 e).2⟩, fun e => let ⟨m, e1, e2⟩ := two.2 e; ⟨m, e2, e1 ▸ crb_swap b2⟩⟩
      have io : (plug (Dl.reverse ++ ⟨false, b, e, cc, .node xl x xd xc xr⟩ :: C) rb).io = pre C ++ ((T.node xl x xd xc xr).io ++ ((T.node rl ra rd rc rr).io ++ post C)) := by
        rw [plug_app, ← heq, plug_split (_ :: C), plug_split, plug_split, pre_lefts (lefts_rev hl)]
        simp [pre, post, T.io]
      clear heq two b1 b2 b3 q2 q4 q5 one hb hC hr
      walk_at "qq"
      rcases List.eq_nil_or_concat Dl with rfl | ⟨D', g, rfl⟩
      · cases hroot
        refine p_drop (p_fr [3] rfl (p_unf 0 rfl (fun _ => rfl) fun o => p_fr [5, 3, 3, 0] rfl (hang_pR ?_)))
        walk_at "qq"
        refine p_fr [3, 3, 3] rfl (p_fold rfl (p_fr [1, 1, 0] rfl (take_placeA fun v => ?_)))
        walk_at "qq"
        refine p_fr [1, 1, 1] rfl (p_old (p_push (f := ⟨false, ra, e, cc, .node xl x xd xc xr⟩) (h := rb.root) (M := none) ?_ rfl rfl rfl nofun))
        exact Post.go' (m' := MS.go ⟨c154b, [], [], _⟩) rfl (dn_tail (w := none) (C := ⟨false, ra, e, cc, .node xl x xd xc xr⟩ :: C) two'.1 two'.2 io H)
      · rw [List.concat_eq_append] at hl hroot two' io ⊢
        rw [List.reverse_append] at two' io
        obtain ⟨g0, D0, e0⟩ : ∃ g0 D0, D' ++ [g] = g0 :: D0 := by cases D' with
          | nil => exact ⟨g, [], rfl⟩
          | cons g0 D' => exact ⟨g0, D' ++ [g], rfl⟩
        rw [pb_snoc]
        refine p_unsnoc fun lim2 => p_fr [1, 2, 2] rfl (hang_pL ?_)
        refine p_fr [3, 0, 2] rfl (p_snoc ?_)
        walk_at "qq"
        rw [e0] at hroot ⊢
        cases hroot
        refine p_uncons fun lim3 => p_fr [5, 3, 4, 0] rfl (take_placeB fun v => p_fr [3, 3, 3] rfl (p_cons ?_))
        rw [← e0]
        refine p_unsnoc fun lim4 => ?_
        walk_at "qq"
        refine p_snoc ?_
        have e1 : some g0.a = rt (D' ++ [g]) rb.root := by rw [e0]; rfl
        rw [e1]
        refine p_fr [2, 2, 0] rfl (p_old (p_push (f := ⟨false, b, e, cc, .node xl x xd xc xr⟩) (h := rt (D' ++ [g]) rb.root) (M := none) ?_ rfl rfl rfl nofun))
        refine p_spC (C := ⟨false, b, e, cc, .node xl x xd xc xr⟩ :: C) hl ?_
        rw [List.reverse_append]
        refine p_fr [1] rfl ?_
        exact Post.go' (m' := MS.go ⟨c154b, [], [], _⟩) rfl (dn_tail (w := none) (C := g :: (D'.reverse ++ ⟨false, b, e, cc, .node xl x xd xc xr⟩ :: C)) two'.1 two'.2 io H)
end
end
section
structure Wi where
  a : Addr
  d : D
  c : Bool
  lim : Int
  l : Option Addr
  r : T
  p : Option Addr
noncomputable def Wi.at (w : Wi) : At := .cell w.a ⟨0, 0, w.d, w.c, w.lim, w.l, w.r.root, w.p⟩
noncomputable def St : List Wi → List At → List At
  | [], V => V
  | w :: ws, V => w.at :: .tree (some w.a) 0 w.r :: St ws V
noncomputable def wio (ws : List Wi) : Cnt := ws.flatMap fun w => (w.a, w.d) :: w.r.io
noncomputable def Seen (V : List At) (x : Addr × D) : Prop := ∃ rc : Rc, .cell x.1 rc ∈ V ∧ rc.K = 0 ∧ rc.d = x.2
theorem Seen.more {V : List At} {x : Addr × D} {y : At} (h : Seen V x) : Seen (y :: V) x := let ⟨rc, h1, h2⟩ := h; ⟨rc, List.mem_cons_of_mem _ h1, h2⟩
section
variable {F : Fc} {X : Xc} {n : Int} {R V : List At} {t : T} {P : Sto → Prop} {c : Cst} {k : Nat} {Q : AV → Sto → Prop}
noncomputable def En (F : Fc) (X : Xc) (A B : List At) : Prop := ∀ P, Post F X B P → Post F X A P
theorem En.in {a : Addr} {d : D} {cc : Bool} {l r : T} {p : Option Addr} {A B : List At} (h : En F X (.tree p 0 (.node l a d cc r) :: A) B) :
    En F X (.tree (some a) 0 l :: .cell a ⟨0, 0, d, cc, gE d l.mx r.mx, l.root, r.root, p⟩ :: .tree (some a) 0 r :: A) B := fun P H => p_fr [1, 0, 0] rfl (p_fold0 rfl rfl rfl (h P H))
theorem St_perm : ∀ (ws : List Wi) (x : At) (V : List At), (St ws (x :: V)).Perm (x :: St ws V)
  | [], _, _ => .refl _
  | w :: ws, x, V => (((St_perm ws x V).cons _).cons _).trans (((List.Perm.swap x _ _).cons _).trans (.swap x _ _))
theorem En.perm {A A' B : List At} (h : En F X A B) (e : A'.Perm A) : En F X A' B := fun P H S s => h P H S (s.perm e)
theorem p_perm {A A' : List At} (e : A'.Perm A) (H : Post F X A P) : Post F X A' P := fun S s => H S (s.perm e)
theorem St_perm2 (ws : List Wi) (x y z : At) (V : List At) : (y :: x :: z :: St ws V).Perm (z :: St ws (x :: y :: V)) :=
  (List.Perm.swap x y _).trans ((List.Perm.cons x (.swap z y _)).trans ((List.Perm.swap z x _).trans (List.Perm.cons z (((St_perm ws x (y :: V)).trans ((St_perm ws y V).cons x)).symm))))
end
section
variable {F : Fc} {X : Xc} {n : Int} {R V : List At} {t : T} {P : Sto → Prop} {c : Cst} {k : Nat} {Q : AV → Sto → Prop}
structure AS (F : Fc) (R : List At) (X : Xc) (t0 t : T) (p : Option Addr) (ws : List Wi) (V : List At) (fs : Cnt) : Prop where
  hE : En F X (.tree p 0 t :: St ws (V ++ R)) (.tree none 0 t0 :: R)
  hio : fs ++ (t.io ++ wio ws) = t0.io
  hV : ∀ x ∈ fs, Seen V x
inductive AO (F : Fc) (R : List At) (X : Xc) (t0 : T) (fd wt : Addr) : Nat → Vs → Xc → List At → Prop
  | mk (t : T) (p : Option Addr) (ws : List Wi) (V : List At) (fs : Cnt) (h : AS F R X t0 t p ws V fs) :
    AO F R X t0 fd wt (t.io ++ wio ws).length (.s (some (.ref F.tr)) (.s (some (.ref fd)) (.s (some (.ref wt)) (.s (some (.opt t.root)) .nil)))) X (.ls fd (refs (fs.map Prod.fst)) :: .ls wt (refs (ws.map Wi.a).reverse) :: .tree p 0 t :: St ws (V ++ R))
inductive AI (F : Fc) (R : List At) (X : Xc) (t0 : T) (fd wt : Addr) (fs : Cnt) (V : List At) : Nat → Vs → Xc → List At → Prop
  | mk (t : T) (p : Option Addr) (ws : List Wi) (h : AS F R X t0 t p ws V fs) (hn : t ≠ .nil ∨ ws ≠ []) :
    AI F R X t0 fd wt fs V t.ad.length (.s (some (.ref F.tr)) (.s (some (.ref fd)) (.s (some (.ref wt)) (.s (some (.opt t.root)) .nil)))) X (.ls fd (refs (fs.map Prod.fst)) :: .ls wt (refs (ws.map Wi.a).reverse) :: .tree p 0 t :: St ws (V ++ R))
theorem len_io : ∀ t : T, t.ad.length = t.io.length := fun t => (ad_perm_io t).length_eq.trans (List.length_map ..)
theorem wio_len : ∀ ws : List Wi, ws.length ≤ (wio ws).length
  | [] => Nat.le_refl _
  | w :: ws => by
    have := wio_len ws
    show ws.length + 1 ≤ (((w.a, w.d) :: w.r.io) ++ wio ws).length
    rw [List.length_append, List.length_cons]; omega
theorem refs_rev (w : Wi) (ws : List Wi) : refs ((w :: ws).map Wi.a).reverse = refs (ws.map Wi.a).reverse ++ [.ref w.a] := by simp
theorem refs_add (fs : Cnt) (x : Addr × D) : refs ((fs ++ [x]).map Prod.fst) = refs (fs.map Prod.fst) ++ [.ref x.1] := by simp
theorem all_nodes_ok {t0 : T} {M : Option (Option Int)} {K : Int} (hz : t0.io.length < 400)
    (H : ∀ V fd, (∀ x ∈ t0.io, Seen V x) → En F ⟨t0.root, M, 0, n, []⟩ (V ++ R) (.tree none 0 t0 :: R) → Post F ⟨t0.root, M, 0, n, []⟩ (.ls fd (refs (t0.io.map Prod.fst)) :: (V ++ R)) (Q (.ref fd))) :
    Post F ⟨t0.root, M, K, n, []⟩ (.tree none K t0 :: R) (CW c (k + 2) (.ref 189) [.ref F.tr] Q) := by
  refine p_K0 fun e => ?_
  cases e
  refine Post.fn f189 rfl (p_mkl rfl rfl fun fd => p_mkl rfl rfl fun wt => p_fr [1] rfl ?_)
  walk_at "q"
  refine p_whl (AO F R ⟨t0.root, M, 0, n, []⟩ t0 fd wt) _ rfl (.mk t0 none [] [] [] ⟨fun _ h => h, List.append_nil _, fun _ h => absurd h List.not_mem_nil⟩) ?_
  rintro _ _ _ _ ⟨t, p, ws, V, fs, h⟩ J hJ
  have hl := congrArg List.length h.hio
  rw [List.length_append, List.length_append] at hl
  have hw := wio_len ws
  have body : (t ≠ .nil ∨ ws ≠ []) → Post F ⟨t0.root, M, 0, n, []⟩ (.ls fd (refs (fs.map Prod.fst)) :: .ls wt (refs (ws.map Wi.a).reverse) :: .tree p 0 t :: St ws (V ++ R))
      (Run c (k + 1) (MS.go ⟨c189b, .lp J :: [], [], .s (some (.ref F.tr)) (.s (some (.ref fd)) (.s (some (.ref wt)) (.s (some (.opt t.root)) .nil)))⟩) Q) := fun hn => by
    refine p_whl (AI F R ⟨t0.root, M, 0, n, []⟩ t0 fd wt fs V) _ rfl (.mk t p ws h hn) ?_
    clear h hn hw
    rintro _ _ _ _ ⟨t1, p1, ws1, h, hn⟩ J' hJ'
    have hl' := congrArg List.length h.hio
    rw [List.length_append, List.length_append] at hl'
    have hw := wio_len ws1
    cases t1 with
    | nil =>
      cases ws1 with
      | nil => exact absurd rfl (hn.resolve_left fun e => e rfl)
      | cons w ws1 =>
        obtain ⟨a, d, cc, lim, l, r, q⟩ := w
        rw [refs_rev]
        walk_at "qq"
        refine p_chk _ rfl at1 rfl (p_lpop _ rfl at1 rfl ?_)
        walk_at "qq"
        refine p_chk _ rfl at0 rfl (p_app _ rfl at0 rfl ?_ (p_rd 3 rfl rfl rfl ?_))
        · rw [List.length_map, List.length_map]; omega
        rw [← refs_add fs (a, d)]
        refine p_lp rfl (p_perm (((St_perm2 ws1 (Wi.at ⟨a, d, cc, lim, l, r, q⟩) _ _ (V ++ R)).cons _).cons _) ?_)
        refine hJ _ _ _ _ ?_ (.mk r (some a) ws1 (Wi.at ⟨a, d, cc, lim, l, r, q⟩ :: .tree p1 0 .nil :: V) (fs ++ [(a, d)]) ⟨h.hE.perm (St_perm2 ..).symm, ?_, fun x hx => ?_⟩)
        · rw [List.length_append, List.length_append]
          have e : (wio (⟨a, d, cc, lim, l, r, q⟩ :: ws1)).length = r.io.length + 1 + (wio ws1).length := by
            show (((a, d) :: r.io) ++ wio ws1).length = _
            rw [List.length_append, List.length_cons]
          have : T.nil.io.length = 0 := rfl
          omega
        · rw [← h.hio, List.append_assoc]; rfl
        · rcases List.mem_append.mp hx with hx | hx
          · exact (h.hV x hx).more.more
          · cases List.mem_singleton.mp hx
            exact ⟨_, List.mem_cons_self, rfl, rfl⟩
    | node l a d cc r =>
      walk_at "qq"
      refine p_fr [2] rfl (hand_down_ok ?_)
      walk_at "qq"
      refine p_chk _ rfl at4 rfl (p_app _ rfl at4 rfl ?_ ?_)
      · rw [List.length_map, List.length_reverse, List.length_map]; omega
      walk_at "qq"
      have e := refs_rev ⟨a, d, cc, gE d l.mx r.mx, l.root, r, p1⟩ ws1
      refine p_fr [3, 3, 1] rfl (p_lp rfl ?_)
      rw [show refs (ws1.map Wi.a).reverse ++ [AV.opt (T.node l a d cc r).root] = _ from e.symm]
      refine hJ' _ _ _ _ (ltL l a d cc r) (.mk l (some a) (⟨a, d, cc, gE d l.mx r.mx, l.root, r, p1⟩ :: ws1) ⟨h.hE.in, ?_, h.hV⟩ (.inr nofun))
      rw [← h.hio]
      show fs ++ (l.io ++ (((a, d) :: r.io) ++ wio ws1)) = fs ++ ((l.io ++ (a, d) :: r.io) ++ wio ws1)
      rw [List.append_assoc]
  cases t with
  | node l a d cc r =>
    walk_at "qq"
    exact Post.go' rfl (body (.inl nofun))
  | nil =>
    walk_at "qq"
    refine Post.len _ at1 ?_
    cases ws with
    | nil =>
      walk_at "qq"
      refine p_fr [1] rfl (p_drop ?_)
      have e : fs = t0.io := (List.append_nil fs).symm.trans h.hio
      subst e
      exact H (.tree p 0 .nil :: V) fd (fun x hx => (h.hV x hx).more) h.hE
    | cons w ws =>
      refine p_cmp (t := true) rfl (fun _ => congrArg some (decide_eq_true ?_)) ?_
      · rw [refs_rev, List.length_append]; exact Int.ofNat_lt.mpr (Nat.succ_pos _)
      · exact Post.go' rfl (body (.inr nofun))
end
end
section
theorem omax_le {x y : Int} {a : Option Int} (h : x ≤ y) : x ≤ omax y a := by
  cases a with
  | none => exact h
  | some z => exact Int.le_trans h (Int.le_max_left ..)
theorem le_omax (y : Int) {x m : Int} {a : Option Int} (e : a = some m) (h : x ≤ m) : x ≤ omax y a := by
  subst e; exact Int.le_trans h (Int.le_max_right ..)
theorem le_mx : ∀ {t : T} {x : Addr × D}, x ∈ t.io → ∃ m, t.mx = some m ∧ x.2.e ≤ m
  | .nil, x, h => by cases h
  | .node l a d c r, x, h => by
    refine ⟨_, rfl, ?_⟩
    rcases List.mem_append.mp h with h | h
    · obtain ⟨m, e1, e2⟩ := le_mx h; exact omax_le (le_omax _ e1 e2)
    · rcases List.mem_cons.mp h with rfl | h
      · exact omax_le (omax_le (Int.le_refl _))
      · obtain ⟨m, e1, e2⟩ := le_mx h; exact le_omax _ e1 e2
noncomputable def touch (lo hi : Int) (p : Addr × D) : Bool := decide (p.2.b ≤ hi) && decide (lo ≤ p.2.e)
theorem filt_low {lo hi : Int} {t : T} (h : ∀ m, t.mx = some m → m < lo) : t.io.filter (touch lo hi) = [] := by
  refine List.filter_eq_nil_iff.mpr fun x hx => ?_
  obtain ⟨m, e1, e2⟩ := le_mx hx
  have := h m e1
  unfold touch
  rw [decide_eq_false (Int.not_le.mpr (Int.lt_of_le_of_lt e2 this)), Bool.and_false]; exact Bool.false_ne_true
theorem filt_high {lo hi b : Int} {L : Cnt} (h : ∀ x ∈ L, b ≤ x.2.b) (hb : ¬ b ≤ hi) : L.filter (touch lo hi) = [] := by
  refine List.filter_eq_nil_iff.mpr fun x hx => ?_
  unfold touch
  rw [decide_eq_false (fun k => hb (Int.le_trans (h x hx) k)), Bool.false_and]; exact Bool.false_ne_true
theorem io_pos {t : T} (h : t ≠ .nil) : 0 < t.io.length := by
  cases t with
  | nil => exact absurd rfl h
  | node l a d c r => show 0 < (l.io ++ (a, d) :: r.io).length; rw [List.length_append]; exact Nat.lt_of_lt_of_le (Nat.succ_pos _) (Nat.le_add_left ..)
section
variable {F : Fc} {X : Xc} {n : Int} {R V : List At} {t : T} {P : Sto → Prop} {c : Cst} {k : Nat} {Q : AV → Sto → Prop}
theorem En.drop {x : At} {A B : List At} (h : En F X A B) : En F X (x :: A) B := fun P H => p_drop (h P H)
structure BS (F : Fc) (R : List At) (X : Xc) (t0 : T) (lo hi : Int) (t : T) (p : Option Addr) (ws : List Wi) (V : List At) (fs : Cnt) : Prop where
  hE : En F X (.tree p 0 t :: St ws (V ++ R)) (.tree none 0 t0 :: R)
  hio : fs ++ (t.io ++ wio ws).filter (touch lo hi) = t0.io.filter (touch lo hi)
  hV : ∀ x ∈ fs, Seen V x
  hS : Srt (t.io ++ wio ws)
  hl : (t.io ++ wio ws).length ≤ t0.io.length
inductive BO (F : Fc) (R : List At) (X : Xc) (t0 : T) (lo hi : Int) (fd wt : Addr) : Nat → Vs → Xc → List At → Prop
  | mk (t : T) (p : Option Addr) (ws : List Wi) (V : List At) (fs : Cnt) (h : BS F R X t0 lo hi t p ws V fs) :
    BO F R X t0 lo hi fd wt (t.io ++ wio ws).length (.s (some (.ref F.tr)) (.s (some (.int lo)) (.s (some (.int hi)) (.s (some (.ref fd)) (.s (some (.ref wt)) (.s (some (.opt t.root)) .nil)))))) X (.ls fd (refs (fs.map Prod.fst)) :: .ls wt (refs (ws.map Wi.a).reverse) :: .tree p 0 t :: St ws (V ++ R))
inductive BI (F : Fc) (R : List At) (X : Xc) (t0 : T) (lo hi : Int) (fd wt : Addr) (fs : Cnt) (N : Nat) : Nat → Vs → Xc → List At → Prop
  | mk (t : T) (p : Option Addr) (ws : List Wi) (V : List At) (h : BS F R X t0 lo hi t p ws V fs) (hn : (t.io ++ wio ws).length ≤ N) :
    BI F R X t0 lo hi fd wt fs N t.ad.length (.s (some (.ref F.tr)) (.s (some (.int lo)) (.s (some (.int hi)) (.s (some (.ref fd)) (.s (some (.ref wt)) (.s (some (.opt t.root)) .nil)))))) X (.ls fd (refs (fs.map Prod.fst)) :: .ls wt (refs (ws.map Wi.a).reverse) :: .tree p 0 t :: St ws (V ++ R))
theorem nodes_between_ok {t0 : T} {M : Option (Option Int)} {K lo hi : Int} (hz : t0.io.length < 400) (hs : Srt t0.io)
    (H : ∀ V fd, (∀ x ∈ t0.io.filter (touch lo hi), Seen V x) → En F ⟨t0.root, M, 0, n, []⟩ (V ++ R) (.tree none 0 t0 :: R) → Post F ⟨t0.root, M, 0, n, []⟩ (.ls fd (refs ((t0.io.filter (touch lo hi)).map Prod.fst)) :: (V ++ R)) (Q (.ref fd))) :
    Post F ⟨t0.root, M, K, n, []⟩ (.tree none K t0 :: R) (CW c (k + 2) (.ref 196) [.ref F.tr, .int lo, .int hi] Q) := by
  refine p_K0 fun e => ?_
  cases e
  refine Post.fn f196 rfl (p_mkl rfl rfl fun fd => p_mkl rfl rfl fun wt => p_fr [1] rfl ?_)
  walk_at "q"
  refine p_whl (BO F R ⟨t0.root, M, 0, n, []⟩ t0 lo hi fd wt) _ rfl (.mk t0 none [] [] [] ⟨fun _ h => h, by rw [wio, List.flatMap_nil, List.append_nil]; rfl, fun _ h => absurd h List.not_mem_nil, by rw [wio, List.flatMap_nil, List.append_nil]; exact hs, by rw [wio, List.flatMap_nil, List.append_nil]; exact Nat.le_refl _⟩) ?_
  rintro _ _ _ _ ⟨t, p, ws, V, fs, h⟩ J hJ
  have body : 0 < (t.io ++ wio ws).length → Post F ⟨t0.root, M, 0, n, []⟩ (.ls fd (refs (fs.map Prod.fst)) :: .ls wt (refs (ws.map Wi.a).reverse) :: .tree p 0 t :: St ws (V ++ R))
      (Run c (k + 1) (MS.go ⟨c196b, .lp J :: [], [], .s (some (.ref F.tr)) (.s (some (.int lo)) (.s (some (.int hi)) (.s (some (.ref fd)) (.s (some (.ref wt)) (.s (some (.opt t.root)) .nil)))))⟩) Q) := fun hN => by
    refine p_whl (BI F R ⟨t0.root, M, 0, n, []⟩ t0 lo hi fd wt fs _) _ rfl (.mk t p ws V h (Nat.le_refl _)) ?_
    clear h
    rintro _ _ _ _ ⟨t1, p1, ws1, V1, h, hn⟩ J' hJ'
    have hw := wio_len ws1
    have hl := h.hl
    have hf : fs.length ≤ t0.io.length := by
      have := congrArg List.length h.hio
      rw [List.length_append] at this
      have := List.length_filter_le (touch lo hi) t0.io
      omega
    rw [List.length_append] at hl
    cases t1 with
    | nil =>
      cases ws1 with
      | nil =>
        walk_at "qq"
        refine Post.len _ at1 ?_
        walk_at "qq"
        exact p_lp rfl (hJ _ _ _ _ hN (.mk .nil p1 [] V1 fs h))
      | cons w ws1 =>
        obtain ⟨a, d, cc, lim, l, r, q⟩ := w
        have hS : Srt ((a, d) :: (r.io ++ wio ws1)) := h.hS
        have hS1 : ∀ x ∈ r.io, d.b ≤ x.2.b := fun x hx => List.rel_of_pairwise_cons hS (List.mem_append_left _ hx)
        have hS2 : Srt (r.io ++ wio ws1) := (List.pairwise_cons.mp hS).2
        have hn' : (r.io ++ wio ws1).length < (t.io ++ wio ws).length := hn
        have hl' : (r.io ++ wio ws1).length ≤ t0.io.length := Nat.le_of_succ_le h.hl
        have hio : fs ++ ((a, d) :: (r.io ++ wio ws1)).filter (touch lo hi) = _ := h.hio
        have hE := h.hE.perm (St_perm2 ws1 (Wi.at ⟨a, d, cc, lim, l, r, q⟩) (.tree p1 0 .nil) (.tree (some a) 0 r) (V1 ++ R)).symm
        rw [refs_rev]
        walk_at "qq"
        refine Post.len _ at1 (p_cmp (t := true) rfl (fun _ => congrArg some (decide_eq_true ?_)) ?_)
        · rw [List.length_append]; exact Int.ofNat_lt.mpr (Nat.succ_pos _)
        refine p_chk _ rfl at1 rfl (p_lpop _ rfl at1 rfl (p_rd 3 rfl rfl rfl ?_))
        refine p_cmpB rfl (fun _ => rfl) (fun b1 => ?_) (fun b1 => ?_)
        · have b1' : d.b ≤ hi := by rw [Int.sub_zero] at b1; exact b1
          refine p_rd 3 rfl rfl rfl (p_cmpB rfl (fun _ => rfl) (fun b2 => ?_) (fun b2 => ?_))
          · have tc : touch lo hi (a, d) = true := by
              rw [Int.sub_zero] at b2
              unfold touch; rw [decide_eq_true b1', decide_eq_true b2]; rfl
            refine p_chk _ rfl at0 rfl (p_app _ rfl at0 rfl ?_ (p_rd 3 rfl rfl rfl (p_cmp (t := true) rfl (fun _ => congrArg some (decide_eq_true b1)) (p_rd 3 rfl rfl rfl ?_))))
            · rw [List.length_map, List.length_map]; omega
            rw [← refs_add fs (a, d)]
            refine p_lp rfl (p_perm (((St_perm2 ws1 (Wi.at ⟨a, d, cc, lim, l, r, q⟩) _ _ (V1 ++ R)).cons _).cons _) ?_)
            refine hJ _ _ _ _ hn' (.mk r (some a) ws1 (Wi.at ⟨a, d, cc, lim, l, r, q⟩ :: .tree p1 0 .nil :: V1) (fs ++ [(a, d)]) ⟨hE, ?_, fun x hx => ?_, hS2, hl'⟩)
            · rw [← hio, List.filter_cons_of_pos tc, List.append_assoc]; rfl
            · rcases List.mem_append.mp hx with hx | hx
              · exact (h.hV x hx).more.more
              · cases List.mem_singleton.mp hx
                exact ⟨_, List.mem_cons_self, rfl, rfl⟩
          · have tc : ¬ touch lo hi (a, d) = true := by
              rw [Int.sub_zero] at b2
              unfold touch; rw [decide_eq_false b2, Bool.and_false]; exact Bool.false_ne_true
            refine p_rd 3 rfl rfl rfl (p_cmp (t := true) rfl (fun _ => congrArg some (decide_eq_true b1)) (p_rd 3 rfl rfl rfl ?_))
            refine p_lp rfl (p_perm (((St_perm2 ws1 (Wi.at ⟨a, d, cc, lim, l, r, q⟩) _ _ (V1 ++ R)).cons _).cons _) ?_)
            refine hJ _ _ _ _ hn' (.mk r (some a) ws1 (Wi.at ⟨a, d, cc, lim, l, r, q⟩ :: .tree p1 0 .nil :: V1) fs ⟨hE, ?_, fun x hx => (h.hV x hx).more.more, hS2, hl'⟩)
            rw [← hio, List.filter_cons_of_neg tc]
        · have b1' : ¬ d.b ≤ hi := by rw [Int.sub_zero] at b1; exact b1
          have tc : ¬ touch lo hi (a, d) = true := by
            unfold touch; rw [decide_eq_false b1', Bool.false_and]; exact Bool.false_ne_true
          refine p_rd 3 rfl rfl rfl (p_cmp (t := false) rfl (fun _ => congrArg some (decide_eq_false b1)) ?_)
          have e : (St ws1 (Wi.at ⟨a, d, cc, lim, l, r, q⟩ :: .tree (some a) 0 r :: (V1 ++ R))).Perm (Wi.at ⟨a, d, cc, lim, l, r, q⟩ :: .tree (some a) 0 r :: St ws1 (V1 ++ R)) := (St_perm ..).trans ((St_perm ..).cons _)
          refine p_lp rfl (p_perm (((e.symm.cons _).cons _).cons _) ?_)
          refine hJ _ _ _ _ (Nat.lt_of_le_of_lt ?_ hn') (.mk .nil p1 ws1 (Wi.at ⟨a, d, cc, lim, l, r, q⟩ :: .tree (some a) 0 r :: V1) fs ⟨h.hE.perm (e.cons _), ?_, fun x hx => (h.hV x hx).more.more, (List.pairwise_append.mp hS2).2.1, Nat.le_trans ?_ hl'⟩)
          · rw [List.length_append, List.length_append]; exact Nat.add_le_add_right (Nat.zero_le _) _
          · rw [← hio, List.filter_cons_of_neg tc, List.filter_append, List.filter_append, filt_high hS1 b1']; rfl
          · rw [List.length_append, List.length_append]; exact Nat.add_le_add_right (Nat.zero_le _) _
    | node l a d cc r =>
      walk_at "qq"
      refine p_fr [2] rfl (hand_down_ok ?_)
      walk_at "qq"
      refine p_cmpB rfl (fun _ => rfl) (fun b1 => ?_) (fun b1 => ?_)
      · have low : ∀ m, (T.node l a d cc r).mx = some m → m < lo := fun m e => by
          cases e; rw [Int.sub_zero] at b1; exact b1
        refine p_lp rfl (p_fold0 rfl rfl rfl (p_nil (p := none) (K := 0) (p_fr [2, 2] rfl (p_perm ((((St_perm ..).symm.cons _).cons _).cons _) ?_))))
        refine hJ' _ _ _ _ (Nat.succ_pos _) (.mk .nil none ws1 (.tree p1 0 (.node l a d cc r) :: V1) ⟨(h.hE.perm (St_perm ..)).drop, ?_, fun x hx => (h.hV x hx).more, (List.pairwise_append.mp h.hS).2.1, Nat.le_trans ?_ h.hl⟩ (Nat.le_trans ?_ hn))
        · rw [← h.hio, List.filter_append, List.filter_append, filt_low low]; rfl
        · rw [List.length_append, List.length_append]; exact Nat.add_le_add_right (Nat.zero_le _) _
        · rw [List.length_append, List.length_append]; exact Nat.add_le_add_right (Nat.zero_le _) _
      · refine p_chk _ rfl at4 rfl (p_app _ rfl at4 rfl ?_ ?_)
        · rw [List.length_map, List.length_reverse, List.length_map]; omega
        walk_at "qq"
        have e := refs_rev ⟨a, d, cc, gE d l.mx r.mx, l.root, r, p1⟩ ws1
        refine p_fr [3, 3, 1] rfl (p_lp rfl ?_)
        rw [show refs (ws1.map Wi.a).reverse ++ [AV.opt (T.node l a d cc r).root] = _ from e.symm]
        have e2 : l.io ++ wio (⟨a, d, cc, gE d l.mx r.mx, l.root, r, p1⟩ :: ws1) = (T.node l a d cc r).io ++ wio ws1 := (List.append_assoc l.io ((a, d) :: r.io) (wio ws1)).symm
        exact hJ' _ _ _ _ (ltL l a d cc r) (.mk l (some a) (⟨a, d, cc, gE d l.mx r.mx, l.root, r, p1⟩ :: ws1) V1 ⟨h.hE.in, e2 ▸ h.hio, h.hV, e2 ▸ h.hS, e2 ▸ h.hl⟩ (e2 ▸ hn))
  cases t with
  | node l a d cc r =>
    walk_at "qq"
    exact Post.go' rfl (body (by rw [List.length_append]; exact Nat.lt_of_lt_of_le (io_pos (t := .node l a d cc r) nofun) (Nat.le_add_right ..)))
  | nil =>
    walk_at "qq"
    refine Post.len _ at1 ?_
    cases ws with
    | nil =>
      walk_at "qq"
      refine p_fr [1] rfl (p_drop ?_)
      have e : fs = t0.io.filter (touch lo hi) := (List.append_nil fs).symm.trans h.hio
      subst e
      exact H (.tree p 0 .nil :: V) fd (fun x hx => (h.hV x hx).more) h.hE
    | cons w ws =>
      refine p_cmp (t := true) rfl (fun _ => congrArg some (decide_eq_true ?_)) ?_
      · rw [refs_rev, List.length_append]; exact Int.ofNat_lt.mpr (Nat.succ_pos _)
      · exact Post.go' rfl (body (Nat.succ_pos _))
end
end
section
noncomputable def T.map (g : D → D) : T → T
  | .nil => .nil
  | .node l a d c r => .node (l.map g) a (g d) c (r.map g)
theorem map_root (g : D → D) (t : T) : (t.map g).root = t.root := by cases t <;> rfl
theorem map_isRed (g : D → D) (t : T) : (t.map g).isRed = t.isRed := by cases t <;> rfl
theorem map_ad (g : D → D) : ∀ t : T, (t.map g).ad = t.ad
  | .nil => rfl
  | .node l a d c r => by simp only [T.map, T.ad, map_ad g l, map_ad g r]
theorem map_io (g : D → D) : ∀ t : T, (t.map g).io = t.io.map fun x => (x.1, g x.2)
  | .nil => rfl
  | .node l a d c r => by simp only [T.map, T.io, map_io g l, map_io g r, List.map_append, List.map_cons]
theorem map_rb (g : D → D) : ∀ {t : T} {n : Nat}, t.rb n → (t.map g).rb n
  | .nil, _, h => h
  | .node l a d true r, n, ⟨h1, h2, h3, h4⟩ => ⟨(map_isRed g l).trans h1, (map_isRed g r).trans h2, map_rb g h3, map_rb g h4⟩
  | .node l a d false r, n, ⟨m, h1, h3, h4⟩ => ⟨m, h1, map_rb g h3, map_rb g h4⟩
theorem map_same {g : D → D} : ∀ {t : T}, (∀ x ∈ t.io, g x.2 = x.2) → t.map g = t
  | .nil, _ => rfl
  | .node l a d c r, h => by
    simp only [T.io, List.mem_append, List.mem_cons] at h
    rw [T.map, map_same fun x hx => h x (.inl hx), map_same fun x hx => h x (.inr (.inr hx)), h (a, d) (.inr (.inl rfl))]
theorem map_congr {g g' : D → D} : ∀ {t : T}, (∀ x ∈ t.io, g x.2 = g' x.2) → t.map g = t.map g'
  | .nil, _ => rfl
  | .node l a d c r, h => by
    simp only [T.io, List.mem_append, List.mem_cons] at h
    rw [T.map, T.map, map_congr fun x hx => h x (.inl hx), map_congr fun x hx => h x (.inr (.inr hx)), h (a, d) (.inr (.inl rfl))]
noncomputable def D.by (k : Int) (d : D) : D := { d with b := d.b + k, e := d.e + k }
theorem omax_by (x k : Int) (m : Option Int) : omax (x + k) (m.map (· + k)) = omax x m + k := by
  cases m with
  | none => rfl
  | some y => show max (x + k) (y + k) = max x y + k; exact mxA x y k
theorem gE_by (d : D) (k : Int) (l r : Option Int) : gE (d.by k) (l.map (· + k)) (r.map (· + k)) = gE d l r + k := by
  unfold gE
  rw [show (d.by k).e = d.e + k from rfl, omax_by, omax_by]
theorem mx_by (k : Int) : ∀ t : T, (t.map (D.by k)).mx = t.mx.map (· + k)
  | .nil => rfl
  | .node l a d c r => by
    show some _ = some _
    rw [mx_by k l, mx_by k r, gE_by]
section
variable {F : Fc} {X : Xc} {n : Int} {R V W : List At} {t : T} {P : Sto → Prop} {c : Cst} {k : Nat} {Q : AV → Sto → Prop}
theorem mK0 (x y K : Int) : max (x - K) (y - K + 0) = max x y - K := by rw [Int.add_zero]; exact mxA x y (-K)
theorem ge_ct {a x : Addr} {d d1 : D} {cc c1 : Bool} {lim m1 : Int} {s : T} {p p1 q l1 r1 h : Option Addr} {C : Cx} {M : Option (Option Int)}
    (H : Post F X (.pt C h M :: .cell a ⟨0, 0, d, cc, lim, some x, s.root, p⟩ :: .cell x ⟨0, 0, d1, c1, m1, l1, r1, p1⟩ :: .tree q 0 s :: W) (Q (.int (gE d (some m1) s.mx - 0)))) :
    Post F X (.pt C h M :: .cell a ⟨0, 0, d, cc, lim, some x, s.root, p⟩ :: .cell x ⟨0, 0, d1, c1, m1, l1, r1, p1⟩ :: .tree q 0 s :: W) (CW c (k + 1) (.ref 77) [.ref a] Q) := by
  refine Post.fn f77 rfl ?_
  cases s with
  | nil =>
    walk_at "qq"
    refine Post.max ?_
    walk_at "qq"
    exact Post.int (mK0 ..) H
  | node sl sa sd sc sr =>
    refine p_unf 3 rfl (fun _ => rfl) fun o => ?_
    walk_at "qq"
    refine Post.max ?_
    walk_at "qq"
    refine Post.max ?_
    walk_at "qq"
    exact Post.int ((congrArg (max · _) (mK0 ..)).trans (mK ..)) (p_fr [3, 3, 3] rfl (p_fold rfl (p_fr [1, 1, 1] rfl H)))
theorem ge_tc {a x : Addr} {d d1 : D} {cc c1 : Bool} {lim m1 : Int} {s : T} {p p1 q l1 r1 h : Option Addr} {C : Cx} {M : Option (Option Int)}
    (H : Post F X (.pt C h M :: .cell a ⟨0, 0, d, cc, lim, s.root, some x, p⟩ :: .cell x ⟨0, 0, d1, c1, m1, l1, r1, p1⟩ :: .tree q 0 s :: W) (Q (.int (gE d s.mx (some m1) - 0)))) :
    Post F X (.pt C h M :: .cell a ⟨0, 0, d, cc, lim, s.root, some x, p⟩ :: .cell x ⟨0, 0, d1, c1, m1, l1, r1, p1⟩ :: .tree q 0 s :: W) (CW c (k + 1) (.ref 77) [.ref a] Q) := by
  refine Post.fn f77 rfl ?_
  cases s with
  | nil =>
    walk_at "qq"
    refine Post.max ?_
    walk_at "qq"
    exact Post.int (mK0 ..) H
  | node sl sa sd sc sr =>
    refine p_unf 3 rfl (fun _ => rfl) fun o => ?_
    walk_at "qq"
    refine Post.max ?_
    walk_at "qq"
    refine Post.max ?_
    walk_at "qq"
    exact Post.int ((congrArg (max · _) (mK ..)).trans (mK0 ..)) (p_fr [3, 3, 3] rfl (p_fold rfl (p_fr [1, 1, 1] rfl H)))
noncomputable def Ge (F : Fc) (X : Xc) (L : List At) (a : Addr) (g : Int) : Prop := ∀ {c : Cst} {k : Nat} {Q : AV → Sto → Prop}, Post F X L (Q (.int (g - 0))) → Post F X L (CW c (k + 1) (.ref 77) [.ref a] Q)
inductive RL (F : Fc) (X : Xc) (G : List At) : Nat → Vs → Xc → List At → Prop
  | up (C : Cx) (a : Addr) (d : D) (cc : Bool) (lim g : Int) (ll rr : Option Addr) (W : List At) (v : Option AV) (h1 : Ge F X (.pt C (some a) (some (some lim)) :: .cell a ⟨0, 0, d, cc, lim, ll, rr, par C⟩ :: W) a g)
    (h2 : En F X (.pt C (some a) (some (some g)) :: .cell a ⟨0, 0, d, cc, g, ll, rr, par C⟩ :: W) G) : RL F X G (C.length + 1) (.s (some (.ref a)) (.s v .nil)) X (.pt C (some a) (some (some lim)) :: .cell a ⟨0, 0, d, cc, lim, ll, rr, par C⟩ :: W)
  | fin (v : Option AV) (L : List At) (h2 : En F X L G) : RL F X G 0 (.s (some .none) (.s v .nil)) X L
theorem renew_ok {C : Cx} {a : Addr} {d : D} {cc : Bool} {lim : Int} {l r : T} (H : Post F X (.pt C (some a) (some (some (gE d l.mx r.mx))) :: .cell a ⟨0, 0, d, cc, gE d l.mx r.mx, l.root, r.root, par C⟩ :: .tree (some a) 0 l :: .tree (some a) 0 r :: R) (Q .none)) :
    Post F X (.pt C (some a) (some (some lim)) :: .cell a ⟨0, 0, d, cc, lim, l.root, r.root, par C⟩ :: .tree (some a) 0 l :: .tree (some a) 0 r :: R) (CW c (k + 2) (.ref 84) [.ref a] Q) := by
  refine Post.fn f84 rfl ?_
  refine p_whl (RL F X (.pt C (some a) (some (some (gE d l.mx r.mx))) :: .cell a ⟨0, 0, d, cc, gE d l.mx r.mx, l.root, r.root, par C⟩ :: .tree (some a) 0 l :: .tree (some a) 0 r :: R)) _ rfl (.up C a d cc lim (gE d l.mx r.mx) _ _ _ _ (fun h => p_fr [1, 1, 1] rfl (greatest_end_ok (p_fr [3] rfl h))) (fun P h => h)) ?_
  rintro _ _ _ _ (⟨C, a, d, cc, lim, g, ll, rr, W, v, h1, h2⟩ | ⟨v, L, h2⟩) J hJ
  · walk_at "qq"
    refine h1 ?_
    walk_at "qq"
    refine p_cmpB rfl (fun _ => rfl) (fun e => ?_) (fun _ => ?_)
    · rw [Int.sub_zero, Int.sub_zero] at e
      subst e
      walk_at "qq"
      exact h2 _ H
    · walk_at "qq"
      cases C with
      | nil =>
        rw [Int.sub_add_cancel]
        exact p_lp rfl (hJ _ _ _ _ (Nat.succ_pos _) (.fin _ _ fun P h => p_drop (p_ptNil (h2 P h))))
      | cons f C =>
        rw [Int.sub_add_cancel]
        obtain ⟨left, fa, fd, fc, fs⟩ := f
        refine p_ptPop fun lim2 hl2 => p_fr [2, 0, 1] rfl (p_lp rfl ?_)
        cases hl2 _ rfl
        refine hJ _ _ _ _ (Nat.lt_succ_self _) (.up C fa fd fc _ (Fr.gE ⟨left, fa, fd, fc, fs⟩ (some g)) _ _ _ _ ?_ fun P h => p_fr [1, 2, 0] rfl (p_ptPush (f := ⟨left, fa, fd, fc, fs⟩) (h := some a) (M := some (some g)) (h2 P h) (some_all rfl) rfl rfl rfl rfl))
        cases left
        · exact fun h => ge_tc h
        · exact fun h => ge_ct h
  · walk_at "qq"
    exact h2 _ H
noncomputable def movesB (d : D) (at_ : Int) (bm : Bool) : Bool := decide (d.b = at_) && (bm || (d.fr && (!decide (d.b = d.e) || d.re)))
noncomputable def growsB (e : Int) (re : Bool) (at_ : Int) (bm : Bool) : Bool := decide (at_ < e) || (decide (e = at_) && (bm || re))
theorem grows_ok {a : Addr} {K o lim at_ : Int} {d : D} {cc bm : Bool} {l r p : Option Addr} (H : Post F X (.cell a ⟨K, o, d, cc, lim, l, r, p⟩ :: W) (Q (.bool (growsB (d.e - K) d.re at_ bm)))) :
    Post F X (.cell a ⟨K, o, d, cc, lim, l, r, p⟩ :: W) (CW c (k + 1) (.ref 210) [.ref a, .int at_, .bool bm] Q) := by
  refine Post.fn f210 rfl ?_
  unfold growsB at H
  walk_at "qq"
  refine p_cmpB rfl (fun _ => rfl) (fun h => ?_) (fun h => ?_)
  · rw [decide_eq_true h] at H
    walk_at "qq"
    exact H
  · rw [decide_eq_false h] at H
    walk_at "qq"
    refine p_cmpB rfl (fun _ => rfl) (fun h => ?_) (fun h => ?_)
    · rw [decide_eq_true h] at H
      cases bm <;> (walk_at "qq"; exact H)
    · rw [decide_eq_false h] at H
      walk_at "qq"
      exact H
end
end
section
section
variable {F : Fc} {X : Xc} {n : Int} {R V W : List At} {t : T} {P : Sto → Prop} {c : Cst} {k : Nat} {Q : AV → Sto → Prop}
inductive Pd (g : D → D) (Pw : T → Prop) : Cx → Cx → List (Option Addr) → Nat → Prop
  | nil : Pd g Pw [] [] [] 0
  | skip (f : Fr) (C C' : Cx) (ws : List (Option Addr)) (m : Nat) (h : Pd g Pw C C' ws m) : Pd g Pw (f :: C) (f :: C') ws m
  | pend (a : Addr) (d : D) (c : Bool) (s : T) (C C' : Cx) (ws : List (Option Addr)) (m : Nat) (h : Pd g Pw C C' ws m) (hs : Pw s) : Pd g Pw (⟨true, a, d, c, s⟩ :: C) (⟨true, a, d, c, s.map g⟩ :: C') (s.root :: ws) (m + (2 * s.ad.length + 1))
theorem adv {g : D → D} {Pw : T → Prop} {T1 : T} {C C' : Cx} {ws : List (Option Addr)} {m : Nat} (h : Pd g Pw C C' ws m) : ∀ {s : T}, plug C' s = T1 →
    (∀ C2 C2' t ws2 m2, ws = t.root :: ws2 → Pd g Pw C2 C2' ws2 m2 → Pw t → m = m2 + (2 * t.ad.length + 1) → plug C2' (t.map g) = T1 → Post F X (.pt C2 t.root (some t.mx) :: .tree (par C2) 0 t :: R) P) →
    (ws = [] → Post F X (.tree none 0 T1 :: R) P) → Post F X (.pt C s.root (some s.mx) :: .tree (par C) 0 s :: R) P := by
  induction h with
  | nil => exact fun e _ He => by cases e; exact p_drop (He rfl)
  | skip f C C' ws m h ih =>
    intro s e Hn He
    refine p_ptPop fun lim hl => p_fr [0, 0, 1] rfl (pop_fold (hl _ rfl) (p_fr [1] rfl ?_))
    have := ih e Hn He
    rw [fill_root, fill_mx] at this
    exact this
  | pend a d c s2 C C' ws m h hs ih =>
    intro s e Hn _
    refine p_ptPop fun lim hl => p_fr [0, 2, 1] rfl (p_ptPush (f := ⟨false, a, d, c, s⟩) (h := s2.root) (M := some s2.mx) ?_ (some_all (hl _ rfl)) rfl rfl rfl rfl)
    exact Hn (⟨false, a, d, c, s⟩ :: C) (⟨false, a, d, c, s⟩ :: C') s2 ws m rfl (.skip _ _ _ _ _ h) hs rfl e
theorem mkR_by (K o k : Int) (d : D) (c : Bool) (lim : Int) (x y p : Option Addr) : mkR (K + k) o (d.by k) c (lim + k) x y p = mkR K o d c lim x y p := by
  have e : ∀ z : Int, z + k - (K + k) = z - K := fun z => Int.add_sub_add_right z k K
  simp only [mkR, D.by, e]
theorem IsT.by {nd : Nd} {k : Int} : ∀ {t : T} {p : Option Addr} {K : Int}, IsT nd p K t → IsT nd p (K + k) (t.map (D.by k))
  | .nil, _, _, _ => trivial
  | .node l a d c r, p, K, ⟨o, h, h1, h2⟩ => by
    have e : K + k + o = K + o + k := Int.add_right_comm ..
    refine ⟨o, ?_, ?_, ?_⟩
    · rw [e, mx_by, mx_by, gE_by, map_root, map_root]; exact h.trans (congrArg some (mkR_by ..).symm)
    · rw [e]; exact h1.by
    · rw [e]; exact h2.by
theorem p_treeBy {p : Option Addr} {K : Int} (k : Int) (H : Post F X (.tree p (K + k) (t.map (D.by k)) :: R) P) : Post F X (.tree p K t :: R) P := fun S s => by
  have h := s.ok _ List.mem_cons_self
  refine H S ⟨s.rt, s.cx, s.own, ?_, fun y hy => ?_, s.fm⟩
  · have e : ads (.tree p (K + k) (t.map (D.by k)) :: R) = ads (.tree p K t :: R) := congrArg (· ++ ads R) (map_ad _ t)
    rw [e]; exact s.nodup
  · rcases List.mem_cons.mp hy with rfl | hy
    · exact ⟨h.1.by, fun x hx => h.2 x (map_ad _ t ▸ hx)⟩
    · exact s.ok y (List.mem_cons_of_mem _ hy)
theorem p_moved {p : Option Addr} {K o : Int} (k : Int) {l r : T} {a : Addr} {d : D} {cc : Bool} (H : Post F X (.tree p K ((T.node l a d cc r).map (D.by k)) :: R) P) :
    Post F X (.cell a ⟨K + o, o + k, d, cc, gE d l.mx r.mx, l.root, r.root, p⟩ :: .tree (some a) (K + o) l :: .tree (some a) (K + o) r :: R) P := by
  refine p_fr [1] rfl (p_treeBy k (p_fr [2] rfl (p_treeBy k (p_fr [2, 1] rfl ?_))))
  refine p_rc (r' := ⟨K + o + k, o + k, d.by k, cc, gE (d.by k) (l.map (D.by k)).mx (r.map (D.by k)).mx, (l.map (D.by k)).root, (r.map (D.by k)).root, p⟩) ?_ (p_fold (Int.add_assoc ..) H)
  unfold Rc.nr
  rw [mx_by, mx_by, gE_by, map_root, map_root]
  exact (mkR_by ..).symm
noncomputable abbrev orefs (l : List (Option Addr)) : List AV := l.map .opt
theorem orefs_rev (w : Option Addr) (ws : List (Option Addr)) : orefs (w :: ws).reverse = orefs ws.reverse ++ [.opt w] := by simp
end
end
section
noncomputable def PW (t : T) : Prop := Srt t.io ∧ ∀ x ∈ t.io, x.2.b ≤ x.2.e
noncomputable def shD (at_ many : Int) (bm : Bool) (d : D) : D := { d with b := if at_ < d.b then d.b + many else d.b, e := if growsB d.e d.re at_ bm then d.e + many else d.e }
theorem PW.sons {l r : T} {a : Addr} {d : D} {c : Bool} (h : PW (.node l a d c r)) : PW l ∧ PW r ∧ d.b ≤ d.e ∧ (∀ x ∈ r.io, d.b ≤ x.2.b) ∧ (∀ x ∈ l.io, x.2.b ≤ d.b) := by
  obtain ⟨h1, h2⟩ := h
  unfold Srt at h1
  rw [T.io, List.pairwise_append, List.pairwise_cons] at h1
  simp only [T.io, List.mem_append, List.mem_cons] at h2
  exact ⟨⟨h1.1, fun x hx => h2 x (.inl hx)⟩, ⟨h1.2.1.2, fun x hx => h2 x (.inr (.inr hx))⟩, h2 (a, d) (.inr (.inl rfl)), h1.2.1.1, fun x hx => h1.2.2 x hx _ List.mem_cons_self⟩
theorem sh_low {at_ many : Int} {bm : Bool} {t : T} (h : PW t) (hm : ∀ m, t.mx = some m → m < at_) : t.map (shD at_ many bm) = t := by
  refine map_same fun x hx => ?_
  obtain ⟨m, e1, e2⟩ := le_mx hx
  have := hm m e1
  have hb := h.2 x hx
  unfold shD growsB
  rw [if_neg (by omega), decide_eq_false (by omega), decide_eq_false (by omega)]
  simp
theorem sh_high {at_ many : Int} {bm : Bool} {t : T} (h : PW t) (hb : ∀ x ∈ t.io, at_ < x.2.b) : t.map (shD at_ many bm) = t.map (D.by many) := by
  refine map_congr fun x hx => ?_
  have h1 := hb x hx
  have h2 := h.2 x hx
  unfold shD growsB D.by
  rw [if_pos h1, decide_eq_true (show at_ < x.2.e by omega)]
  simp
section
variable {F : Fc} {X : Xc} {n : Int} {R V W : List At} {t : T} {P : Sto → Prop} {c : Cst} {k : Nat} {Q : AV → Sto → Prop}
theorem p_cellD {a : Addr} {K o lim : Int} {d d2 : D} {cc : Bool} {l r p : Option Addr} (e : d = d2) (H : Post F X (.cell a ⟨K, o, d2, cc, lim, l, r, p⟩ :: R) P) : Post F X (.cell a ⟨K, o, d, cc, lim, l, r, p⟩ :: R) P := e ▸ H
theorem sn_tail {a wt : Addr} {d : D} {cc bm : Bool} {l r : T} {lim at_ many : Int} {C : Cx} {xs : List AV} {J : Vs → Sto → Prop} {vs : Vs} (hl : xs.length < 1000)
    (hvs : vs = .s (some (.ref F.tr)) (.s (some (.int at_)) (.s (some (.int many)) (.s (some (.bool bm)) (.s (some (.ref wt)) (.s (some (.ref a)) .nil))))))
    (H : Post F X (.ls wt (xs ++ [.opt l.root]) :: .pt (⟨true, a, shD at_ many bm d, cc, r⟩ :: C) l.root (some l.mx) :: .tree (some a) 0 l :: R) (J vs)) :
    Post F X (.cell a ⟨0, 0, d, cc, lim, l.root, r.root, par C⟩ :: .tree (some a) 0 l :: .tree (some a) 0 r :: .ls wt xs :: .pt C (some a) (some (some lim)) :: R)
      (Run c (k + 2) (MS.go ⟨c222t, [.sg .done, .sg .done, .lp J], [], vs⟩) Q) := by
  subst hvs
  refine p_chk _ rfl at3 rfl (p_rd _ rfl at0 rfl (p_app _ rfl at3 rfl hl ?_))
  have fin : ∀ {b e : Int}, (⟨d.num, b, e, d.fr, d.re⟩ : D) = shD at_ many bm d → Post F X (.cell a ⟨0, 0, ⟨d.num, b, e, d.fr, d.re⟩, cc, lim, l.root, r.root, par C⟩ :: .tree (some a) 0 l :: .tree (some a) 0 r :: .ls wt (xs ++ [.opt l.root]) :: .pt C (some a) (some (some lim)) :: R)
      (CW c (k + 2) (.ref 84) [.ref a] fun v S' => Run c (k + 2) ⟨.pop .done, [.sg .done, .sg .done, .lp J], [v], .s (some (.ref F.tr)) (.s (some (.int at_)) (.s (some (.int many)) (.s (some (.bool bm)) (.s (some (.ref wt)) (.s (some (.ref a)) .nil)))))⟩ Q S') := fun e => by
    refine p_cellD e (p_fr [4, 0, 0, 0] rfl (renew_ok ?_))
    exact p_lp rfl (p_fr [1, 2, 0] rfl (p_ptPush (f := ⟨true, a, shD at_ many bm d, cc, r⟩) (h := l.root) (M := some l.mx) (p_fr [2] rfl H) (some_all rfl) rfl rfl rfl rfl))
  walk_at "qq"
  refine p_cmpB rfl (fun _ => rfl) (fun h1 => ?_) (fun h1 => ?_)
  · rw [Int.sub_zero] at h1
    walk_at "qq"
    refine grows_ok ?_
    cases hg : growsB (d.e - 0) d.re at_ bm <;> rw [Int.sub_zero] at hg
    · walk_at "qq"
      refine fin ?_
      unfold shD; rw [if_pos h1, hg, Int.sub_zero, Int.add_zero]; rfl
    · walk_at "qq"
      refine fin ?_
      unfold shD; rw [if_pos h1, hg, Int.sub_zero, Int.add_zero, Int.sub_zero, Int.add_zero]; rfl
  · rw [Int.sub_zero] at h1
    walk_at "qq"
    refine grows_ok ?_
    cases hg : growsB (d.e - 0) d.re at_ bm <;> rw [Int.sub_zero] at hg
    · walk_at "qq"
      refine fin (b := d.b) (e := d.e) ?_
      unfold shD; rw [if_neg h1, hg]; rfl
    · walk_at "qq"
      refine fin ?_
      unfold shD; rw [if_neg h1, hg, Int.sub_zero, Int.add_zero]; rfl
theorem ad_len (l : T) (a : Addr) (d : D) (c : Bool) (r : T) : (T.node l a d c r).ad.length = l.ad.length + r.ad.length + 1 := by
  show (a :: (l.ad ++ r.ad)).length = _
  rw [List.length_cons, List.length_append]
inductive SI (F : Fc) (X : Xc) (R : List At) (g : D → D) (T1 : T) (N : Nat) (wt : Addr) (w1 w2 w3 : Option AV) : Nat → Vs → Xc → List At → Prop
  | go (C C' : Cx) (t : T) (ws : List (Option Addr)) (m : Nat) (v : Option AV) (h : Pd g PW C C' ws m) (hp : PW t) (e : plug C' (t.map g) = T1) (hn : m + (2 * t.ad.length + 1) ≤ N) :
    SI F X R g T1 N wt w1 w2 w3 (m + (2 * t.ad.length + 1)) (.s (some (.ref F.tr)) (.s w1 (.s w2 (.s w3 (.s (some (.ref wt)) (.s v .nil)))))) X (.ls wt (orefs (t.root :: ws).reverse) :: .pt C t.root (some t.mx) :: .tree (par C) 0 t :: R)
  | fin (v : Option AV) : SI F X R g T1 N wt w1 w2 w3 0 (.s (some (.ref F.tr)) (.s w1 (.s w2 (.s w3 (.s (some (.ref wt)) (.s v .nil)))))) X (.ls wt [] :: .tree none 0 T1 :: R)
theorem Pd.len {g : D → D} {Pw : T → Prop} {C C' : Cx} {ws : List (Option Addr)} {m : Nat} (h : Pd g Pw C C' ws m) : ws.length ≤ m := by
  induction h with
  | nil => exact Nat.le_refl _
  | skip f C C' ws m h ih => exact ih
  | pend a d c s C C' ws m h hs ih => rw [List.length_cons]; omega
theorem shift_nodes_ok {t0 : T} {M : Option (Option Int)} {K at_ many : Int} {bm : Bool} (hP : PW t0) (hz : t0.ad.length < 400)
    (H : Post F ⟨t0.root, M, 0, n, []⟩ (.tree none 0 (t0.map (shD at_ many bm)) :: R) (Q .none)) :
    Post F ⟨t0.root, M, K, n, []⟩ (.tree none K t0 :: R) (CW c (k + 3) (.ref 222) [.ref F.tr, .int at_, .int many, .bool bm] Q) := by
  refine p_K0 fun e => ?_
  cases e
  refine Post.fn f222 rfl ?_
  walk_at "q"
  refine p_mkl rfl rfl fun wt => ?_
  refine p_fr [1] rfl (p_ptNil (h := t0.root) (M := some t0.mx) (p_fr [2] rfl ?_))
  refine p_whl (SI F ⟨t0.root, M, 0, n, []⟩ R (shD at_ many bm) (t0.map (shD at_ many bm)) (2 * t0.ad.length + 1) wt _ _ _) _ rfl (.go [] [] t0 [] 0 _ .nil hP rfl (by rw [Nat.zero_add]; exact Nat.le_refl _)) ?_
  rintro _ _ _ _ (⟨C, C', t, ws, m, v, h, hp, e, hn⟩ | ⟨v⟩) J hJ
  · have next : ∀ {s : T} {v : Option AV}, plug C' s = t0.map (shD at_ many bm) → Post F ⟨t0.root, M, 0, n, []⟩ (.ls wt (orefs ws.reverse) :: .pt C s.root (some s.mx) :: .tree (par C) 0 s :: R) (J (.s (some (.ref F.tr)) (.s (some (.int at_)) (.s (some (.int many)) (.s (some (.bool bm)) (.s (some (.ref wt)) (.s v .nil))))))) := fun e => by
      refine p_fr [1, 1] rfl (adv h e (fun C2 C2' t2 ws2 m2 e1 h2 p2 em e2 => ?_) fun e1 => ?_)
      · refine p_fr [2] rfl ?_
        rw [e1]
        exact hJ _ _ _ _ (by omega) (.go C2 C2' t2 ws2 m2 _ h2 p2 e2 (by omega))
      · refine p_fr [1] rfl ?_
        rw [e1]
        exact hJ _ _ _ _ (Nat.succ_pos _) (.fin _)
    have hws := h.len
    rw [orefs_rev]
    walk_at "qq"
    refine Post.len _ at0 (p_cmp (t := true) rfl (fun _ => congrArg some (decide_eq_true ?_)) ?_)
    · rw [List.length_append]; exact Int.ofNat_lt.mpr (Nat.succ_pos _)
    refine p_chk _ rfl at0 rfl (p_lpop _ rfl at0 rfl ?_)
    cases t with
    | nil =>
      walk_at "qq"
      exact p_lp rfl (next e)
    | node l a d cc r =>
      obtain ⟨pl, pr, hbe, hr, _⟩ := hp.sons
      walk_at "qq"
      refine p_fr [2] rfl (hand_down_ok ?_)
      walk_at "qq"
      refine p_cmpB rfl (fun _ => rfl) (fun hlim => ?_) (fun hlim => ?_)
      · have hz' : ∀ x : Option Addr, (orefs ws.reverse).length < 1000 ∧ (orefs ws.reverse ++ [AV.opt x]).length < 1000 := fun x => by
          rw [List.length_append, List.length_map, List.length_reverse]; exact ⟨by omega, by show ws.length + 1 < 1000; omega⟩
        have hlen := ad_len l a d cc r
        cases r with
        | nil =>
          walk_at "qq"
          refine p_chk _ rfl at3 rfl (p_rd _ rfl at0 rfl (p_app _ rfl at3 rfl (hz' none).1 ?_))
          refine Post.go' (m' := MS.go ⟨c222t, [.sg .done, .sg .done, .lp J], [], _⟩) rfl (sn_tail (r := .nil) (hz' _).2 rfl ?_)
          have e3 : orefs ws.reverse ++ [.opt (T.root .nil)] ++ [.opt l.root] = orefs (l.root :: (T.root .nil) :: ws).reverse := by rw [orefs_rev, orefs_rev]
          rw [e3]
          exact hJ _ _ _ _ (by omega) (.go _ _ l (T.root .nil :: ws) _ _ (.pend a (shD at_ many bm d) cc .nil C C' ws m h pr) pl e (by omega))
        | node rl ra rd rc rr =>
          walk_at "qq"
          refine p_cmpB rfl (fun _ => rfl) (fun hb => ?_) (fun hb => ?_)
          · refine p_unf 2 rfl (fun _ => rfl) fun o => ?_
            walk_at "qq"
            have high : (T.node rl ra rd rc rr).map (D.by many) = (T.node rl ra rd rc rr).map (shD at_ many bm) := (sh_high pr fun x hx => Int.lt_of_lt_of_le (by rw [Int.sub_zero] at hb; exact hb) (hr x hx)).symm
            refine p_fr [2, 2, 2] rfl (p_moved many ?_)
            rw [high]
            refine p_fr [1, 1] rfl (Post.go' (m' := MS.go ⟨c222t, [.sg .done, .sg .done, .lp J], [], _⟩) rfl (sn_tail (r := (T.node rl ra rd rc rr).map (shD at_ many bm)) (hz' none).1 rfl ?_))
            have e3 : orefs ws.reverse ++ [.opt l.root] = orefs (l.root :: ws).reverse := (orefs_rev ..).symm
            rw [e3]
            exact hJ _ _ _ _ (by omega) (.go _ _ l ws m _ (.skip ⟨true, a, shD at_ many bm d, cc, (T.node rl ra rd rc rr).map (shD at_ many bm)⟩ C C' ws m h) pl e (by omega))
          · walk_at "qq"
            refine p_chk _ rfl at3 rfl (p_rd _ rfl at0 rfl (p_app _ rfl at3 rfl (hz' none).1 ?_))
            refine Post.go' (m' := MS.go ⟨c222t, [.sg .done, .sg .done, .lp J], [], _⟩) rfl (sn_tail (r := (.node rl ra rd rc rr)) (hz' _).2 rfl ?_)
            have e3 : orefs ws.reverse ++ [.opt (T.root (.node rl ra rd rc rr))] ++ [.opt l.root] = orefs (l.root :: (T.root (.node rl ra rd rc rr)) :: ws).reverse := by rw [orefs_rev, orefs_rev]
            rw [e3]
            exact hJ _ _ _ _ (by omega) (.go _ _ l (T.root (.node rl ra rd rc rr) :: ws) _ _ (.pend a (shD at_ many bm d) cc (.node rl ra rd rc rr) C C' ws m h pr) pl e (by omega))
      · have low : (T.node l a d cc r).map (shD at_ many bm) = .node l a d cc r := sh_low hp fun m e => by
          cases e; rw [Int.sub_zero] at hlim; exact Int.not_le.mp hlim
        rw [low] at e
        walk_at "qq"
        exact p_lp rfl (p_fold0 rfl rfl rfl (p_fr [1, 1] rfl (next e)))
  · walk_at "qq"
    refine Post.len _ at0 ?_
    walk_at "qq"
    exact p_drop H
end
end
section
noncomputable def clD (at_ many : Int) (d : D) : D := { d with b := if at_ < d.b then max at_ (d.b - many) else d.b, e := if at_ < d.e then max at_ (d.e - many) else d.e }
theorem cl_low {at_ many : Int} {t : T} (h : PW t) (hm : ∀ m, t.mx = some m → m ≤ at_) : t.map (clD at_ many) = t := by
  refine map_same fun x hx => ?_
  obtain ⟨m, e1, e2⟩ := le_mx hx
  have := hm m e1
  have hb := h.2 x hx
  unfold clD
  rw [if_neg (by omega), if_neg (by omega)]
theorem cl_high {at_ many : Int} {t : T} (h : PW t) (hb : ∀ x ∈ t.io, at_ + many < x.2.b) (hp : 0 < many) : t.map (clD at_ many) = t.map (D.by (-many)) := by
  refine map_congr fun x hx => ?_
  have h1 := hb x hx
  have h2 := h.2 x hx
  unfold clD D.by
  rw [if_pos (by omega), if_pos (by omega), show max at_ (x.2.b - many) = x.2.b + -many by omega, show max at_ (x.2.e - many) = x.2.e + -many by omega]
section
variable {F : Fc} {X : Xc} {n : Int} {R V W : List At} {t : T} {P : Sto → Prop} {c : Cst} {k : Nat} {Q : AV → Sto → Prop}
theorem cg_tail {a wt : Addr} {d : D} {cc : Bool} {l r : T} {lim at_ many : Int} {C : Cx} {xs : List AV} {J : Vs → Sto → Prop} {vs : Vs} (hl : xs.length < 1000)
    (hvs : vs = .s (some (.ref F.tr)) (.s (some (.int at_)) (.s (some (.int many)) (.s (some (.ref wt)) (.s (some (.ref a)) .nil)))))
    (H : Post F X (.ls wt (xs ++ [.opt l.root]) :: .pt (⟨true, a, clD at_ many d, cc, r⟩ :: C) l.root (some l.mx) :: .tree (some a) 0 l :: R) (J vs)) :
    Post F X (.cell a ⟨0, 0, d, cc, lim, l.root, r.root, par C⟩ :: .tree (some a) 0 l :: .tree (some a) 0 r :: .ls wt xs :: .pt C (some a) (some (some lim)) :: R)
      (Run c (k + 2) (MS.go ⟨c229t, [.sg .done, .sg .done, .lp J], [], vs⟩) Q) := by
  subst hvs
  refine p_chk _ rfl at3 rfl (p_rd _ rfl at0 rfl (p_app _ rfl at3 rfl hl ?_))
  have fin : ∀ {b e : Int}, (⟨d.num, b, e, d.fr, d.re⟩ : D) = clD at_ many d → Post F X (.cell a ⟨0, 0, ⟨d.num, b, e, d.fr, d.re⟩, cc, lim, l.root, r.root, par C⟩ :: .tree (some a) 0 l :: .tree (some a) 0 r :: .ls wt (xs ++ [.opt l.root]) :: .pt C (some a) (some (some lim)) :: R)
      (CW c (k + 2) (.ref 84) [.ref a] fun v S' => Run c (k + 2) ⟨.pop .done, [.sg .done, .sg .done, .lp J], [v], .s (some (.ref F.tr)) (.s (some (.int at_)) (.s (some (.int many)) (.s (some (.ref wt)) (.s (some (.ref a)) .nil))))⟩ Q S') := fun e => by
    refine p_cellD e (p_fr [4, 0, 0, 0] rfl (renew_ok ?_))
    exact p_lp rfl (p_fr [1, 2, 0] rfl (p_ptPush (f := ⟨true, a, clD at_ many d, cc, r⟩) (h := l.root) (M := some l.mx) (p_fr [2] rfl H) (some_all rfl) rfl rfl rfl rfl))
  walk_at "qq"
  refine p_cmpB rfl (fun _ => rfl) (fun h1 => ?_) (fun h1 => ?_)
  · rw [Int.sub_zero] at h1
    walk_at "qq"
    refine Post.max ?_
    walk_at "qq"
    refine p_cmpB rfl (fun _ => rfl) (fun h2 => ?_) (fun h2 => ?_)
    · rw [Int.sub_zero] at h2
      walk_at "qq"
      refine Post.max ?_
      walk_at "qq"
      refine fin ?_
      unfold clD; rw [if_pos h1, if_pos h2, Int.sub_zero, Int.sub_zero, Int.add_zero, Int.add_zero]
    · rw [Int.sub_zero] at h2
      walk_at "qq"
      refine fin ?_
      unfold clD; rw [if_pos h1, if_neg h2, Int.sub_zero, Int.add_zero]
  · rw [Int.sub_zero] at h1
    walk_at "qq"
    refine p_cmpB rfl (fun _ => rfl) (fun h2 => ?_) (fun h2 => ?_)
    · rw [Int.sub_zero] at h2
      walk_at "qq"
      refine Post.max ?_
      walk_at "qq"
      refine fin ?_
      unfold clD; rw [if_neg h1, if_pos h2, Int.sub_zero, Int.add_zero]
    · rw [Int.sub_zero] at h2
      walk_at "qq"
      refine fin (b := d.b) (e := d.e) ?_
      unfold clD; rw [if_neg h1, if_neg h2]
inductive SC (F : Fc) (X : Xc) (R : List At) (g : D → D) (T1 : T) (N : Nat) (wt : Addr) (w1 w2 : Option AV) : Nat → Vs → Xc → List At → Prop
  | go (C C' : Cx) (t : T) (ws : List (Option Addr)) (m : Nat) (v : Option AV) (h : Pd g PW C C' ws m) (hp : PW t) (e : plug C' (t.map g) = T1) (hn : m + (2 * t.ad.length + 1) ≤ N) :
    SC F X R g T1 N wt w1 w2 (m + (2 * t.ad.length + 1)) (.s (some (.ref F.tr)) (.s w1 (.s w2 (.s (some (.ref wt)) (.s v .nil))))) X (.ls wt (orefs (t.root :: ws).reverse) :: .pt C t.root (some t.mx) :: .tree (par C) 0 t :: R)
  | fin (v : Option AV) : SC F X R g T1 N wt w1 w2 0 (.s (some (.ref F.tr)) (.s w1 (.s w2 (.s (some (.ref wt)) (.s v .nil))))) X (.ls wt [] :: .tree none 0 T1 :: R)
theorem close_gap_ok {t0 : T} {M : Option (Option Int)} {K at_ many : Int} (hP : PW t0) (hz : t0.ad.length < 400) (hm : 0 < many)
    (H : Post F ⟨t0.root, M, 0, n, []⟩ (.tree none 0 (t0.map (clD at_ many)) :: R) (Q .none)) :
    Post F ⟨t0.root, M, K, n, []⟩ (.tree none K t0 :: R) (CW c (k + 3) (.ref 229) [.ref F.tr, .int at_, .int many] Q) := by
  refine p_K0 fun e => ?_
  cases e
  refine Post.fn f229 rfl ?_
  refine p_cmp (t := false) rfl (fun _ => congrArg some (decide_eq_false (Int.not_le.mpr hm))) ?_
  walk_at "q"
  refine p_mkl rfl rfl fun wt => ?_
  refine p_fr [1] rfl (p_ptNil (h := t0.root) (M := some t0.mx) (p_fr [2] rfl ?_))
  refine p_whl (SC F ⟨t0.root, M, 0, n, []⟩ R (clD at_ many) (t0.map (clD at_ many)) (2 * t0.ad.length + 1) wt _ _) _ rfl (.go [] [] t0 [] 0 _ .nil hP rfl (by rw [Nat.zero_add]; exact Nat.le_refl _)) ?_
  rintro _ _ _ _ (⟨C, C', t, ws, m, v, h, hp, e, hn⟩ | ⟨v⟩) J hJ
  · have next : ∀ {s : T} {v : Option AV}, plug C' s = t0.map (clD at_ many) → Post F ⟨t0.root, M, 0, n, []⟩ (.ls wt (orefs ws.reverse) :: .pt C s.root (some s.mx) :: .tree (par C) 0 s :: R) (J (.s (some (.ref F.tr)) (.s (some (.int at_)) (.s (some (.int many)) (.s (some (.ref wt)) (.s v .nil)))))) := fun e => by
      refine p_fr [1, 1] rfl (adv h e (fun C2 C2' t2 ws2 m2 e1 h2 p2 em e2 => ?_) fun e1 => ?_)
      · refine p_fr [2] rfl ?_
        rw [e1]
        exact hJ _ _ _ _ (by omega) (.go C2 C2' t2 ws2 m2 _ h2 p2 e2 (by omega))
      · refine p_fr [1] rfl ?_
        rw [e1]
        exact hJ _ _ _ _ (Nat.succ_pos _) (.fin _)
    have hws := h.len
    rw [orefs_rev]
    walk_at "qq"
    refine Post.len _ at0 (p_cmp (t := true) rfl (fun _ => congrArg some (decide_eq_true ?_)) ?_)
    · rw [List.length_append]; exact Int.ofNat_lt.mpr (Nat.succ_pos _)
    refine p_chk _ rfl at0 rfl (p_lpop _ rfl at0 rfl ?_)
    cases t with
    | nil =>
      walk_at "qq"
      exact p_lp rfl (next e)
    | node l a d cc r =>
      obtain ⟨pl, pr, hbe, hr, _⟩ := hp.sons
      walk_at "qq"
      refine p_fr [2] rfl (hand_down_ok ?_)
      walk_at "qq"
      refine p_cmpB rfl (fun _ => rfl) (fun hlim => ?_) (fun hlim => ?_)
      · have hz' : ∀ x : Option Addr, (orefs ws.reverse).length < 1000 ∧ (orefs ws.reverse ++ [AV.opt x]).length < 1000 := fun x => by
          rw [List.length_append, List.length_map, List.length_reverse]; exact ⟨by omega, by show ws.length + 1 < 1000; omega⟩
        have hlen := ad_len l a d cc r
        cases r with
        | nil =>
          walk_at "qq"
          refine p_chk _ rfl at3 rfl (p_rd _ rfl at0 rfl (p_app _ rfl at3 rfl (hz' none).1 ?_))
          refine Post.go' (m' := MS.go ⟨c229t, [.sg .done, .sg .done, .lp J], [], _⟩) rfl (cg_tail (r := .nil) (hz' _).2 rfl ?_)
          have e3 : orefs ws.reverse ++ [.opt (T.root .nil)] ++ [.opt l.root] = orefs (l.root :: (T.root .nil) :: ws).reverse := by rw [orefs_rev, orefs_rev]
          rw [e3]
          exact hJ _ _ _ _ (by omega) (.go _ _ l (T.root .nil :: ws) _ _ (.pend a (clD at_ many d) cc .nil C C' ws m h pr) pl e (by omega))
        | node rl ra rd rc rr =>
          walk_at "qq"
          refine p_cmpB rfl (fun _ => rfl) (fun hb => ?_) (fun hb => ?_)
          · refine p_unf 2 rfl (fun _ => rfl) fun o => ?_
            walk_at "qq"
            have high : (T.node rl ra rd rc rr).map (D.by (-many)) = (T.node rl ra rd rc rr).map (clD at_ many) := (cl_high pr (fun x hx => Int.lt_of_lt_of_le (by rw [Int.sub_zero] at hb; exact hb) (hr x hx)) hm).symm
            rw [Int.sub_eq_add_neg]
            refine p_fr [2, 2, 2] rfl (p_moved (-many) ?_)
            rw [high]
            refine p_fr [1, 1] rfl (Post.go' (m' := MS.go ⟨c229t, [.sg .done, .sg .done, .lp J], [], _⟩) rfl (cg_tail (r := (T.node rl ra rd rc rr).map (clD at_ many)) (hz' none).1 rfl ?_))
            have e3 : orefs ws.reverse ++ [.opt l.root] = orefs (l.root :: ws).reverse := (orefs_rev ..).symm
            rw [e3]
            exact hJ _ _ _ _ (by omega) (.go _ _ l ws m _ (.skip ⟨true, a, clD at_ many d, cc, (T.node rl ra rd rc rr).map (clD at_ many)⟩ C C' ws m h) pl e (by omega))
          · walk_at "qq"
            refine p_chk _ rfl at3 rfl (p_rd _ rfl at0 rfl (p_app _ rfl at3 rfl (hz' none).1 ?_))
            refine Post.go' (m' := MS.go ⟨c229t, [.sg .done, .sg .done, .lp J], [], _⟩) rfl (cg_tail (r := (.node rl ra rd rc rr)) (hz' _).2 rfl ?_)
            have e3 : orefs ws.reverse ++ [.opt (T.root (.node rl ra rd rc rr))] ++ [.opt l.root] = orefs (l.root :: (T.root (.node rl ra rd rc rr)) :: ws).reverse := by rw [orefs_rev, orefs_rev]
            rw [e3]
            exact hJ _ _ _ _ (by omega) (.go _ _ l (T.root (.node rl ra rd rc rr) :: ws) _ _ (.pend a (clD at_ many d) cc (.node rl ra rd rc rr) C C' ws m h pr) pl e (by omega))
      · have low : (T.node l a d cc r).map (clD at_ many) = .node l a d cc r := cl_low hp fun m e => by
          cases e; rw [Int.sub_zero] at hlim; exact Int.not_lt.mp hlim
        rw [low] at e
        walk_at "qq"
        exact p_lp rfl (p_fold0 rfl rfl rfl (p_fr [1, 1] rfl (next e)))
  · walk_at "qq"
    refine Post.len _ at0 ?_
    walk_at "qq"
    exact p_drop H
end
end
section
noncomputable def pr : T → List Addr
  | .nil => []
  | .node l a _ _ r => a :: (pr r ++ pr l)
noncomputable abbrev Pt := Option Addr × T
noncomputable def TS : List Pt → List At → List At
  | [], V => V
  | w :: ws, V => .tree w.1 0 w.2 :: TS ws V
noncomputable def Flat (V : List At) : Option Addr → T → Prop
  | _, .nil => True
  | p, .node l a d c r => .cell a ⟨0, 0, d, c, gE d l.mx r.mx, l.root, r.root, p⟩ ∈ V ∧ Flat V (some a) l ∧ Flat V (some a) r
theorem TS_perm : ∀ (ws : List Pt) (x : At) (V : List At), (TS ws (x :: V)).Perm (x :: TS ws V)
  | [], _, _ => .refl _
  | w :: ws, x, V => ((TS_perm ws x V).cons _).trans (.swap ..)
section
variable {F : Fc} {X : Xc} {n : Int} {R V W : List At} {t : T} {P : Sto → Prop} {c : Cst} {k : Nat} {Q : AV → Sto → Prop}
structure NS (F : Fc) (X : Xc) (t0 : T) (ws : List Pt) (V : List At) (fs : List Addr) : Prop where
  hE : ∀ R, En F X (TS ws (V ++ R)) (.tree none 0 t0 :: R)
  hf : fs ++ ws.flatMap (fun w => pr w.2) = pr t0
  hV : ∀ V', (∀ x ∈ V, x ∈ V') → (∀ w ∈ ws, Flat V' w.1 w.2) → Flat V' none t0
noncomputable def wsz (ws : List Pt) : Nat := (ws.map fun w => 2 * (pr w.2).length + 1).sum
inductive NI (F : Fc) (R : List At) (X : Xc) (t0 : T) (fd wt : Addr) : Nat → Vs → Xc → List At → Prop
  | mk (ws : List Pt) (V : List At) (fs : List Addr) (v : Option AV) (h : NS F X t0 ws V fs) (hw : wsz ws ≤ 2 * (pr t0).length + 1) : NI F R X t0 fd wt (wsz ws) (.s (some (.ref F.tr)) (.s (some (.ref fd)) (.s (some (.ref wt)) (.s v .nil)))) X
    (.ls fd (refs fs) :: .ls wt (orefs (ws.map fun w => w.2.root).reverse) :: TS ws (V ++ R))
theorem wsz_cons (w : Pt) (ws : List Pt) : wsz (w :: ws) = 2 * (pr w.2).length + 1 + wsz ws := rfl
theorem wsz_len : ∀ ws : List Pt, ws.length ≤ wsz ws
  | [] => Nat.le_refl _
  | w :: ws => by rw [wsz_cons]; have := wsz_len ws; rw [List.length_cons]; omega
theorem pr_len (l : T) (a : Addr) (d : D) (c : Bool) (r : T) : (pr (.node l a d c r)).length = (pr l).length + (pr r).length + 1 := by
  show (a :: (pr r ++ pr l)).length = _
  rw [List.length_cons, List.length_append]; omega
theorem from_below_ok {t0 : T} {M : Option (Option Int)} {K : Int} (hz : (pr t0).length < 400)
    (H : ∀ V fd, Flat V none t0 → (∀ R, En F ⟨t0.root, M, 0, n, []⟩ (V ++ R) (.tree none 0 t0 :: R)) → Post F ⟨t0.root, M, 0, n, []⟩ (.ls fd (refs (pr t0).reverse) :: (V ++ R)) (Q (.ref fd))) :
    Post F ⟨t0.root, M, K, n, []⟩ (.tree none K t0 :: R) (CW c (k + 2) (.ref 243) [.ref F.tr] Q) := by
  refine p_K0 fun e => ?_
  cases e
  refine Post.fn f243 rfl (p_mkl rfl rfl fun fd => ?_)
  walk_at "q"
  refine p_mkl rfl rfl fun wt => p_fr [1] rfl ?_
  refine p_whl (NI F R ⟨t0.root, M, 0, n, []⟩ t0 fd wt) _ rfl (.mk [(none, t0)] [] [] _ ⟨fun _ _ h => h, List.append_nil _, fun V' _ h => h _ List.mem_cons_self⟩ (Nat.le_refl _)) ?_
  rintro _ _ _ _ ⟨ws, V, fs, v, h, hw⟩ J hJ
  have hwl := wsz_len ws
  have hfl := congrArg List.length h.hf
  rw [List.length_append] at hfl
  walk_at "qq"
  refine Post.len _ at1 ?_
  cases ws with
  | nil =>
    walk_at "qq"
    refine p_slc (ys := refs (pr t0).reverse) _ rfl at0 ?_ fun l2 => ?_
    · have e : fs = pr t0 := (List.append_nil fs).symm.trans h.hf
      rw [e]; exact sl_rev (List.map_reverse ..).symm
    walk_at "qq"
    exact p_fr [1, 1] rfl (p_drop (p_drop (H V l2 (h.hV V (fun _ h => h) fun _ h => absurd h List.not_mem_nil) h.hE)))
  | cons w ws =>
    obtain ⟨p, t⟩ := w
    rw [wsz_cons] at hw
    have e0 : orefs (((p, t) :: ws).map fun w => w.2.root).reverse = orefs (ws.map fun w => w.2.root).reverse ++ [.opt t.root] := orefs_rev ..
    rw [e0]
    refine p_cmp (t := true) rfl (fun _ => congrArg some (decide_eq_true ?_)) ?_
    · rw [List.length_append]; exact Int.ofNat_lt.mpr (Nat.succ_pos _)
    refine p_chk _ rfl at1 rfl (p_lpop _ rfl at1 rfl ?_)
    cases t with
    | nil =>
      walk_at "qq"
      refine p_lp rfl (p_fr [2] rfl (p_drop ?_))
      refine hJ _ _ _ _ ?_ (.mk ws V fs _ ⟨fun R P h' => p_nil (h.hE R P h'), h.hf, fun V' h1 h2 => h.hV V' h1 fun w hw => ?_⟩ ?_)
      · rw [wsz_cons]; exact Nat.lt_add_of_pos_left (Nat.succ_pos _)
      · rcases List.mem_cons.mp hw with rfl | hw
        · trivial
        · exact h2 w hw
      · exact Nat.le_trans (Nat.le_add_left ..) hw
    | node l a d cc r =>
      have hlen := pr_len l a d cc r
      have hlen2 : (List.flatMap (fun w : Pt => pr w.2) ((p, T.node l a d cc r) :: ws)).length = (pr (T.node l a d cc r)).length + (ws.flatMap fun w => pr w.2).length := List.length_append
      have hb : ∀ z : List AV, z.length ≤ 2 → (orefs (ws.map fun w => w.2.root).reverse ++ z).length < 1000 := fun z hz => by
        rw [List.length_append, List.length_map, List.length_reverse, List.length_map]
        rw [List.length_cons] at hwl
        rw [wsz_cons] at hwl
        omega
      have hb0 : (orefs (ws.map fun w => w.2.root).reverse).length < 1000 := by have := hb [] (Nat.zero_le _); rwa [List.append_nil] at this
      walk_at "qq"
      refine p_fr [2] rfl (hand_down_ok ?_)
      walk_at "qq"
      refine p_chk _ rfl at3 rfl (p_app _ rfl at3 rfl (by rw [List.length_map]; omega) ?_)
      refine p_chk _ rfl at4 rfl (p_rd _ rfl at0 rfl (p_app _ rfl at4 rfl hb0 ?_))
      refine p_chk _ rfl at4 rfl (p_rd _ rfl at0 rfl (p_app _ rfl at4 rfl (hb [_] (Nat.le_succ 1)) ?_))
      have e1 : orefs (ws.map fun w => w.2.root).reverse ++ [.opt l.root] ++ [.opt r.root] = orefs (((some a, r) :: (some a, l) :: ws).map fun w : Pt => w.2.root).reverse := by
        show _ = orefs (r.root :: l.root :: ws.map fun w => w.2.root).reverse
        rw [orefs_rev, orefs_rev]
      have e2 : refs fs ++ [AV.opt (T.node l a d cc r).root] = refs (fs ++ [a]) := (List.map_append (f := AV.ref) (l₁ := fs) (l₂ := [a])).symm
      rw [e1, e2]
      refine p_lp rfl (p_fr [3, 3, 2, 1] rfl (p_perm (((((TS_perm ws _ (V ++ R)).symm.cons _).cons _).cons _).cons _) ?_))
      refine hJ _ _ _ _ ?_ (.mk ((some a, r) :: (some a, l) :: ws) (.cell a ⟨0, 0, d, cc, gE d l.mx r.mx, l.root, r.root, p⟩ :: V) (fs ++ [a]) _ ⟨?_, ?_, fun V' h1 h2 => h.hV V' (fun x hx => h1 x (List.mem_cons_of_mem _ hx)) fun w hw => ?_⟩ ?_)
      · rw [wsz_cons, wsz_cons, wsz_cons]; dsimp only; omega
      · refine fun R => En.perm (A := .tree (some a) 0 r :: .tree (some a) 0 l :: .cell a ⟨0, 0, d, cc, gE d l.mx r.mx, l.root, r.root, p⟩ :: TS ws (V ++ R)) ?_ (((TS_perm ws _ (V ++ R)).cons _).cons _)
        exact fun P h' => p_fr [2, 1, 0] rfl (p_fold0 rfl rfl rfl (h.hE R P h'))
      · rw [← h.hf, List.append_assoc]
        show fs ++ (a :: (pr r ++ (pr l ++ ws.flatMap fun w => pr w.2))) = fs ++ ((a :: (pr r ++ pr l)) ++ ws.flatMap fun w => pr w.2)
        rw [List.cons_append, List.append_assoc]
      · rcases List.mem_cons.mp hw with rfl | hw
        · exact ⟨h1 _ List.mem_cons_self, h2 _ (List.mem_cons_of_mem _ List.mem_cons_self), h2 _ List.mem_cons_self⟩
        · exact h2 w (List.mem_cons_of_mem _ (List.mem_cons_of_mem _ hw))
      · rw [wsz_cons, wsz_cons]; dsimp only at hw ⊢; omega
end
end
section
theorem keyE (k : Int) (v : AV) (i : Int) : ((fun p : Int × AV => decide (p.1 = i)) ∘ fun p => if p.1 = k then (p.1, v) else p) = fun p => decide (p.1 = i) := by
  funext p; show decide ((if p.1 = k then (p.1, v) else p).1 = i) = _; split <;> rfl
theorem getE_put (es : Es) (k : Int) (v : AV) (i : Int) : getE (putE es k v) i = if i = k then some v else getE es i := by
  unfold getE putE
  split
  · rename_i h
    rw [List.find?_map, keyE]
    cases q : es.find? fun p => decide (p.1 = i) with
    | none =>
      split
      · rename_i e; subst e
        obtain ⟨x, hx, h⟩ := List.any_eq_true.mp h
        exact absurd h (List.find?_eq_none.mp q x hx)
      · rfl
    | some x =>
      have hx : x.1 = i := of_decide_eq_true (List.find?_some (p := fun p : Int × AV => decide (p.1 = i)) q)
      subst hx
      show some (if x.1 = k then (x.1, v) else x).2 = _
      split <;> rfl
  · rename_i h
    rw [List.find?_append]
    cases q : es.find? fun p => decide (p.1 = i) with
    | none =>
      by_cases e : i = k
      · subst e; rw [if_pos rfl]; rw [Option.none_or, List.find?_cons, decide_eq_true (show (i, v).1 = i from rfl)]; rfl
      · rw [if_neg e]; rw [Option.none_or, List.find?_cons, decide_eq_false (show ¬ (k, v).1 = i from fun h => e h.symm)]; rfl
    | some x =>
      have hx : x.1 = i := of_decide_eq_true (List.find?_some (p := fun p : Int × AV => decide (p.1 = i)) q)
      rw [if_neg]
      · rfl
      · rintro rfl
        exact h (List.any_eq_true.mpr ⟨x, List.mem_of_find?_eq_some q, decide_eq_true hx⟩)
section
variable {F : Fc} {X : Xc} {L L' : List At} {c : Cst} {k : Nat} {Q : AV → Sto → Prop} {P : Sto → Prop} {m : MS} {code : Code} {ks : List KI} {st : List AV} {vs : Vs} {f : Fld} {a b : Addr} {r r' : Rc} {v w : AV} {i j : Nat}
theorem p_rdM (hg : m.go = ⟨.ga f code, ks, .ref a :: st, vs⟩) (hi : At.cell a r ∈ L) (hv : r.get f = some v) (H : Post F X L (Run c k ⟨code, ks, v :: st, vs⟩ Q)) : Post F X L (Run c k m Q) :=
  let ⟨i, e⟩ := List.getElem?_of_mem hi
  p_rd i hg e hv H
theorem p_sameM (hg : m.go = ⟨.cmp .IsNot code, ks, .ref a :: .ref a :: st, vs⟩) (hi : At.cell a r ∈ L) (H : Post F X L (Run c k ⟨code, ks, .bool false :: st, vs⟩ Q)) : Post F X L (Run c k m Q) :=
  let ⟨i, e⟩ := List.getElem?_of_mem hi
  Post.go hg fun S h => ⟨false, by have := h.isN e rfl; rw [Sat.isnotRef this this, decide_eq_true rfl]; rfl, H S h⟩
theorem p_si (i : Nat) {es : Es} {n : Int} (hg : m.go = ⟨.si code, ks, .int n :: .ref a :: w :: st, vs⟩) (hi : L[i]? = some (.dt a es)) (hr : rep i [.dt a (putE es n w)] L = some L') (hl : es.length < 1000) (H : Post F X L' (Run c k ⟨code, ks, st, vs⟩ Q)) : Post F X L (Run c k m Q) :=
  Post.go hg fun S h => ⟨S.setDt a (putE es n w), .inr ⟨_, _, _, rfl, rfl, h.dtAt hi, hl, rfl⟩, H _ (h.rep hi hr fun _ k => k.wrDt _)⟩
theorem p_forJ {l : Addr} {i : Nat} {cb : Code} {xs : List AV} (hg : m.go = ⟨.forl i cb code, ks, [.ref l], vs⟩) (hx : L[j]? = some (.ls l xs))
    (H : ∀ J : List AV → Vs → Sto → Prop, (∀ v rest vs vs' X L, (At.ls l xs) ∈ L → vs.put i v = some vs' → Post F X L (Run c k ⟨cb, .lp (J rest) :: ks, [], vs'⟩ Q) → Post F X L (J (v :: rest) vs)) →
      (∀ vs X L, (At.ls l xs) ∈ L → Post F X L (Run c k ⟨code, ks, [], vs⟩ Q) → Post F X L (J [] vs)) → Post F X L (J xs vs)) : Post F X L (Run c k m Q) := by
  have lst : ∀ {X L}, At.ls l xs ∈ L → ∀ {S}, Sat F X L S → S.lst l = some xs := fun h _ s => lsLst (s.ok _ h).1
  exact Post.go hg fun S s => ⟨l, xs, rfl, lst (List.mem_of_getElem? hx) s, H (fun rest vs S => forD (fun K' vs S => den c k cb Q K' [] vs S) (fun S => S.lst l = some xs) i (fun vs S => den c k code Q (denKs c k Q ks) [] vs S) rest vs S)
    (fun v rest vs vs' X L hm hp h S s => ⟨lst hm s, vs', hp, h S s⟩) (fun vs X L hm h S s => ⟨lst hm s, h S s⟩) S s⟩
local macro_rules | `(tactic| walk_at "m") => `(tactic| first
  | (apply p_rdM; (focus exact rfl); (focus with_reducible assumption); (focus exact rfl))
  | (apply p_sameM; (focus exact rfl); (focus with_reducible assumption))
  | walk_at "q")
local macro_rules | `(tactic| walk_at "mm") => `(tactic| repeat walk_at "m")
theorem Flat.mono {V W : List At} (h : ∀ x ∈ V, x ∈ W) : ∀ {t : T} {p : Option Addr}, Flat V p t → Flat W p t
  | .nil, _, _ => trivial
  | .node .., _, ⟨h1, h2, h3⟩ => ⟨h _ h1, Flat.mono h h2, Flat.mono h h3⟩
noncomputable def Ht (es : Es) : T → Nat → Prop
  | .nil, n => n = 0
  | .node _ _ d _ _, n => getE es d.num = some (.int n)
theorem mx0 (x y : Int) : max (x - 0) (y - 0 + 0) = max x y - 0 := by rw [Int.sub_zero, Int.sub_zero, Int.sub_zero, Int.add_zero]
theorem mx1 (x y z : Int) : max (max (x - 0) (y - 0 + 0)) (z - 0 + 0) = max (max x y) z - 0 := by rw [mx0]; exact mx0 (max x y) z
theorem greatest_endM {d : D} {cc : Bool} {l t : T} {p : Option Addr} (ma : At.cell a ⟨0, 0, d, cc, gE d l.mx t.mx, l.root, t.root, p⟩ ∈ L) (hl : Flat L (some a) l) (ht : Flat L (some a) t)
    (H : Post F X L (Q (.int (gE d l.mx t.mx - 0)))) : Post F X L (CW c (k + 1) (.ref 77) [.ref a] Q) := by
  refine Post.fn f77 rfl ?_
  walk_at "mm"
  cases l with
  | nil =>
    cases t with
    | nil => walk_at "mm"; exact H
    | node tl ta td tc tr =>
      have mt := ht.1
      walk_at "mm"
      refine Post.max ?_
      walk_at "mm"
      exact Post.int (mx0 ..) H
  | node ll la ld lc lr =>
    have ml := hl.1
    cases t with
    | nil =>
      walk_at "mm"
      refine Post.max ?_
      walk_at "mm"
      exact Post.int (mx0 ..) H
    | node tl ta td tc tr =>
      have mt := ht.1
      walk_at "mm"
      refine Post.max ?_
      walk_at "mm"
      refine Post.max ?_
      walk_at "mm"
      exact Post.int (mx1 ..) H
noncomputable def c236t : Code := .ld 2 <| .cst (.int 0) <| .cmp .Lt <| .br (.cst (.bool true) <| .done) (.ld 2 <| .ld 3 <| .cmp .NotEq <| .br (.cst (.bool true) <| .done) (.cst (.bool false) <| .done) <| .done) <| .br (.cst (.int 1) <| .neg <| .ret) .done <| .ld 0 <| .ga .red <| .tb <| .br (.ld 2 <| .done) (.ld 2 <| .cst (.int 1) <| .bin .Add <| .done) <| .ret
theorem black_height_ok {h : Addr} {es : Es} {d : D} {cc : Bool} {l t : T} {p : Option Addr} {n nl : Nat} (ma : At.cell a ⟨0, 0, d, cc, gE d l.mx t.mx, l.root, t.root, p⟩ ∈ L) (hl : Flat L (some a) l) (ht : Flat L (some a) t)
    (el : Ht es l nl) (et : Ht es t nl) (hn : n = if cc = true then nl else nl + 1)
    (H : Post F X (.dt h es :: L) (Q (.int n))) : Post F X (.dt h es :: L) (CW c (k + 1) (.ref 236) [.ref a, .ref h] Q) := by
  have ma := List.mem_cons_of_mem (At.dt h es) ma
  have hlt : ((nl : Int) < 0) = False := eq_false (Int.not_lt.mpr (Int.natCast_nonneg nl))
  refine Post.fn f236 rfl ?_
  walk_at "mm"
  have fin : ∀ vl vt, vl = AV.int nl → vt = AV.int nl → Post F X (.dt h es :: L) (Run c k (MS.go ⟨c236t, [], [], .s (some (.ref a)) (.s (some (.ref h)) (.s (some vl) (.s (some vt) .nil)))⟩) Q) := by
    rintro _ _ rfl rfl
    refine p_cmp (t := false) rfl (fun _ => congrArg some (decide_eq_false (Int.not_lt.mpr (Int.natCast_nonneg nl)))) ?_
    walk_at "mm"
    refine p_cmp (t := false) rfl (fun _ => congrArg some (decide_eq_false fun h => h rfl)) ?_
    walk_at "mm"
    refine p_br rfl (fun e => ?_) (fun e => ?_)
    · walk_at "mm"; rw [hn, e] at H; exact H
    · walk_at "mm"; rw [hn, e] at H; exact H
  cases l with
  | nil =>
    cases el
    cases t with
    | nil => walk_at "m"; walk_at "m"; walk_at "m"; exact Post.go' (m' := MS.go ⟨c236t, [], [], .s (some (.ref a)) (.s (some (.ref h)) (.s (some _) (.s (some _) .nil)))⟩) rfl (fin _ _ rfl rfl)
    | node tl ta td tc tr =>
      have mt := List.mem_cons_of_mem (At.dt h es) ht.1
      walk_at "mm"
      refine p_chkD 0 rfl at0 rfl ?_
      walk_at "mm"
      refine p_dget 0 rfl at0 ?_
      rw [et]
      exact Post.go' (m' := MS.go ⟨c236t, [], [], .s (some (.ref a)) (.s (some (.ref h)) (.s (some _) (.s (some _) .nil)))⟩) rfl (fin _ _ rfl rfl)
  | node ll la ld lc lr =>
    have ml := List.mem_cons_of_mem (At.dt h es) hl.1
    walk_at "mm"
    refine p_chkD 0 rfl at0 rfl ?_
    walk_at "mm"
    refine p_dget 0 rfl at0 ?_
    rw [show getE es ld.num = _ from el]
    walk_at "mm"
    cases t with
    | nil => cases et; walk_at "m"; exact Post.go' (m' := MS.go ⟨c236t, [], [], .s (some (.ref a)) (.s (some (.ref h)) (.s (some _) (.s (some _) .nil)))⟩) rfl (fin _ _ rfl rfl)
    | node tl ta td tc tr =>
      have mt := List.mem_cons_of_mem (At.dt h es) ht.1
      walk_at "mm"
      refine p_chkD 0 rfl at0 rfl ?_
      walk_at "mm"
      refine p_dget 0 rfl at0 ?_
      rw [show getE es td.num = _ from et]
      exact Post.go' (m' := MS.go ⟨c236t, [], [], .s (some (.ref a)) (.s (some (.ref h)) (.s (some _) (.s (some _) .nil)))⟩) rfl (fin _ _ rfl rfl)
end
end
section
local macro_rules | `(tactic| walk_at "m") => `(tactic| first
  | (apply p_rdM; (focus exact rfl); (focus with_reducible assumption); (focus exact rfl))
  | (apply p_sameM; (focus exact rfl); (focus with_reducible assumption))
  | walk_at "q")
local macro_rules | `(tactic| walk_at "mm") => `(tactic| repeat walk_at "m")
noncomputable def c250t : Code := .ld 0 <| .ga .lim <| .ld 0 <| .call (.ref 77) 1 <| .cmp .NotEq <| .br (.cst (.str "limit") <| .done) (.cst .none <| .done) <| .ret
inductive Ms (d : D) (c : Bool) (lo : Bool) : T → Prop
  | nil : Ms d c lo .nil
  | node (l : T) (a : Addr) (e : D) (cc : Bool) (r : T) (h : c = true → cc = false) (h1 : lo = true → e.b ≤ d.b) (h2 : lo = false → d.b ≤ e.b) : Ms d c lo (.node l a e cc r)
theorem subLe {x y : Int} (h : x ≤ y) : decide (y - 0 < x - 0) = false := decide_eq_false (by omega)
section
variable {F : Fc} {X : Xc} {L L' : List At} {c : Cst} {k : Nat} {Q : AV → Sto → Prop} {a : Addr}
theorem shape_error_ok {d : D} {cc : Bool} {l t : T} {p : Option Addr} (ma : At.cell a ⟨0, 0, d, cc, gE d l.mx t.mx, l.root, t.root, p⟩ ∈ L) (hl : Flat L (some a) l) (ht : Flat L (some a) t)
    (el : Ms d cc true l) (et : Ms d cc false t)
    (H : Post F X L (Q .none)) : Post F X L (CW c (k + 2) (.ref 250) [.ref a] Q) := by
  refine Post.fn f250 rfl ?_
  walk_at "mm"
  have fin : ∀ v, Post F X L (Run c (k + 1) (MS.go ⟨c250t, [], [], .s (some (.ref a)) (.s v .nil)⟩) Q) := by
    intro v
    walk_at "mm"
    refine greatest_endM ma hl ht (p_cmp (t := false) rfl (fun _ => congrArg some (decide_eq_false fun h => h rfl)) ?_)
    walk_at "mm"
    exact H
  cases el with
  | nil =>
    cases et with
    | nil => walk_at "m"; walk_at "m"; walk_at "m"; walk_at "m"; walk_at "m"; walk_at "m"; exact Post.go' (m' := MS.go ⟨c250t, [], [], .s (some (.ref a)) (.s _ .nil)⟩) rfl (fin _)
    | node tl ta td tc tr h h1 h2 =>
      have mt := ht.1
      walk_at "mm"
      refine p_br rfl (fun e => ?_) (fun e => ?_)
      · rw [h e] at mt
        walk_at "mm"
        refine p_cmp rfl (fun _ => congrArg some (subLe (h2 rfl))) ?_
        exact Post.go' (m' := MS.go ⟨c250t, [], [], .s (some (.ref a)) (.s _ .nil)⟩) rfl (fin _)
      · walk_at "mm"
        refine p_cmp rfl (fun _ => congrArg some (subLe (h2 rfl))) ?_
        exact Post.go' (m' := MS.go ⟨c250t, [], [], .s (some (.ref a)) (.s _ .nil)⟩) rfl (fin _)
  | node ll la ld lc lr h h1 h2 =>
    have ml := hl.1
    cases et with
    | nil =>
      walk_at "mm"
      refine p_br rfl (fun e => ?_) (fun e => ?_)
      · rw [h e] at ml
        walk_at "mm"
        refine p_cmp rfl (fun _ => congrArg some (subLe (h1 rfl))) ?_
        walk_at "m"; walk_at "m"
        exact Post.go' (m' := MS.go ⟨c250t, [], [], .s (some (.ref a)) (.s _ .nil)⟩) rfl (fin _)
      · walk_at "mm"
        refine p_cmp rfl (fun _ => congrArg some (subLe (h1 rfl))) ?_
        walk_at "m"; walk_at "m"
        exact Post.go' (m' := MS.go ⟨c250t, [], [], .s (some (.ref a)) (.s _ .nil)⟩) rfl (fin _)
    | node tl ta td tc tr h' h1' h2' =>
      have mt := ht.1
      walk_at "mm"
      refine p_br rfl (fun e => ?_) (fun e => ?_)
      · rw [h e] at ml
        rw [h' e] at mt
        subst e
        walk_at "mm"
        refine p_cmp rfl (fun _ => congrArg some (subLe (h1 rfl))) ?_
        walk_at "mm"
        refine p_cmp rfl (fun _ => congrArg some (subLe (h2' rfl))) ?_
        exact Post.go' (m' := MS.go ⟨c250t, [], [], .s (some (.ref a)) (.s _ .nil)⟩) rfl (fin _)
      · subst e
        walk_at "mm"
        refine p_cmp rfl (fun _ => congrArg some (subLe (h1 rfl))) ?_
        walk_at "mm"
        refine p_cmp rfl (fun _ => congrArg some (subLe (h2' rfl))) ?_
        exact Post.go' (m' := MS.go ⟨c250t, [], [], .s (some (.ref a)) (.s _ .nil)⟩) rfl (fin _)
end
end
section
local macro_rules | `(tactic| walk_at "m") => `(tactic| first
  | (apply p_rdM; (focus exact rfl); (focus with_reducible assumption); (focus exact rfl))
  | (apply p_sameM; (focus exact rfl); (focus with_reducible assumption))
  | walk_at "q")
local macro_rules | `(tactic| walk_at "mm") => `(tactic| repeat walk_at "m")
noncomputable def T.nm (t : T) : List Int := t.io.map fun x => x.2.num
noncomputable def Gd : T → Nat → Prop
  | .nil, n => n = 0
  | .node l _ d c r, n => ∃ m, (n = if c = true then m else m + 1) ∧ Ms d c true l ∧ Ms d c false r ∧ Gd l m ∧ Gd r m ∧ (∀ i ∈ l.nm, i ∉ r.nm) ∧ d.num ∉ l.nm ∧ d.num ∉ r.nm
theorem nm_node (l : T) (a : Addr) (d : D) (c : Bool) (r : T) : (T.node l a d c r).nm = l.nm ++ d.num :: r.nm := by
  show (l.io ++ (a, d) :: r.io).map _ = _
  rw [List.map_append, List.map_cons]; rfl
theorem gd_of : ∀ {t : T} {n : Nat}, t.rb n → Srt t.io → t.nm.Nodup → Gd t n
  | .nil, _, h, _, _ => h
  | .node l a d c r, n, h, hs, hn => by
    rw [nm_node] at hn
    obtain ⟨n1, n2, n3⟩ := List.nodup_append.mp hn
    obtain ⟨n4, n5⟩ := List.nodup_cons.mp n2
    obtain ⟨s1, s2, s3⟩ := List.pairwise_append.mp (show Srt (l.io ++ (a, d) :: r.io) from hs)
    obtain ⟨s4, s5⟩ := List.pairwise_cons.mp s2
    have main : ∀ m, (n = if c = true then m else m + 1) → (c = true → l.isRed = false) → (c = true → r.isRed = false) → l.rb m → r.rb m → Gd (.node l a d c r) n := fun m e q1 q2 h1 h2 => by
      refine ⟨m, e, ?_, ?_, gd_of h1 s1 n1, gd_of h2 s5 n5, fun i hi k => n3 i hi i (List.mem_cons_of_mem _ k) rfl, fun k => n3 _ k _ List.mem_cons_self rfl, n4⟩
      · cases l with
        | nil => exact .nil
        | node ll la ld lc lr => exact .node _ _ _ _ _ q1 (fun _ => s3 (la, ld) (List.mem_append_right _ List.mem_cons_self) (a, d) List.mem_cons_self) nofun
      · cases r with
        | nil => exact .nil
        | node ll la ld lc lr => exact .node _ _ _ _ _ q2 nofun fun _ => s4 (la, ld) (List.mem_append_right _ List.mem_cons_self)
    cases c with
    | true => exact main n rfl (fun _ => h.1) (fun _ => h.2.1) h.2.2.1 h.2.2.2
    | false => obtain ⟨m, rfl, h1, h2⟩ := h; exact main m rfl nofun nofun h1 h2
theorem Ht.keep {es es' : Es} : ∀ {t : T} {n : Nat}, Ht es t n → (∀ i ∈ t.nm, getE es' i = getE es i) → Ht es' t n
  | .nil, _, h, _ => h
  | .node l a d c r, _, h, k => (k d.num (by rw [nm_node]; exact List.mem_append_right _ List.mem_cons_self)).trans h
section
variable {F : Fc} {X : Xc} {L L' : List At} {c : Cst} {k : Nat} {Q : AV → Sto → Prop} {a : Addr}
noncomputable def ovV (tr h nd : Addr) (va vb : Option AV) : Vs := .s (some (.ref tr)) (.s (some (.ref h)) (.s (some (.ref nd)) (.s va (.s vb .nil))))
noncomputable def c257b : Code := .ld 3 <| .call (.ref 250) 1 <| .sti 4 <| .ld 4 <| .cst .none <| .cmp .IsNot <| .br (.ld 4 <| .ret) .done <| .ld 3 <| .ld 1 <| .call (.ref 236) 2 <| .ld 1 <| .ld 3 <| .ga .num <| .si <| .ld 1 <| .ld 3 <| .ga .num <| .sub <| .cst (.int 0) <| .cmp .Lt <| .br (.cst (.str "height") <| .ret) .done <| .done
theorem shape_loop {tr h nd : Addr} {xs : List AV} {J : List AV → Vs → Sto → Prop} {M : List At} (hx : At.ls nd xs ∈ M)
    (hJ : ∀ v rest vs vs' X L, (At.ls nd xs) ∈ L → vs.put 3 v = some vs' → Post F X L (Run c (k + 2) ⟨c257b, [.lp (J rest)], [], vs'⟩ Q) → Post F X L (J (v :: rest) vs)) :
    ∀ {t : T} {p : Option Addr} {n : Nat}, Flat M p t → Gd t n → ∀ {es : Es} {rest : List AV} {va vb : Option AV}, es.length + (pr t).length ≤ 900 →
      (∀ es' va vb, Ht es' t n → (∀ i, i ∉ t.nm → getE es' i = getE es i) → es'.length ≤ es.length + (pr t).length → Post F X (.dt h es' :: M) (J rest (ovV tr h nd va vb))) →
      Post F X (.dt h es :: M) (J (refs (pr t).reverse ++ rest) (ovV tr h nd va vb)) := by
  intro t
  induction t with
  | nil => exact fun _ e _ _ _ _ _ H => H _ _ _ e (fun _ _ => rfl) (Nat.le_refl _)
  | node l a d cc r ihl ihr =>
    intro p n hf hg es rest va vb hl H
    obtain ⟨m, en, ml, mr, gl, gr, dj, dl, dr⟩ := hg
    have e : refs (pr (.node l a d cc r)).reverse ++ rest = refs (pr l).reverse ++ (refs (pr r).reverse ++ (.ref a :: rest)) := by
      show refs (a :: (pr r ++ pr l)).reverse ++ rest = _
      simp only [refs, List.reverse_cons, List.reverse_append, List.map_append, List.append_assoc, List.map_cons, List.map_nil, List.cons_append, List.nil_append]
    rw [pr_len] at hl H
    rw [e]
    refine ihl hf.2.1 gl (by omega) fun es1 va vb h1 k1 l1 => ?_
    refine ihr hf.2.2 gr (by omega) fun es2 va vb h2 k2 l2 => ?_
    have h1' := h1.keep fun i hi => k2 i (dj i hi)
    refine hJ _ _ _ (ovV tr h nd (some (.ref a)) vb) _ _ (List.mem_cons_of_mem _ hx) rfl ?_
    walk_at "q"
    refine shape_error_ok (List.mem_cons_of_mem _ hf.1) (hf.2.1.mono fun x hx => List.mem_cons_of_mem _ hx) (hf.2.2.mono fun x hx => List.mem_cons_of_mem _ hx) ml mr ?_
    walk_at "qq"
    refine black_height_ok hf.1 hf.2.1 hf.2.2 h1' h2 en ?_
    refine p_rdM rfl (List.mem_cons_of_mem _ hf.1) rfl (p_si 0 rfl at0 rfl (by omega) ?_)
    refine p_rdM rfl (List.mem_cons_of_mem _ hf.1) rfl (p_sub 0 rfl at0 ((getE_put ..).trans (if_pos rfl)) ?_)
    refine p_cmp (t := false) rfl (fun _ => congrArg some (decide_eq_false (Int.not_lt.mpr (Int.natCast_nonneg n)))) (p_lp rfl ?_)
    refine H _ _ _ ((getE_put ..).trans (if_pos rfl)) (fun i hi => ?_) ?_
    · rw [nm_node] at hi
      have i1 : i ∉ l.nm := fun k => hi (List.mem_append_left _ k)
      have i2 : i ∉ r.nm := fun k => hi (List.mem_append_right _ (List.mem_cons_of_mem _ k))
      have i3 : i ≠ d.num := fun k => hi (List.mem_append_right _ (k ▸ List.mem_cons_self))
      rw [getE_put, if_neg i3, k2 i i2, k1 i i1]
    · exact Nat.le_trans (putE_length ..) (by omega)
theorem overlay_error_ok {t0 : T} {M : Option (Option Int)} {K n : Int} {R : List At} {b : Nat} (hz : (pr t0).length < 400) (hr : t0.isRed = false) (hb : t0.rb b) (hs : Srt t0.io) (hd : t0.nm.Nodup) (hn : n = (pr t0).length)
    (H : Post F ⟨t0.root, M, 0, n, []⟩ (.tree none 0 t0 :: R) (Q .none)) :
    Post F ⟨t0.root, M, K, n, []⟩ (.tree none K t0 :: R) (CW c (k + 3) (.ref 257) [.ref F.tr] Q) := by
  refine Post.fn f257 rfl (p_mkd rfl fun h => ?_)
  walk_at "q"
  refine p_fr [1] rfl (from_below_ok hz fun V fd hF hE => ?_)
  walk_at "qq"
  refine Post.len _ at0 ?_
  walk_at "qq"
  refine p_cmp (t := false) rfl (fun _ => congrArg some (decide_eq_false fun h => h (by rw [hn, List.length_map, List.length_reverse]))) ?_
  have eP : (At.ls fd (refs (pr t0).reverse) :: (V ++ .dt h [] :: R)).Perm (.dt h [] :: .ls fd (refs (pr t0).reverse) :: (V ++ R)) :=
    (List.perm_middle.cons _).trans (.swap ..)
  refine p_perm eP (p_forJ rfl at1 fun J hJ hN => ?_)
  have hm : At.ls fd (refs (pr t0).reverse) ∈ At.ls fd (refs (pr t0).reverse) :: (V ++ R) := List.mem_cons_self
  have hF' : Flat (.ls fd (refs (pr t0).reverse) :: (V ++ R)) none t0 := hF.mono fun x hx => List.mem_cons_of_mem _ (List.mem_append_left _ hx)
  have key := shape_loop (F := F) (X := ⟨t0.root, M, 0, n, []⟩) (c := c) (k := k) (Q := Q) (tr := F.tr) (h := h) hm hJ (n := b) hF' (gd_of hb hs hd) (es := []) (rest := []) (va := none) (vb := none) (by rw [List.length_nil]; omega)
  rw [List.append_nil] at key
  refine key fun es' va vb _ _ _ => hN _ _ _ (List.mem_cons_of_mem _ hm) ?_
  clear key
  walk_at "q"
  have fin := p_drop (x := .dt h es') (p_drop (x := .ls fd (refs (pr t0).reverse)) (hE R _ H))
  cases t0 with
  | nil => walk_at "qq"; exact fin
  | node l a d cc r =>
    have hr : cc = false := hr
    subst hr
    have ma : At.cell a ⟨0, 0, d, false, gE d l.mx r.mx, l.root, r.root, none⟩ ∈ (.dt h es' :: .ls fd (refs (pr (.node l a d false r)).reverse) :: (V ++ R)) := List.mem_cons_of_mem _ hF'.1
    walk_at "mm"
    exact fin
end
end
section
section
variable {c : Cst} {k : Nat} {Q : AV → Sto → Prop} {S S' : Sto} {m : MS} {code : Code} {ks : List KI} {st st' as : List AV} {vs vs' : Vs} {v w o i : AV} {a l : Addr} {f : Fld} {n : Nat} {xs ys : List AV} {es : Es}
theorem Run.go {m' : MS} (hg : m.go = m') (H : Run c k m' Q S) : Run c k m Q S := by subst hg; exact go_ok (f := true) (n := 300) H
theorem Run.goN {m' : MS} (n : Nat) (hg : Mine.go true n code ks st vs = m') (H : Run c k m' Q S) : Run c k ⟨code, ks, st, vs⟩ Q S := by subst hg; exact go_ok (f := true) (n := n) H
theorem r_gf {r : NodeRec} (hg : m.go = ⟨.ga f code, ks, .ref a :: st, vs⟩) (h : S.nd a = some r) (hf : isN f = true) (H : Run c k ⟨code, ks, r.get f :: st, vs⟩ Q S) : Run c k m Q S :=
  Run.go hg ⟨_, by unfold Sto.getA; dsimp only; rw [h]; exact fs_get r hf, H⟩
theorem r_sf {r r' : NodeRec} (hg : m.go = ⟨.sa f code, ks, .ref a :: w :: st, vs⟩) (h : S.nd a = some r) (hv : r.put f w = some r') (H : Run c k ⟨code, ks, st, vs⟩ Q (S.setNd a r')) : Run c k m Q S :=
  Run.go hg ⟨_, by unfold Sto.setA; dsimp only; rw [h]; dsimp only; rw [← put_set, hv]; rfl, H⟩
theorem r_raw {x C : Addr} {fs : Fs} (hg : m.go = ⟨.sa f code, ks, .ref x :: w :: st, vs⟩) (fr : S.Free x) (h4 : okField C f.name = true) (h5 : fs.length < 100) (H : Run c k ⟨code, ks, st, vs⟩ Q (S.setRaw x C (setL f.name w fs))) : Run c k m Q (S.setRaw x C fs) :=
  Run.go hg ⟨_, set_raw fr.nd fr.tr (upd_same ..) h4 h5, by rw [setRaw_setRaw]; exact H⟩
theorem r_cmp {op : CmpOp} {t : Bool} (hg : m.go = ⟨.cmp op code, ks, w :: v :: st, vs⟩) (h : S.cmp op v w = some t) (H : Run c k ⟨code, ks, .bool t :: st, vs⟩ Q S) : Run c k m Q S := Run.go hg ⟨t, h, H⟩
theorem r_call {g : Value} (hg : m.go = ⟨.call g n code, ks, st, vs⟩) (hp : popN n st [] = some (as, st')) (H : CW c k g as (fun v S' => Run c k ⟨code, ks, v :: st', vs⟩ Q S') S) : Run c k m Q S := Run.go hg ⟨_, _, hp, H⟩
theorem r_br {x y : Code} {b : Bool} (hg : m.go0 = ⟨.br x y code, ks, .bool b :: st, vs⟩) (h1 : b = true → Run c k ⟨x, .sg code :: ks, st, vs⟩ Q S) (h2 : b = false → Run c k ⟨y, .sg code :: ks, st, vs⟩ Q S) : Run c k m Q S := go_ok (f := false) (n := 300) (by show Run c k m.go0 Q S; rw [hg]; exact ⟨_, rfl, h1, h2⟩)
theorem r_brd {p : Prop} [Decidable p] {op : CmpOp} {x y : Code} (hg : m.go = ⟨.cmp op (.br x y code), ks, w :: v :: st, vs⟩) (h : S.cmp op v w = some (decide p)) (h1 : p → Run c k ⟨x, .sg code :: ks, st, vs⟩ Q S) (h2 : ¬p → Run c k ⟨y, .sg code :: ks, st, vs⟩ Q S) : Run c k m Q S :=
  Run.go hg ⟨_, h, _, rfl, fun e => h1 (of_decide_eq_true e), fun e => h2 (of_decide_eq_false e)⟩
theorem r_mkl (hg : m.go = ⟨.mkl n code, ks, st, vs⟩) (hp : popN n st [] = some (as, st')) (H : ∀ l, S.Free l → Run c k ⟨code, ks, .ref l :: st', vs⟩ Q (S.setLs l as)) : Run c k m Q S := Run.go hg ⟨_, _, hp, H⟩
theorem r_mkt (hg : m.go = ⟨.mkt n code, ks, st, vs⟩) (hp : popN n st [] = some (as, st')) (H : ∀ l, S.Free l → Run c k ⟨code, ks, .ref l :: st', vs⟩ Q (S.setTp l as)) : Run c k m Q S := Run.go hg ⟨_, _, hp, H⟩
theorem r_mkd (hg : m.go = ⟨.mkd code, ks, st, vs⟩) (H : ∀ l, S.Free l → Run c k ⟨code, ks, .ref l :: st, vs⟩ Q (S.setDt l [])) : Run c k m Q S := Run.go hg H
theorem r_sub (hg : m.go = ⟨.sub code, ks, i :: o :: st, vs⟩) (h : S.item o i = some v) (H : Run c k ⟨code, ks, v :: st, vs⟩ Q S) : Run c k m Q S := Run.go hg ⟨_, .inl h, H⟩
theorem r_subD {j : Int} (hg : m.go = ⟨.sub code, ks, .int j :: .ref a :: st, vs⟩) (h : S.dt a = some es) (hv : getE es j = some v) (H : Run c k ⟨code, ks, v :: st, vs⟩ Q S) : Run c k m Q S := Run.go hg ⟨_, .inr (.inr ⟨_, _, _, rfl, rfl, h, hv⟩), H⟩
theorem r_subT {j : Nat} (hg : m.go = ⟨.sub code, ks, .int j :: .ref a :: st, vs⟩) (h : S.tp a = some xs) (hv : xs[j]? = some v) (H : Run c k ⟨code, ks, v :: st, vs⟩ Q S) : Run c k m Q S := Run.go hg ⟨_, .inr (.inl ⟨_, _, _, rfl, rfl, h, hv⟩), H⟩
theorem r_si (hg : m.go = ⟨.si code, ks, i :: o :: w :: st, vs⟩) (h : S.setItem o i w = some S') (H : Run c k ⟨code, ks, st, vs⟩ Q S') : Run c k m Q S := Run.go hg ⟨_, .inl h, H⟩
theorem r_siD {j : Int} (hg : m.go = ⟨.si code, ks, .int j :: .ref a :: w :: st, vs⟩) (h : S.dt a = some es) (hz : es.length < 1000) (H : Run c k ⟨code, ks, st, vs⟩ Q (S.setDt a (putE es j w))) : Run c k m Q S := Run.go hg ⟨_, .inr ⟨_, _, _, rfl, rfl, h, hz, rfl⟩, H⟩
theorem r_mchk {nm : Str} (hg : m.go = ⟨.mchk false nm code, ks, .ref a :: st, vs⟩) (h : S.ls a = some xs) (hi : (lsId nm).isSome = true) (H : Run c k ⟨code, ks, .ref a :: st, vs⟩ Q S) : Run c k m Q S := Run.go hg ⟨_, rfl, ⟨⟨_, h⟩, hi⟩, H⟩
theorem r_mchkD {nm : Str} (hg : m.go = ⟨.mchk true nm code, ks, .ref a :: st, vs⟩) (h : S.dt a = some es) (hi : (dtId nm).isSome = true) (H : Run c k ⟨code, ks, .ref a :: st, vs⟩ Q S) : Run c k m Q S := Run.go hg ⟨_, rfl, ⟨⟨_, h⟩, hi⟩, H⟩
theorem r_app (hg : m.go = ⟨.meth false "append" 1 code, ks, v :: .ref a :: st, vs⟩) (h : S.ls a = some xs) (hz : xs.length < 1000) (H : Run c k ⟨code, ks, .none :: st, vs⟩ Q (S.setLs a (xs ++ [v]))) : Run c k m Q S := Run.go hg ⟨_, _, _, rfl, _, h, _, rfl, hz, H⟩
theorem r_pop0 (hg : m.go = ⟨.meth false "pop" 1 code, ks, .int 0 :: .ref a :: st, vs⟩) (h : S.ls a = some (v :: xs)) (H : Run c k ⟨code, ks, v :: st, vs⟩ Q (S.setLs a xs)) : Run c k m Q S := Run.go hg ⟨_, _, _, rfl, _, h, .inr ⟨rfl, _, _, rfl, H⟩⟩
theorem r_dpop {j : Int} (hg : m.go = ⟨.meth true "pop" 1 code, ks, .int j :: .ref a :: st, vs⟩) (h : S.dt a = some es) (hv : getE es j = some v) (H : Run c k ⟨code, ks, v :: st, vs⟩ Q (S.setDt a (delE es j))) : Run c k m Q S := Run.go hg ⟨_, _, _, rfl, _, h, _, _, rfl, hv, H⟩
theorem r_bin {op : Operator} {x y q : Int} {j : Nat} (hv : vs.get j = some (.int y)) (h : binI op x y = some q) (H : Run c k ⟨code, ks, .int q :: st, vs⟩ Q S) : Run c k ⟨.ld j (.bin op code), ks, .int x :: st, vs⟩ Q S := ⟨_, hv, _, _, _, rfl, rfl, h, H⟩
theorem r_slc {lo hi sp : Option Int} (hg : m.go = ⟨.slc lo hi sp code, ks, .ref a :: st, vs⟩) (h : S.lst a = some xs) (hs : Sliced xs lo hi sp ys) (H : ∀ l, S.Free l → Run c k ⟨code, ks, .ref l :: st, vs⟩ Q (S.setLs l ys)) : Run c k m Q S := Run.go hg ⟨_, _, _, rfl, h, hs, H⟩
theorem r_lap {b : Addr} (hg : m.go = ⟨.lap code, ks, .ref b :: .ref a :: st, vs⟩) (h1 : S.ls a = some xs) (h2 : S.ls b = some ys) (hz : xs.length + ys.length ≤ 1000) (H : ∀ D, S.Free D → Run c k ⟨code, ks, .ref D :: st, vs⟩ Q (S.setLs D (xs ++ ys))) : Run c k m Q S :=
  Run.go hg ⟨_, _, _, _, rfl, rfl, lsLst h1, lsLst h2, hz, H⟩
theorem r_dne (hg : m.go = ⟨.dne code, ks, .ref a :: st, vs⟩) (h : S.dt a = some es) (H : ∀ e, S.Free e → Run c k ⟨code, ks, .bool (!es.isEmpty) :: st, vs⟩ Q (S.setDt e [])) : Run c k m Q S := Run.go hg ⟨_, _, rfl, h, H⟩
theorem r_unp {is : List Nat} (hg : m.go = ⟨.unp is code, ks, .ref a :: st, vs⟩) (h : S.ls a = some xs) (hp : putN is xs vs = some vs') (H : Run c k ⟨code, ks, st, vs'⟩ Q S) : Run c k m Q S := Run.go hg ⟨_, _, _, rfl, h, hp, H⟩
theorem r_tas {is js : List Nat} (hg : m.go = ⟨.tas is js code, ks, st, vs⟩) (hp : popN is.length st [] = some (as, st')) (h1 : putN is as vs = some vs') (h2 : putN js as.reverse vs = some vs') (H : Run c k ⟨code, ks, st', vs'⟩ Q S) : Run c k m Q S := Run.go hg ⟨_, _, _, hp, h1, h2, H⟩
theorem r_ret (hg : m.go = ⟨.ret, ks, v :: st, vs⟩) (H : Q v S) : Run c k m Q S := Run.go hg H
theorem r_fin (hg : m.go = ⟨.done, [], st, vs⟩) (H : Q .none S) : Run c k m Q S := Run.go hg H
theorem r_lp {J : Vs → Sto → Prop} (hg : m.go = ⟨.done, .lp J :: ks, st, vs⟩) (H : J vs S) : Run c k m Q S := Run.go hg H
theorem r_kv {J : List AV → Sto → Prop} (hg : m.go = ⟨.done, .kv J :: ks, st, vs⟩) (H : J st S) : Run c k m Q S := Run.go hg H
theorem r_whl {x y : Code} (I : Nat → Vs → Sto → Prop) {n : Nat} (hg : m.go = ⟨.whl x y code, ks, [], vs⟩) (h0 : I n vs S) (turn : ∀ n vs S, I n vs S → Run c k ⟨x, .wt y code (fun vs S => ∃ n', n' < n ∧ I n' vs S) :: ks, [], vs⟩ Q S) : Run c k m Q S :=
  Run.go hg ⟨rfl, I, n, h0, turn⟩
theorem forD_ind {α : Type} {b : Code} {R : AV → Sto → Prop} {P : Sto → Prop} {j : Nat} {fin : Vs → Sto → Prop} (g : α → AV) (I : List α → List α → Vs → Sto → Prop) (hP : ∀ done rest vs S, I done rest vs S → P S)
    (step : ∀ done x rest vs S, I done (x :: rest) vs S → ∃ vs', vs.put j (g x) = some vs' ∧ ∀ J : Vs → Sto → Prop, (∀ vs S, I (done ++ [x]) rest vs S → J vs S) → den c k b R (fun _ => J) [] vs' S) :
    ∀ (rest done : List α) (vs : Vs) (S : Sto), (∀ vs S, I (done ++ rest) [] vs S → fin vs S) → I done rest vs S → forD (fun K vs S => den c k b R K [] vs S) P j fin (rest.map g) vs S
  | [], done, vs, S, hf, h => ⟨hP _ _ _ _ h, hf _ _ (by rw [List.append_nil]; exact h)⟩
  | x :: rest, done, vs, S, hf, h => by
    obtain ⟨vs', e, hs⟩ := step done x rest vs S h
    exact ⟨hP _ _ _ _ h, vs', e, hs _ fun vs S h => forD_ind g I hP step rest (done ++ [x]) vs S (by rw [List.append_assoc]; exact hf) h⟩
theorem r_forl {α : Type} {b : Code} {j : Nat} {l : Addr} {xs : List α} (g : α → AV) (I : List α → List α → Vs → Sto → Prop) (hg : m.go = ⟨.forl j b code, ks, [.ref l], vs⟩) (hP : ∀ done rest vs S, I done rest vs S → S.lst l = some (xs.map g)) (h0 : I [] xs vs S)
    (step : ∀ done x rest vs S, I done (x :: rest) vs S → ∃ vs', vs.put j (g x) = some vs' ∧ ∀ J : Vs → Sto → Prop, (∀ vs S, I (done ++ [x]) rest vs S → J vs S) → Run c k ⟨b, .lp J :: ks, [], vs'⟩ Q S)
    (fin : ∀ vs S, I xs [] vs S → Run c k ⟨code, ks, [], vs⟩ Q S) : Run c k m Q S := Run.go hg ⟨l, _, rfl, hP _ _ _ _ h0, forD_ind g I hP step xs [] vs S fin h0⟩
theorem r_frng {b : Code} {j : Nat} {n : Int} (I : List Nat → List Nat → Vs → Sto → Prop) (hg : m.go = ⟨.frng j b code, ks, [.int n], vs⟩) (hn : 0 ≤ n) (hz : n ≤ 1000) (h0 : I [] (List.range n.toNat) vs S)
    (step : ∀ done x rest vs S, I done (x :: rest) vs S → ∃ vs', vs.put j (.int (x : Nat)) = some vs' ∧ ∀ J : Vs → Sto → Prop, (∀ vs S, I (done ++ [x]) rest vs S → J vs S) → Run c k ⟨b, .lp J :: ks, [], vs'⟩ Q S)
    (fin : ∀ vs S, I (List.range n.toNat) [] vs S → Run c k ⟨code, ks, [], vs⟩ Q S) : Run c k m Q S := Run.go hg ⟨n, rfl, hn, hz, forD_ind (fun x : Nat => AV.int (x : Int)) I (fun _ _ _ _ _ => trivial) step _ [] vs S fin h0⟩
theorem cmpD_pure {β α : Type} {dt : (Bool → Sto → Prop) → Vs → Sto → Prop} {de : (AV → Sto → Prop) → Vs → Sto → Prop} {set : α → Vs → Option Vs} {P : Sto → Prop} {fin : List AV → Sto → Prop} (g : β → α) (p : β → Bool) (f : β → AV) (fr : Option α → Vs) (hset : ∀ v w, set v (fr w) = some (fr (some v))) :
    ∀ {l : List β} {w : Option α} {ys : List AV}, (∀ v ∈ l, ∀ Q : Bool → Sto → Prop, Q (p v) S → dt Q (fr (some (g v))) S) → (∀ v ∈ l, p v = true → ∀ Q : AV → Sto → Prop, Q (f v) S → de Q (fr (some (g v))) S) → P S → fin (ys ++ (l.filter p).map f) S → cmpD dt de set P fin (l.map g) (fr w) ys S
  | [], w, ys, _, _, hP, hq => ⟨hP, by rw [List.filter_nil, List.map_nil, List.append_nil] at hq; exact hq⟩
  | v :: l, w, ys, h1, h2, hP, hq => ⟨hP, _, hset _ _, h1 v List.mem_cons_self _ ⟨fun e => h2 v List.mem_cons_self e _ (cmpD_pure g p f fr hset (fun v hv => h1 v (List.mem_cons_of_mem _ hv)) (fun v hv => h2 v (List.mem_cons_of_mem _ hv)) hP (by rw [List.filter_cons_of_pos e, List.map_cons] at hq; rw [List.append_assoc]; exact hq)),
      fun e => cmpD_pure g p f fr hset (fun v hv => h1 v (List.mem_cons_of_mem _ hv)) (fun v hv => h2 v (List.mem_cons_of_mem _ hv)) hP (by rw [List.filter_cons_of_neg (by rw [e]; exact Bool.false_ne_true)] at hq; exact hq)⟩⟩
theorem r_lcp {β : Type} {j : Nat} {sel : List (Option Nat)} {t e : Code} {l : Addr} {xs : List β} (g : β → AV) (p : β → Bool) (f : β → AV) (fr : Option AV → Vs) (hg : m.go = ⟨.lcp j sel t e code, ks, .ref l :: st, vs⟩) (hl : S.lst l = some (xs.map g)) (h0 : cvs sel vs = fr none) (hset : ∀ v w, (fr w).put j v = some (fr (some v)))
    (test : ∀ v ∈ xs, ∀ J : List AV → Sto → Prop, J [.bool (p v)] S → Run c k ⟨t, [.kv J], [], fr (some (g v))⟩ Q S) (el : ∀ v ∈ xs, p v = true → ∀ J : List AV → Sto → Prop, J [f v] S → Run c k ⟨e, [.kv J], [], fr (some (g v))⟩ Q S)
    (fin : ∀ D, S.Free D → Run c k ⟨code, ks, .ref D :: st, vs⟩ Q (S.setLs D ((xs.filter p).map f))) : Run c k m Q S :=
  Run.go hg ⟨l, _, rfl, hl, by rw [h0]; exact cmpD_pure g p f fr hset (fun v hv B hB => test v hv (fun st S => ∃ b, st = [.bool b] ∧ B b S) ⟨_, rfl, hB⟩) (fun v hv e B hB => el v hv e (fun st S => ∃ y, st = [y] ∧ B y S) ⟨_, rfl, hB⟩) hl fin⟩
theorem item_ls {j : Nat} (h : S.ls l = some xs) (h2 : xs[j]? = some v) : S.item (.ref l) (.int j) = some v := by
  show S.itemAt l j = _
  unfold Sto.itemAt; rw [h]
  show itemL xs j = _
  unfold itemL; rw [if_pos (Int.natCast_nonneg j)]; exact h2
theorem setItem_ls {j : Nat} (h : S.ls l = some xs) (h2 : j < xs.length) : S.setItem (.ref l) (.int j) v = some (S.setLs l (xs.set j v)) := by
  show S.setItemAt l j v = _
  unfold Sto.setItemAt; rw [h]; dsimp only
  rw [if_pos ⟨Int.natCast_nonneg j, Int.ofNat_lt.mpr h2⟩]; rfl
theorem Fn.call {g : Addr} {np nl : Nat} (F : Fn g np nl code) (ha : as.length = np) (H : Run c k ⟨code, [], [], vsOf as nl⟩ Q S) : CW c (k + 1) (.ref g) as Q S := F c k as Q S ha H
end
end
section
theorem Sub.refl (S : Sto) : Sub S S := ⟨fun _ _ e => e, fun _ _ e => e, fun _ _ e => e, fun _ _ e => e, fun _ _ e => e, rfl, rfl⟩
theorem Sub.trans {S S' S'' : Sto} (x : Sub S S') (y : Sub S' S'') : Sub S S'' :=
  ⟨fun a r e => y.nd a r (x.nd a r e), fun a r e => y.tr a r (x.tr a r e), fun a r e => y.ls a r (x.ls a r e), fun a r e => y.tp a r (x.tp a r e), fun a r e => y.dt a r (x.dt a r e), x.raw.trans y.raw, x.ro.trans y.ro⟩
section
variable {S S' : Sto} {a l D : Addr} {xs ys : List AV}
theorem ls_ne (h : S.ls l = some xs) (f : S.Free a) : l ≠ a := fun e => by rw [e, f.ls] at h; cases h
theorem ls_new (h : S.ls l = some xs) (f : S.Free a) : (S.setLs a ys).ls l = some xs := (upd_ne (ls_ne h f)).trans h
theorem ls_same : (S.setLs a ys).ls a = some ys := upd_same ..
theorem Sub.newLs (x : Sub S S') (h : S'.Free a) : Sub S (S'.setLs a xs) :=
  x.trans ⟨fun _ _ e => e, fun _ _ e => e, fun _ _ e => ls_new e h, fun _ _ e => e, fun _ _ e => e, rfl, rfl⟩
theorem Sub.put (x : Sub S S') : Sub (S.setLs a ys) (S'.setLs a ys) := by
  refine ⟨x.nd, x.tr, fun b r e => ?_, x.tp, x.dt, x.raw, x.ro⟩
  have e' : upd S.ls a ys b = some r := e
  show upd S'.ls a ys b = some r
  by_cases h : b = a
  · rw [h, upd_same] at e' ⊢; exact e'
  · rw [upd_ne h] at e' ⊢; exact x.ls b r e'
theorem setLs_self (h : S.ls a = some xs) : S.setLs a xs = S := by
  have : upd S.ls a xs = S.ls := funext fun b => by
    by_cases e : b = a
    · rw [e, upd_same, h]
    · exact upd_ne e
  unfold Sto.setLs
  rw [this]
theorem setLs_setLs : (S.setLs a xs).setLs a ys = S.setLs a ys := by
  have : upd (upd S.ls a xs) a ys = upd S.ls a ys := funext fun b => by
    by_cases e : b = a
    · rw [e, upd_same, upd_same]
    · rw [upd_ne e, upd_ne e, upd_ne e]
  unfold Sto.setLs
  exact congrArg (fun f => { S with ls := f }) this
theorem Sub.setLs (x : Sub (S.setLs a xs) S') : Sub (S.setLs a ys) (S'.setLs a ys) := by
  have := x.put (a := a) (ys := ys)
  rw [setLs_setLs] at this; exact this
theorem Sub.free (x : Sub S S') (h : S'.Free a) : S.Free a :=
  have n : ∀ {α : Type} {f g : Addr → Option α}, (∀ a r, f a = some r → g a = some r) → g a = none → f a = none := fun h e => none_of fun r q => by have := h _ r q; rw [e] at this; cases this
  ⟨n x.nd h.nd, n x.tr h.tr, n x.ls h.ls, n x.tp h.tp, n x.dt h.dt, by rw [x.raw]; exact h.raw⟩
theorem listEq_ints {ns ms : List Int} (h : S.ls l = some (ns.map .int)) (h2 : S.ls a = some (ms.map .int)) : S.listEq l a = some (decide (ns = ms)) := by
  unfold Sto.listEq; rw [h, h2]; show (match (intsOf (ns.map .int)).bind fun a => (intsOf (ms.map .int)).map fun b => decide (a = b) with | some t => some t | none => _) = _; rw [intsOf_map, intsOf_map]; rfl
theorem cmpEq_ints {ns ms : List Int} (h : S.ls l = some (ns.map .int)) (h2 : S.ls a = some (ms.map .int)) : S.cmp .Eq (.ref l) (.ref a) = some (decide (ns = ms)) := listEq_ints h h2
theorem cmpNe_ints {ns ms : List Int} (h : S.ls l = some (ns.map .int)) (h2 : S.ls a = some (ms.map .int)) : S.cmp .NotEq (.ref l) (.ref a) = some (!decide (ns = ms)) := by
  show (S.listEq l a).map _ = _; rw [listEq_ints h h2]; rfl
end
theorem bin_mod {i j : Int} (h : 0 < j) : binI .Mod i j = some (i.fmod j) := if_pos (Int.ne_of_gt h)
theorem bin_div {i j : Int} (h : 0 < j) (h2 : j < 1000) : binI .FloorDiv i j = some (i.fdiv j) := if_pos ⟨Int.ne_of_gt h, Int.ofNat_lt.mp (by rw [Int.natAbs_of_nonneg (Int.le_of_lt h)]; exact Int.lt_trans h2 (by decide))⟩
inductive DrawI (S : Sto) (l : Addr) (many : Int) (ns : List Int) : Nat → Vs → Sto → Prop
  | mk (v : Option AV) (ms : List Int) (S1 : Sto) : ms.length ≤ ns.length → (∀ n ∈ ms, 0 ≤ n) → S1.ls l = some (ms.map .int) → Sub (S.setLs l (ms.map .int)) S1 → DrawI S l many ns ms.length (.s (some (.ref l)) (.s (some (.int many)) (.s v .nil))) S1
theorem law_draw_ok {c : Cst} {k : Nat} {S : Sto} {l : Addr} {ns : List Int} {many : Int} (hl : S.ls l = some (ns.map .int)) (hn : ∀ n ∈ ns, 0 ≤ n) (hm : 0 < many) (hm2 : many < 1000) {Q : AV → Sto → Prop}
    (hq : ∀ (ns' : List Int) (v : Int), (∀ n ∈ ns', 0 ≤ n) → ns'.length ≤ ns.length → 0 ≤ v → v < many → Q (.int v) (S.setLs l (ns'.map .int))) : CW c (k + 1) (.ref 269) [.ref l, .int many] Q S := by
  refine CW.forget (f269.call rfl (r_whl (DrawI S l many ns) rfl ⟨none, ns, S, Nat.le_refl _, hn, hl, by rw [setLs_self hl]; exact Sub.refl _⟩ ?_))
  intro _ _ _ h
  cases h with | mk v ms S1 hlen hms hl1 hsub =>
  refine r_mkl rfl rfl fun a fa => ?_
  have hl2 := ls_new (ys := []) hl1 fa
  refine r_cmp rfl (cmpNe_ints (ms := []) hl2 ls_same) ?_
  cases ms with
  | nil =>
    refine r_mkl rfl rfl fun b fb => ?_
    refine r_cmp rfl (cmpEq_ints (ms := []) (ls_new hl2 fb) ls_same) ?_
    exact r_ret rfl ⟨_, (hsub.newLs fa).newLs fb, hq [] 0 nofun (Nat.zero_le _) (Int.le_refl _) hm⟩
  | cons n0 rest =>
    have hms' : ∀ n ∈ rest, 0 ≤ n := fun n hn => hms n (List.mem_cons_of_mem _ hn)
    refine r_sub rfl (item_ls (j := 0) hl2 rfl) ?_
    refine r_brd (p := n0 = 0) rfl rfl (fun _ => ?_) fun _ => ?_
    · refine r_mchk rfl hl2 rfl (r_pop0 rfl hl2 (r_lp rfl ⟨rest.length, Nat.lt_succ_self _, ⟨v, rest, _, Nat.le_of_succ_le hlen, hms', ls_same, (hsub.newLs fa).setLs⟩⟩))
    · refine r_mkl rfl rfl fun b fb => ?_
      have hl3 := ls_new (ys := []) hl2 fb
      refine r_cmp rfl (cmpEq_ints (ns := n0 :: rest) (ms := []) hl3 ls_same) ?_
      refine r_sub rfl (item_ls (j := 0) hl3 rfl) ?_
      refine r_bin rfl (bin_mod hm) ?_
      refine r_sub rfl (item_ls (j := 0) hl3 rfl) ?_
      refine r_bin rfl (bin_div hm hm2) ?_
      refine r_si rfl (setItem_ls (j := 0) hl3 (Nat.succ_pos _)) ?_
      refine r_ret rfl ⟨_, ((hsub.newLs fa).newLs fb).setLs, hq (n0.fdiv many :: rest) (n0.fmod many) (fun n hn => ?_) hlen (Int.fmod_nonneg_of_pos _ hm) (Int.fmod_lt_of_pos _ hm)⟩
      rcases List.mem_cons.mp hn with rfl | hn
      · exact Int.fdiv_nonneg (hms n0 List.mem_cons_self) (Int.le_of_lt hm)
      · exact hms' n hn
end
section
theorem law_deck_ok {c : Cst} {k : Nat} {S : Sto} {l : Addr} {ns : List Int} (hl : S.lst l = some (ns.map .int)) {Q : AV → Sto → Prop}
    (hq : ∀ (D : Addr) (ms : List Int), S.Free D → (∀ n ∈ ms, 0 ≤ n) → ms.length ≤ 16 → Q (.ref D) (S.setLs D (ms.map .int))) : CW c (k + 1) (.ref 262) [.ref l] Q S := by
  refine CW.forget (f262.call rfl ?_)
  refine r_slc rfl hl (.take _ (by decide)) fun a fa => ?_
  refine r_lcp (xs := ns.take 16) AV.int (fun _ => true) (fun n => .int ((if n < 0 then -n else n).fmod 1000000000000000000000000000000)) (fun v => .s none (.s v .nil)) rfl (lsLst (ls_same.trans (congrArg some List.map_take.symm))) rfl (fun _ _ => rfl) (fun n _ J hJ => r_kv rfl hJ)
    (fun n _ _ J hJ => r_call rfl rfl (CW.abs (r_kv rfl hJ))) fun D fD => ?_
  have e : ((ns.take 16).filter fun _ => true).map (fun n => AV.int ((if n < 0 then -n else n).fmod 1000000000000000000000000000000)) = ((ns.take 16).map fun n => (if n < 0 then -n else n).fmod 1000000000000000000000000000000).map AV.int := by
    rw [List.filter_eq_self.mpr fun _ _ => rfl, List.map_map]; rfl
  rw [e]
  refine r_ret rfl ⟨_, ((Sub.refl S).newLs fa).put, hq D _ ((Sub.refl S).newLs fa |>.free fD) (fun n hn => ?_) ?_⟩
  · obtain ⟨z, _, rfl⟩ := List.mem_map.mp hn
    exact Int.fmod_nonneg_of_pos _ (by decide)
  · rw [List.length_map, List.length_take]; exact Nat.min_le_left _ _
noncomputable def cameB (b e at_ : Int) (fr re ah : Bool) : Bool := decide (at_ < b) || (decide (b = at_) && (ah || (fr && (decide (b < e) || re))))
section
variable {c : Cst} {k : Nat} {S : Sto} {b e at_ many : Int} {fr re ah : Bool} {Q : AV → Sto → Prop} {vs : Vs} {l : Addr}
noncomputable abbrev vCame (l : Addr) (b e at_ many : Int) (fr re ah : Bool) (x : Option AV) : Vs := .s (some (.ref l)) (.s (some (.int at_)) (.s (some (.int many)) (.s (some (.bool ah)) (.s (some (.int b)) (.s (some (.int e)) (.s (some (.bool fr)) (.s (some (.bool re)) (.s x (.s none .nil)))))))))
theorem came3 {x y : Bool} (hq : ∀ D : Addr, S.Free D → Q (.ref D) (S.setLs D [.int (if x then b + many else b), .int (if y then e + many else e), .bool fr, .bool re])) :
    Run c k ⟨c276c, [], [.bool y], vCame l b e at_ many fr re ah (some (.bool x))⟩ Q S := by
  cases x <;> cases y <;> exact r_mkl rfl rfl fun D fD => r_ret rfl (hq D fD)
theorem came2 {x : Bool} (hq : Run c k ⟨c276c, [], [.bool (growsB e re at_ ah)], vCame l b e at_ many fr re ah (some (.bool x))⟩ Q S) : Run c k ⟨c276b, [], [.bool x], vCame l b e at_ many fr re ah none⟩ Q S := by
  unfold growsB at hq
  refine r_brd (p := at_ < e) rfl rfl (fun h1 => ?_) fun h1 => ?_
  · rw [decide_eq_true h1] at hq
    exact Run.goN 2 rfl hq
  rw [decide_eq_false h1, Bool.false_or] at hq
  refine r_brd (p := e = at_) rfl rfl (fun h2 => ?_) fun h2 => ?_
  · rw [decide_eq_true h2, Bool.true_and] at hq
    cases ah
    · exact Run.goN 6 rfl hq
    · exact Run.goN 6 rfl hq
  · rw [decide_eq_false h2] at hq
    exact Run.goN 3 rfl hq
theorem came1 (hq : Run c k ⟨c276b, [], [.bool (cameB b e at_ fr re ah)], vCame l b e at_ many fr re ah none⟩ Q S) (hl : S.ls l = some [.int b, .int e, .bool fr, .bool re]) :
    Run c k ⟨c276, [], [], vsOf [.ref l, .int at_, .int many, .bool ah] 6⟩ Q S := by
  unfold cameB at hq
  refine r_unp rfl hl rfl ?_
  refine r_brd (p := at_ < b) rfl rfl (fun h1 => ?_) fun h1 => ?_
  · rw [decide_eq_true h1] at hq
    exact Run.goN 2 rfl hq
  rw [decide_eq_false h1, Bool.false_or] at hq
  refine r_brd (p := b = at_) rfl rfl (fun h2 => ?_) fun h2 => ?_
  · rw [decide_eq_true h2, Bool.true_and] at hq
    cases ah with
    | true => exact Run.goN 6 rfl hq
    | false =>
    cases fr with
    | false => exact Run.goN 8 rfl hq
    | true =>
    refine r_brd (p := b < e) rfl rfl (fun h3 => ?_) fun h3 => ?_
    · rw [decide_eq_true h3] at hq
      exact Run.goN 6 rfl hq
    · rw [decide_eq_false h3] at hq
      exact Run.goN 6 rfl hq
  · rw [decide_eq_false h2] at hq
    exact Run.goN 3 rfl hq
theorem law_came_ok (hl : S.ls l = some [.int b, .int e, .bool fr, .bool re])
    (hq : ∀ D : Addr, S.Free D → Q (.ref D) (S.setLs D [.int (if cameB b e at_ fr re ah then b + many else b), .int (if growsB e re at_ ah then e + many else e), .bool fr, .bool re])) : CW c (k + 1) (.ref 276) [.ref l, .int at_, .int many, .bool ah] Q S :=
  f276.call rfl (came1 (came2 (came3 hq)) hl)
theorem law_gone_ok (hl : S.ls l = some [.int b, .int e, .bool fr, .bool re])
    (hq : ∀ D : Addr, S.Free D → Q (.ref D) (S.setLs D [.int (if b ≤ at_ then b else max at_ (b - many)), .int (if e ≤ at_ then e else max at_ (e - many)), .bool fr, .bool re])) : CW c (k + 1) (.ref 281) [.ref l, .int at_, .int many] Q S := by
  refine CW.forget (f281.call rfl ?_)
  refine r_slc rfl (lsLst hl) (.take _ (by decide)) fun a fa => ?_
  refine r_lcp (xs := [b, e]) AV.int (fun _ => true) (fun n => .int (if n ≤ at_ then n else max at_ (n - many))) (fun v => .s none (.s v (.s (some (.int at_)) (.s (some (.int many)) .nil)))) rfl (lsLst ls_same) rfl (fun _ _ => rfl) (fun n _ J hJ => r_kv rfl hJ)
    (fun n _ _ J hJ => r_brd (p := n ≤ at_) rfl rfl (fun h => r_kv rfl (by rw [if_pos h] at hJ; exact hJ)) fun h => r_call rfl rfl (CW.max (r_kv rfl (by rw [if_neg h] at hJ; exact hJ)))) fun D fD => ?_
  refine r_slc rfl (lsLst (ls_new (ls_new hl fa) fD)) (.drop _ (by decide)) fun a2 fa2 => ?_
  refine r_lap rfl (ls_new ls_same fa2) ls_same (Nat.le_of_ble_eq_true rfl) fun D3 fD3 => ?_
  have sub := Sub.newLs (xs := [AV.bool fr, AV.bool re]) (((Sub.refl S).newLs fa).newLs fD) fa2
  exact r_ret rfl ⟨_, sub.put, hq D3 (sub.free fD3)⟩
theorem tree_new (hq : ∀ x, S.Free x → Q (.ref x) (S.setTr x (none, 0))) : CW c (k + 2) (.ref 52) [] Q S := by
  refine call_class (fI := 49) (by unfold Cst.K; k_is) (by unfold Cst.K; k_is) (by unfold Cst.K; k_is) fun x fr => f49 _ _ _ _ _ rfl ?_
  refine r_raw rfl fr rfl (by decide) ?_
  refine r_raw rfl fr rfl (by decide) ?_
  exact r_fin rfl ⟨rfl, fun β s I => ⟨_, hq x fr, InvS.toTr (r := (none, 0)) I fr⟩⟩
theorem node_new {n b e : Int} {f r : Bool} (hq : ∀ x, S.Free x → Q (.ref x) (S.setNd x ⟨n, b, e, f, r, e, 0, false, none, none, none⟩)) : CW c (k + 2) (.ref 31) [.int n, .int b, .int e, .bool f, .bool r] Q S := by
  refine call_class (fI := 28) (by unfold Cst.K; k_is) (by unfold Cst.K; k_is) (by unfold Cst.K; k_is) fun x fr => f28 _ _ _ _ _ rfl ?_
  refine r_raw rfl fr rfl (by decide) ?_
  iterate 10 refine r_raw rfl fr rfl (Nat.le_of_ble_eq_true rfl) ?_
  exact r_fin rfl ⟨rfl, fun β s I => ⟨_, hq x fr, InvS.toNd (r := ⟨n, b, e, f, r, e, 0, false, none, none, none⟩) I fr⟩⟩
end
end
section
inductive Made (S : Sto) (tr : Addr) (L : Cnt) : Prop
  | mk (t : T) (N : Nat) : WK S tr t.io.length [] 0 t → t.isRed = false → t.rb N → t.io = L → Made S tr L
noncomputable def NodeRec.d (r : NodeRec) : D := ⟨r.number, r.begin_, r.end_, r.front, r.rear⟩
noncomputable def Abs (S : Sto) (a : Addr) (d : D) : Prop := ∃ r, S.nd a = some r ∧ r.d = d
noncomputable def D.get (d : D) : Fld → AV
  | .num => .int d.num
  | .bgn => .int d.b
  | .en => .int d.e
  | .fr => .bool d.fr
  | .re => .bool d.re
  | _ => .other
noncomputable def isD : Fld → Bool
  | .num => true
  | .bgn => true
  | .en => true
  | .fr => true
  | .re => true
  | _ => false
theorem isD_ok {f : Fld} (r : NodeRec) (h : isD f = true) : isN f = true ∧ r.get f = r.d.get f := by cases f <;> first | exact ⟨rfl, rfl⟩ | cases h
theorem r_ab {c : Cst} {k : Nat} {Q : AV → Sto → Prop} {S : Sto} {m : MS} {code : Code} {ks : List KI} {st : List AV} {vs : Vs} {a : Addr} {f : Fld} {d : D} (hg : m.go = ⟨.ga f code, ks, .ref a :: st, vs⟩) (h : Abs S a d) (hv : isD f = true) (H : Run c k ⟨code, ks, d.get f :: st, vs⟩ Q S) : Run c k m Q S :=
  let ⟨r, h1, h2⟩ := h
  r_gf hg h1 (isD_ok r hv).1 (by rw [(isD_ok r hv).2, h2]; exact H)
structure Go (A : Addr → Prop) (S S' : Sto) : Prop where
  nd : ∀ b, ¬ A b → S'.nd b = S.nd b
  ls : ∀ a xs, S.ls a = some xs → S'.ls a = some xs
  dt : ∀ a xs, S.dt a = some xs → S'.dt a = some xs
section
variable {S S' S'' : Sto} {A B : Addr → Prop} {a : Addr} {xs : List AV}
theorem Go.refl : Go A S S := ⟨fun _ _ => rfl, fun _ _ h => h, fun _ _ h => h⟩
theorem Go.trans (x : Go A S S') (y : Go A S' S'') : Go A S S'' := ⟨fun b h => (y.nd b h).trans (x.nd b h), fun a r h => y.ls a r (x.ls a r h), fun a r h => y.dt a r (x.dt a r h)⟩
theorem Go.mono (x : Go A S S') (h : ∀ b, A b → B b) : Go B S S' := ⟨fun b k => x.nd b fun z => k (h b z), x.ls, x.dt⟩
theorem Go.newLs (x : Go A S S') (f : S'.Free a) : Go A S (S'.setLs a xs) := ⟨x.nd, fun b r e => ls_new (x.ls b r e) f, x.dt⟩
theorem Go.setNd {r : NodeRec} (x : Go A S S') (h : A a) : Go A S (S'.setNd a r) := ⟨fun b k => (upd_ne fun e => k (by rw [e]; exact h)).trans (x.nd b k), x.ls, x.dt⟩
theorem Sat.go {F : Fc} {X : Xc} {L : List At} (h : Sat F X L S) : Go F.A F.S0 S := ⟨h.fm.nd, h.fm.ls, h.fm.dt⟩
end
section
variable {c : Cst} {k : Nat} {S S' : Sto} {tr : Addr} {A : Addr → Prop} {n : Int} {L : Cnt} {t : T} {R : List At} {M : Option (Option Int)} {Q : AV → Sto → Prop} {N : Nat}
theorem Made.nn (h : Made S tr L) : S.nd tr = none := let ⟨_, _, w, _, _, _⟩ := h; w.nn
theorem Made.congr (h : Made S tr L) (h1 : ∀ b ∈ L.map Prod.fst, S'.nd b = S.nd b) (h2 : S'.nd tr = none) (h3 : S'.tr = S.tr) : Made S' tr L := by
  obtain ⟨t, N, w, hr, hb, rfl⟩ := h
  exact ⟨t, N, ⟨by rw [h3]; exact w.rt, w.cx, w.tt.congr fun b hb => h1 b (io_mem.mp hb), w.nodup, h2⟩, hr, hb, rfl⟩
theorem Made.same (h : Made S tr L) (e : S'.nd = S.nd) (e2 : S'.tr = S.tr) : Made S' tr L := h.congr (fun _ _ => congrFun e _) ((congrFun e tr).trans h.nn) e2
theorem Made.addrs (h : Made S tr L) : (L.map Prod.fst).Nodup := by
  obtain ⟨t, N, w, hr, hb, rfl⟩ := h
  exact (ad_perm_io t).nodup_iff.mp w.nodup
theorem WG.sat (w : WK S tr n [] 0 t) : Sat ⟨S, (· ∈ t.io.map Prod.fst), tr⟩ ⟨t.root, some t.mx, 0, n, []⟩ [.tree none 0 t] S :=
  ⟨w.rt, rfl, fun _ h => absurd h List.not_mem_nil, by show (t.ad ++ []).Nodup; rw [List.append_nil]; exact w.nodup, fun x hx => by rw [List.mem_singleton.mp hx]; exact ⟨w.tt, fun _ h => io_mem.mp h⟩, ⟨w.nn, fun _ _ => rfl, fun _ _ => rfl, fun _ _ h => h, fun _ _ h => h, fun _ _ h => h, rfl, rfl⟩⟩
theorem Sat.made {F : Fc} {K : Int} (h : Sat F ⟨t.root, M, K, n, []⟩ (.tree none K t :: R) S) (hr : t.isRed = false) (hb : t.rb N) (e : t.io = L) (en : n = (t.io.length : Nat)) : Made S F.tr L := by
  have e0 : K = 0 := h.cx
  subst e0
  subst en
  exact ⟨t, N, ⟨h.rt, rfl, (h.ok _ List.mem_cons_self).1, (List.nodup_append.mp h.nd2).1, h.fm.nn⟩, hr, hb, e⟩
theorem rcOf (r : NodeRec) : ∃ rc : Rc, rc.nr = r ∧ rc.K = 0 ∧ rc.d = ⟨r.number, r.begin_, r.end_, r.front, r.rear⟩ :=
  ⟨⟨0, r.offset, ⟨r.number, r.begin_, r.end_, r.front, r.rear⟩, r.red, r.limit, r.left, r.right, r.parent⟩, by unfold Rc.nr mkR; simp only [Int.sub_zero], rfl, rfl⟩
theorem Seen.abs {F : Fc} {X : Xc} {V : List At} {x : Addr × D} (h : Seen V x) (s : Sat F X V S') : Abs S' x.1 x.2 := by
  obtain ⟨rc, h1, h2, h3⟩ := h
  refine ⟨_, (s.ok _ h1).1, ?_⟩
  rw [← h3]
  unfold Rc.nr
  rw [h2]
  unfold mkR NodeRec.d
  dsimp only
  rw [Int.sub_zero, Int.sub_zero]
theorem put_node_S {x : Addr} {rx : NodeRec} (hM : Made S tr L) (hs : Srt L) (hx : S.nd x = some rx) (hxL : x ∉ L.map Prod.fst)
    (hq : ∀ S' L', Go (fun z => z = x ∨ z ∈ L.map Prod.fst) S S' → Made S' tr L' → Srt L' → L'.Perm ((x, ⟨rx.number, rx.begin_, rx.end_, rx.front, rx.rear⟩) :: L) → Q .none S') : CW c (k + 5) (.ref 133) [.ref tr, .ref x] Q S := by
  obtain ⟨t, N, w, hr, hb, rfl⟩ := hM
  obtain ⟨⟨K', o, d, cc, lim, l, r, p⟩, h1, h2, h3⟩ := rcOf rx
  cases h2
  have h3 : d = _ := h3
  rw [← h3] at hq
  refine put_node_ok (F := ⟨S, fun z => z = x ∨ z ∈ t.io.map Prod.fst, tr⟩) (K := 0) (o := o) (d := d) (c0 := cc) (lim := lim) (l := l) (r := r) (p := p) (M := some t.mx) (R := []) hb hr hs (fun A B e hA hB t' N' hb' hr' hio' K2 S' s => hq S' (A ++ (x, d) :: B) s.go (s.made hr' hb' hio' (by rw [hio', e, List.length_append, List.length_append]; rfl)) ?_ ?_) S ⟨w.rt, rfl, fun _ h => absurd h List.not_mem_nil, ?_, fun y hy => ?_, ⟨w.nn, fun _ _ => rfl, fun _ _ => rfl, fun _ _ h => h, fun _ _ h => h, fun _ _ h => h, rfl, rfl⟩⟩
  · obtain ⟨s1, s2, s3⟩ := List.pairwise_append.mp (show (A ++ B).Pairwise _ from e ▸ hs)
    exact List.pairwise_append.mpr ⟨s1, List.pairwise_cons.mpr ⟨hB, s2⟩, fun a ha b hb => (List.mem_cons.mp hb).elim (fun e => e ▸ hA a ha) (s3 a ha b)⟩
  · rw [e]; exact List.perm_middle
  · show (t.ad ++ [x]).Nodup
    exact List.nodup_append.mpr ⟨w.nodup, List.nodup_cons.mpr ⟨List.not_mem_nil, .nil⟩, fun a ha b hb e => hxL (by rw [← List.mem_singleton.mp hb, ← e]; exact io_mem.mp ha)⟩
  · rcases List.mem_cons.mp hy with rfl | hy
    · exact ⟨w.tt, fun _ h => .inr (io_mem.mp h)⟩
    · rw [List.mem_singleton.mp hy]; exact ⟨hx.trans (congrArg some h1.symm), .inl rfl⟩
theorem locate {x : Addr × D} : ∀ {t : T} {E : Cx}, x ∈ t.io → ∃ C l cc r, plug E t = plug C (.node l x.1 x.2 cc r)
  | .nil, _, h => absurd h List.not_mem_nil
  | .node l a d cc r, E, h => by
    rcases List.mem_append.mp h with h | h
    · exact locate (E := ⟨true, a, d, cc, r⟩ :: E) h
    rcases List.mem_cons.mp h with rfl | h
    · exact ⟨E, l, cc, r, rfl⟩
    · exact locate (E := ⟨false, a, d, cc, l⟩ :: E) h
theorem cx_len : ∀ C : Cx, ∀ t : T, C.length + t.io.length ≤ (plug C t).io.length
  | [], t => by rw [List.length_nil, Nat.zero_add]; exact Nat.le_refl _
  | f :: C, t => by
    refine Nat.le_trans ?_ (cx_len C (f.fill t))
    rw [List.length_cons, Nat.add_assoc]
    refine Nat.add_le_add_left ?_ _
    obtain ⟨left, a, d, cc, s⟩ := f
    cases left
    · show 1 + t.io.length ≤ (s.io ++ (a, d) :: t.io).length
      rw [List.length_append, List.length_cons, Nat.add_comm]; exact Nat.le_add_left _ _
    · show 1 + t.io.length ≤ (t.io ++ (a, d) :: s.io).length
      rw [List.length_append, List.length_cons, Nat.add_comm]; exact Nat.add_le_add_left (Nat.le_add_left _ _) _
theorem drop_node_S {a : Addr} {d : D} (hM : Made S tr L) (hx : (a, d) ∈ L) (hsz : L.length < 400)
    (hq : ∀ S' L', Go (· ∈ L.map Prod.fst) S S' → Made S' tr L' → L'.Sublist L → L.Perm ((a, d) :: L') → (∃ lim red, S'.nd a = some ⟨d.num, d.b, d.e, d.fr, d.re, lim, 0, red, none, none, none⟩) → Q .none S') : CW c (k + 6) (.ref 154) [.ref tr, .ref a] Q S := by
  obtain ⟨t0, N, w, hr, hb, rfl⟩ := hM
  obtain ⟨C, l, cc, r, e⟩ := locate (t := t0) (E := []) hx
  have e : t0 = plug C (.node l a d cc r) := e
  subst e
  obtain ⟨N', b1, b2, b3⟩ := unplugG (B := []) hb trivial fun h => by rw [hr] at h; cases h
  rw [List.append_nil] at b2 b3
  have hsp := plug_split C (.node l a d cc r)
  have hl := Nat.lt_of_le_of_lt (Nat.le_of_add_right_le (cx_len C (.node l a d cc r))) hsz
  have pm : (plug C (.node l a d cc r)).io.Perm ((a, d) :: (pre C ++ (l.io ++ (r.io ++ post C)))) := by
    rw [hsp]
    show (pre C ++ ((l.io ++ (a, d) :: r.io) ++ post C)).Perm _
    rw [List.append_assoc, List.cons_append, ← List.append_assoc (pre C), ← List.append_assoc (pre C) l.io]
    exact List.perm_middle
  refine z_unplug (drop_node_ok (R := []) b1 b2 b3 (Nat.lt_trans hl (by decide)) fun cc' lim t' N'' hb' hr' hio' K2 S' s => hq S' _ s.go (s.made hr' hb' hio' (by rw [hio', pm.length_eq]; exact Int.add_sub_cancel ((pre C ++ (l.io ++ (r.io ++ post C))).length : Nat) 1)) ?_ pm ⟨lim, cc', (s.ok _ (List.mem_cons_of_mem _ List.mem_cons_self)).1.trans ?_⟩) 0 S w.sat
  · rw [hsp]
    refine (List.Sublist.refl _).append ?_
    show (l.io ++ (r.io ++ post C)).Sublist ((l.io ++ (a, d) :: r.io) ++ post C)
    rw [List.append_assoc]
    exact (List.Sublist.refl _).append (List.sublist_cons_self _ _)
  · unfold Rc.nr mkR; simp only [Int.sub_zero]
theorem got_of {F : Fc} {V : List At} {fd : Addr} {ps : Cnt} (hr : t.isRed = false) (hb : t.rb N) (hV : ∀ x ∈ ps, Seen V x) (hE : En F ⟨t.root, M, 0, t.io.length, []⟩ (V ++ []) [.tree none 0 t])
    (hq : ∀ S', Go F.A F.S0 S' → S'.ls fd = some (ps.map fun x => .ref x.1) → Made S' F.tr t.io → (∀ x ∈ ps, Abs S' x.1 x.2) → Q (.ref fd) S') :
    Post F ⟨t.root, M, 0, t.io.length, []⟩ (.ls fd (refs (ps.map Prod.fst)) :: (V ++ [])) (Q (.ref fd)) := fun S' s =>
  hq S' s.go ((s.ok _ List.mem_cons_self).1.trans (congrArg some List.map_map)) (p_drop (hE (fun S' => Made S' F.tr t.io) fun S' s => s.made hr hb rfl rfl) S' s) fun x hx => by
    obtain ⟨rc, h1, h2⟩ := hV x hx
    exact Seen.abs (V := .ls fd (refs (ps.map Prod.fst)) :: (V ++ [])) ⟨rc, List.mem_cons_of_mem _ (List.mem_append_left _ h1), h2⟩ s
theorem nodes_between_made {lo hi : Int} (hM : Made S tr L) (hs : Srt L) (hsz : L.length < 400)
    (hq : ∀ S' p, Go (· ∈ L.map Prod.fst) S S' → S'.ls p = some ((L.filter (touch lo hi)).map fun x => .ref x.1) → Made S' tr L → (∀ x ∈ L, touch lo hi x = true → Abs S' x.1 x.2) → Q (.ref p) S') : CW c (k + 2) (.ref 196) [.ref tr, .int lo, .int hi] Q S := by
  obtain ⟨t, N, w, hr, hb, rfl⟩ := hM
  exact nodes_between_ok hsz hs (fun V fd hV hE => got_of hr hb hV hE fun S' g l m a => hq S' fd g l m fun x h1 h2 => a x (List.mem_filter.mpr ⟨h1, h2⟩)) S w.sat
theorem all_nodes_made (hM : Made S tr L) (hsz : L.length < 400)
    (hq : ∀ S' p, Go (· ∈ L.map Prod.fst) S S' → S'.ls p = some (L.map fun x => .ref x.1) → Made S' tr L → (∀ x ∈ L, Abs S' x.1 x.2) → Q (.ref p) S') : CW c (k + 2) (.ref 189) [.ref tr] Q S := by
  obtain ⟨t, N, w, hr, hb, rfl⟩ := hM
  exact all_nodes_ok hsz (fun V fd hV hE => got_of hr hb hV hE fun S' => hq S' fd) S w.sat
theorem shift_nodes_made {at_ many : Int} {bm : Bool} (hM : Made S tr L) (hs : Srt L) (hbe : ∀ x ∈ L, x.2.b ≤ x.2.e) (hsz : L.length < 400)
    (hq : ∀ S', Go (· ∈ L.map Prod.fst) S S' → Made S' tr (L.map fun x => (x.1, shD at_ many bm x.2)) → Q .none S') : CW c (k + 3) (.ref 222) [.ref tr, .int at_, .int many, .bool bm] Q S := by
  obtain ⟨t, N, w, hr, hb, rfl⟩ := hM
  refine shift_nodes_ok ⟨hs, hbe⟩ (by rw [len_io]; exact hsz) (fun S' s => ?_) S w.sat
  rw [← map_root (shD at_ many bm) t] at s
  exact hq S' s.go (s.made (by rw [map_isRed]; exact hr) (map_rb _ hb) (map_io ..) (by rw [map_io, List.length_map]))
theorem clD_mono {at_ many : Int} (hm : 0 < many) {L : Cnt} (h : Srt L) : Srt (L.map fun x => (x.1, clD at_ many x.2)) := by
  unfold Srt at h ⊢
  rw [List.pairwise_map]
  refine h.imp fun {a b} hab => ?_
  show (clD at_ many a.2).b ≤ (clD at_ many b.2).b
  unfold clD; dsimp only
  split <;> split <;> omega
theorem close_gap_made {at_ many : Int} (hM : Made S tr L) (hs : Srt L) (hbe : ∀ x ∈ L, x.2.b ≤ x.2.e) (hsz : L.length < 400) (hmany : 0 < many)
    (hq : ∀ S', Go (· ∈ L.map Prod.fst) S S' → Made S' tr (L.map fun x => (x.1, clD at_ many x.2)) → Srt (L.map fun x => (x.1, clD at_ many x.2)) → Q .none S') : CW c (k + 3) (.ref 229) [.ref tr, .int at_, .int many] Q S := by
  obtain ⟨t, N, w, hr, hb, rfl⟩ := hM
  refine close_gap_ok ⟨hs, hbe⟩ (by rw [len_io]; exact hsz) hmany (fun S' s => ?_) S w.sat
  rw [← map_root (clD at_ many) t] at s
  exact hq S' s.go (s.made (by rw [map_isRed]; exact hr) (map_rb _ hb) (map_io ..) (by rw [map_io, List.length_map])) (clD_mono hmany hs)
theorem close_gap_zero {a b : AV} {many : Int} (h0 : many ≤ 0) (hq : Q .none S) : CW c (k + 1) (.ref 229) [a, b, .int many] Q S :=
  f229.call rfl (r_brd (p := many ≤ 0) rfl rfl (fun _ => r_ret rfl hq) fun h => absurd h0 h)
theorem pr_io : ∀ t : T, (pr t).length = t.io.length
  | .nil => rfl
  | .node l a d cc r => by rw [pr_len, pr_io l, pr_io r]; show _ = (l.io ++ (a, d) :: r.io).length; rw [List.length_append, List.length_cons]; exact Nat.add_assoc ..
theorem overlay_tree_error_ok (hM : Made S tr L) (hs : Srt L) (hnum : (L.map fun x => x.2.num).Nodup) (hsz : L.length < 400)
    (hq : ∀ S', Q .none S') : CW c (k + 3) (.ref 257) [.ref tr] Q S := by
  obtain ⟨t, N, w, hr, hb, rfl⟩ := hM
  exact overlay_error_ok (by rw [pr_io]; exact hsz) hr hb hs hnum (by rw [pr_io]) (fun S' s => hq S') S w.sat
theorem begins_to_move_S {a : Addr} {d : D} {at_ : Int} {bm : Bool} (ha : Abs S a d) (hq : Q (.bool (movesB d at_ bm)) S) : CW c (k + 1) (.ref 203) [.ref a, .int at_, .bool bm] Q S := by
  unfold movesB at hq
  refine f203.call rfl (r_ab rfl ha rfl (r_brd (p := d.b ≠ at_) rfl rfl (fun h => r_ret rfl ?_) fun h => ?_))
  · rw [decide_eq_false h] at hq; exact hq
  rw [decide_eq_true (Decidable.not_not.mp h), Bool.true_and] at hq
  cases bm with
  | true => exact r_ret rfl hq
  | false =>
  rw [Bool.false_or] at hq
  refine r_ab rfl ha rfl (r_br rfl (fun q => ?_) fun q => ?_)
  · rw [q, Bool.true_and] at hq
    refine r_ab rfl ha rfl ?_
    refine r_ab rfl ha rfl (r_brd (p := d.b ≠ d.e) rfl rfl (fun h => r_ret rfl ?_) fun h => ?_)
    · rw [decide_eq_false h] at hq; exact hq
    · rw [decide_eq_true (Decidable.not_not.mp h)] at hq
      exact r_ab rfl ha rfl (r_ret rfl hq)
  · rw [q, Bool.false_and] at hq
    exact r_ret rfl hq
end
end
section
theorem open_gap_zero {c : Cst} {k : Nat} {S : Sto} {a b e : AV} {many : Int} (h0 : many ≤ 0) {Q : AV → Sto → Prop} (hq : Q .none S) : CW c (k + 1) (.ref 215) [a, b, .int many, e] Q S :=
  f215.call rfl (r_brd (p := many ≤ 0) rfl rfl (fun _ => r_ret rfl hq) fun h => absurd h0 h)
noncomputable def came (at_ many : Int) (bm : Bool) (d : D) : D := ⟨d.num, if cameB d.b d.e at_ d.fr d.re bm then d.b + many else d.b, if growsB d.e d.re at_ bm then d.e + many else d.e, d.fr, d.re⟩
noncomputable def mvs (at_ : Int) (bm : Bool) (x : Addr × D) : Bool := movesB x.2 at_ bm
theorem ne_lt {b e : Int} (h : b ≤ e) : (!decide (b = e)) = decide (b < e) := by
  by_cases q : b = e
  · rw [decide_eq_true q, decide_eq_false fun h => Int.ne_of_lt h q]; rfl
  · rw [decide_eq_false q, decide_eq_true (Int.lt_iff_le_and_ne.mpr ⟨h, q⟩)]; rfl
theorem came_B {at_ : Int} {bm : Bool} {x : Addr × D} (hbe : x.2.b ≤ x.2.e) : cameB x.2.b x.2.e at_ x.2.fr x.2.re bm = (decide (at_ < x.2.b) || (touch at_ at_ x && mvs at_ bm x)) := by
  unfold cameB touch mvs movesB
  rw [ne_lt hbe]
  by_cases h : x.2.b = at_
  · rw [decide_eq_true h, decide_eq_true (Int.le_of_eq h), decide_eq_true (show at_ ≤ x.2.e from h ▸ hbe)]; rfl
  · rw [decide_eq_false h, Bool.false_and, Bool.and_false]
theorem came_stay {at_ many : Int} {bm : Bool} {x : Addr × D} (hbe : x.2.b ≤ x.2.e) (h : (touch at_ at_ x && mvs at_ bm x) = false) : came at_ many bm x.2 = shD at_ many bm x.2 := by
  unfold came shD
  rw [came_B hbe, h, Bool.or_false]
  simp only [decide_eq_true_eq]
theorem came_move {at_ many : Int} {bm : Bool} {x : Addr × D} (hbe : x.2.b ≤ x.2.e) (h : (touch at_ at_ x && mvs at_ bm x) = true) : came at_ many bm x.2 = ⟨x.2.num, x.2.b + many, if x.2.e ≠ at_ ∨ x.2.re = true ∨ bm = true then x.2.e + many else x.2.e, x.2.fr, x.2.re⟩ := by
  have e : growsB x.2.e x.2.re at_ bm = decide (x.2.e ≠ at_ ∨ x.2.re = true ∨ bm = true) := by
    have h1 : at_ ≤ x.2.e := by
      unfold touch at h
      exact of_decide_eq_true (Bool.and_eq_true_iff.mp (Bool.and_eq_true_iff.mp h).1).2
    unfold growsB
    by_cases q : x.2.e = at_
    · rw [decide_eq_true q, decide_eq_false (fun h => Int.ne_of_lt h q.symm)]
      cases bm <;> cases x.2.re <;> simp [q]
    · rw [decide_eq_true (Int.lt_iff_le_and_ne.mpr ⟨h1, Ne.symm q⟩), decide_eq_true (p := x.2.e ≠ at_ ∨ _) (.inl q)]; rfl
  unfold came
  rw [came_B hbe, h, Bool.or_true, e]
  simp only [decide_eq_true_eq, if_true]
theorem shD_mono {at_ many : Int} {bm : Bool} (hm : 0 < many) {L : Cnt} (h : Srt L) : Srt (L.map fun x => (x.1, shD at_ many bm x.2)) := by
  unfold Srt at h ⊢
  rw [List.pairwise_map]
  refine h.imp fun {a b} hab => ?_
  show (shD at_ many bm a.2).b ≤ (shD at_ many bm b.2).b
  unfold shD; dsimp only
  split <;> split <;> omega
noncomputable def Rec (S : Sto) (x : Addr × D) : Prop := ∃ lim red, S.nd x.1 = some ⟨x.2.num, x.2.b, x.2.e, x.2.fr, x.2.re, lim, 0, red, none, none, none⟩
theorem Rec.go {A : Addr → Prop} {S S' : Sto} {x : Addr × D} (h : Rec S x) (g : Go A S S') (hA : ¬ A x.1) : Rec S' x := let ⟨lim, red, e⟩ := h; ⟨lim, red, (g.nd _ hA).trans e⟩
section
variable {S0 : Sto} {tr mo : Addr} {L mv done rest : Cnt} {at_ many : Int} {bm : Bool}
structure Outs (S0 : Sto) (tr mo : Addr) (L mv done rest K : Cnt) (S : Sto) : Prop where
  sp : mv = done ++ rest
  go : Go (· ∈ L.map Prod.fst) S0 S
  ls : S.ls mo = some (mv.map fun x => .ref x.1)
  made : Made S tr K
  sub : K.Sublist L
  pm : L.Perm (done ++ K)
  recs : ∀ x ∈ done, Rec S x
theorem app1 {α : Type} {x : α} {done rest : List α} : done ++ x :: rest = (done ++ [x]) ++ rest := by rw [List.append_assoc]; rfl
theorem in_dj {α : Type} {A B : List α} (h : (A ++ B).Nodup) {x : α} (h1 : x ∈ A) (h2 : x ∈ B) : False := (List.nodup_append.mp h).2.2 x h1 x h2 rfl
theorem Outs.next {S S' : Sto} {K K' : Cnt} {x : Addr × D} (h : Outs S0 tr mo L mv done (x :: rest) K S) (nd : (L.map Prod.fst).Nodup) (g : Go (· ∈ K.map Prod.fst) S S') (m : Made S' tr K') (sub : K'.Sublist K) (pm : K.Perm (x :: K')) (r : Rec S' x) :
    Outs S0 tr mo L mv (done ++ [x]) rest K' S' := by
  refine ⟨h.sp.trans app1, h.go.trans (g.mono fun b hb => (h.sub.map Prod.fst).subset hb), g.ls _ _ h.ls, m, sub.trans h.sub, h.pm.trans ?_, fun y hy => ?_⟩
  · rw [List.append_assoc]; exact pm.append_left done
  · rcases List.mem_append.mp hy with hy | hy
    · have n2 := (h.pm.map Prod.fst).nodup_iff.mp nd
      rw [List.map_append] at n2
      exact (h.recs y hy).go g fun hm => in_dj n2 (List.mem_map_of_mem hy) hm
    · rw [List.mem_singleton.mp hy]; exact r
theorem Outs.here {S : Sto} {K : Cnt} {x : Addr × D} (h : Outs S0 tr mo L mv done (x :: rest) K S) (nd : mv.Nodup) (hL : ∀ x ∈ mv, x ∈ L) : x ∈ K := by
  have h1 := h.pm.mem_iff.mp (hL x (by rw [h.sp]; exact List.mem_append_right _ List.mem_cons_self))
  rw [h.sp] at nd
  exact (List.mem_append.mp h1).elim (fun h2 => (in_dj nd h2 List.mem_cons_self).elim) id
structure Ins (S0 : Sto) (tr mo : Addr) (at_ many : Int) (bm : Bool) (L mv K done rest K2 : Cnt) (S : Sto) : Prop where
  sp : mv = done ++ rest
  go : Go (· ∈ L.map Prod.fst) S0 S
  ls : S.ls mo = some (mv.map fun x => .ref x.1)
  made : Made S tr K2
  srt : Srt K2
  pm : K2.Perm (done.map (fun x => (x.1, came at_ many bm x.2)) ++ K.map fun x => (x.1, shD at_ many bm x.2))
  recs : ∀ x ∈ rest, Rec S x
theorem fst_map (g : D → D) (l : Cnt) : (l.map fun x => (x.1, g x.2)).map Prod.fst = l.map Prod.fst := List.map_map
theorem Ins.adr {S : Sto} {K K2 : Cnt} (h : Ins S0 tr mo at_ many bm L mv K done rest K2 S) : (K2.map Prod.fst).Perm (done.map Prod.fst ++ K.map Prod.fst) := by
  have := h.pm.map Prod.fst
  rw [List.map_append, fst_map, fst_map] at this; exact this
theorem Ins.alone {S : Sto} {K K2 : Cnt} {x : Addr × D} (h : Ins S0 tr mo at_ many bm L mv K done (x :: rest) K2 S) (nd : (mv.map Prod.fst ++ K.map Prod.fst).Nodup) : x.1 ∉ K2.map Prod.fst ∧ ∀ y ∈ rest, y.1 ≠ x.1 ∧ y.1 ∉ K2.map Prod.fst := by
  rw [h.sp, List.map_append, List.map_cons] at nd
  obtain ⟨n1, n2, n3⟩ := List.nodup_append.mp nd
  obtain ⟨m1, m2, m3⟩ := List.nodup_append.mp n1
  have key : ∀ z, z ∈ x.1 :: rest.map Prod.fst → z ∉ K2.map Prod.fst := fun z hz hm =>
    (List.mem_append.mp (h.adr.mem_iff.mp hm)).elim (fun h1 => m3 z h1 z hz rfl) fun h1 => n3 z (List.mem_append_right _ hz) z h1 rfl
  exact ⟨key _ List.mem_cons_self, fun y hy => ⟨fun e => (List.nodup_cons.mp m2).1 (e ▸ List.mem_map_of_mem hy), key _ (List.mem_cons_of_mem _ (List.mem_map_of_mem hy))⟩⟩
theorem Ins.next {S S' : Sto} {K K2 L2 : Cnt} {x : Addr × D} (h : Ins S0 tr mo at_ many bm L mv K done (x :: rest) K2 S) (nd : (mv.map Prod.fst ++ K.map Prod.fst).Nodup) (hin : ∀ z, z ∈ mv.map Prod.fst ++ K.map Prod.fst → z ∈ L.map Prod.fst)
    (g : Go (fun z => z = x.1 ∨ z ∈ K2.map Prod.fst) S S') (m : Made S' tr L2) (s : Srt L2) (pm : L2.Perm ((x.1, came at_ many bm x.2) :: K2)) : Ins S0 tr mo at_ many bm L mv K (done ++ [x]) rest L2 S' := by
  obtain ⟨a1, a2⟩ := h.alone nd
  refine ⟨h.sp.trans app1, h.go.trans (g.mono fun b hb => hin b ?_), g.ls _ _ h.ls, m, s, pm.trans ?_, fun y hy => (h.recs y (List.mem_cons_of_mem _ hy)).go g fun hm => hm.elim (a2 y hy).1 (a2 y hy).2⟩
  · rw [h.sp, List.map_append]
    rcases hb with rfl | hb
    · exact List.mem_append_left _ (List.mem_append_right _ List.mem_cons_self)
    · exact (List.mem_append.mp (h.adr.mem_iff.mp hb)).elim (fun h1 => List.mem_append_left _ (List.mem_append_left _ h1)) (List.mem_append_right _)
  · rw [List.map_append, List.append_assoc]
    exact (List.Perm.cons _ h.pm).trans List.perm_middle.symm
end
end
section
section
variable {c : Cst} {k : Nat} {Q : AV → Sto → Prop} {S S' S0 : Sto} {tr mo a : Addr} {L mv done rest K2 : Cnt} {at_ many : Int} {bm : Bool} {J : Vs → Sto → Prop} {ks : List KI}
noncomputable abbrev vG (tr : Addr) (at_ many : Int) (bm : Bool) (mo : Addr) (v : Option AV) : Vs := .s (some (.ref tr)) (.s (some (.int at_)) (.s (some (.int many)) (.s (some (.bool bm)) (.s v (.s (some (.ref mo)) .nil)))))
inductive OutI (S0 : Sto) (tr mo : Addr) (L mv : Cnt) (fr : Option AV → Vs) : Cnt → Cnt → Vs → Sto → Prop
  | mk (done rest : Cnt) (v : Option AV) (K : Cnt) (S : Sto) : Outs S0 tr mo L mv done rest K S → OutI S0 tr mo L mv fr done rest (fr v) S
inductive InI (S0 : Sto) (tr mo : Addr) (at_ many : Int) (bm : Bool) (L mv K : Cnt) (fr : Option AV → Vs) : Cnt → Cnt → Vs → Sto → Prop
  | mk (done rest : Cnt) (v : Option AV) (K2 : Cnt) (S : Sto) : Ins S0 tr mo at_ many bm L mv K done rest K2 S → InI S0 tr mo at_ many bm L mv K fr done rest (fr v) S
theorem Made.setNd {r r0 : NodeRec} (h : Made S tr L) (ha : a ∉ L.map Prod.fst) (h0 : S.nd a = some r0) : Made (S.setNd a r) tr L :=
  h.congr (fun b hb => upd_ne fun e => ha (e ▸ hb)) ((upd_ne fun e => by have := h.nn; rw [e, h0] at this; cases this).trans h.nn) rfl
theorem moved1 {d : D} {lim : Int} {red : Bool} {p : NodeRec} (ep : p = ⟨d.num, d.b, d.e, d.fr, d.re, lim, 0, red, none, none, none⟩) (hM : Made S tr K2) (hs : Srt K2) (h5 : S.nd a = some p) (ha : a ∉ K2.map Prod.fst)
    (hq : ∀ S' L', Go (fun z => z = a ∨ z ∈ K2.map Prod.fst) S S' → Made S' tr L' → Srt L' → L'.Perm ((a, ⟨d.num, d.b + many, d.e, d.fr, d.re⟩) :: K2) → J (vG tr at_ many bm mo (some (.ref a))) S') :
    Run c (k + 6) ⟨c215e, .lp J :: ks, [], vG tr at_ many bm mo (some (.ref a))⟩ Q S := by
  subst ep
  refine r_gf rfl h5 rfl ?_
  refine r_sf rfl h5 rfl ?_
  refine r_call rfl rfl (put_node_S (hM.setNd ha h5) hs (upd_same ..) ha fun S' L' g m s p => r_lp rfl (hq S' L' (((Go.refl (A := fun z => z = a)).setNd rfl).mono (fun _ => .inl) |>.trans g) m s p))
theorem moved2 {d : D} {lim : Int} {red : Bool} {B : Bool} {p : NodeRec} (ep : p = ⟨d.num, d.b, d.e, d.fr, d.re, lim, 0, red, none, none, none⟩) (hM : Made S tr K2) (hs : Srt K2) (h5 : S.nd a = some p) (ha : a ∉ K2.map Prod.fst)
    (hq : ∀ S' L', Go (fun z => z = a ∨ z ∈ K2.map Prod.fst) S S' → Made S' tr L' → Srt L' → L'.Perm ((a, ⟨d.num, d.b + many, if B = true then d.e + many else d.e, d.fr, d.re⟩) :: K2) → J (vG tr at_ many bm mo (some (.ref a))) S') :
    Run c (k + 6) ⟨c215d, .lp J :: ks, [.bool B], vG tr at_ many bm mo (some (.ref a))⟩ Q S := by
  cases B with
  | false => exact Run.goN 2 rfl (moved1 ep hM hs h5 ha hq)
  | true =>
    subst ep
    refine r_gf rfl h5 rfl ?_
    refine r_sf rfl h5 rfl (Run.goN 1 rfl (moved1 (d := ⟨d.num, d.b, d.e + many, d.fr, d.re⟩) rfl (hM.setNd ha h5) hs (upd_same ..) ha fun S' L' g => hq S' L' (((Go.refl (A := fun z => z = a)).setNd rfl).mono (fun _ => .inl) |>.trans g)))
theorem moved3 {d : D} (hM : Made S tr K2) (hs : Srt K2) (h5 : Rec S (a, d)) (ha : a ∉ K2.map Prod.fst)
    (hq : ∀ S' L', Go (fun z => z = a ∨ z ∈ K2.map Prod.fst) S S' → Made S' tr L' → Srt L' → L'.Perm ((a, ⟨d.num, d.b + many, if d.e ≠ at_ ∨ d.re = true ∨ bm = true then d.e + many else d.e, d.fr, d.re⟩) :: K2) → J (vG tr at_ many bm mo (some (.ref a))) S') :
    Run c (k + 6) ⟨c215b, .lp J :: ks, [], vG tr at_ many bm mo (some (.ref a))⟩ Q S := by
  obtain ⟨lim, red, h5⟩ := h5
  have key : ∀ B, B = decide (d.e ≠ at_ ∨ d.re = true ∨ bm = true) → Run c (k + 6) ⟨c215d, .lp J :: ks, [.bool B], vG tr at_ many bm mo (some (.ref a))⟩ Q S := fun B e =>
    moved2 rfl hM hs h5 ha fun S' L' g m s p => hq S' L' g m s (by rw [e] at p; simp only [decide_eq_true_eq] at p; exact p)
  refine r_gf rfl h5 rfl (r_brd (p := d.e ≠ at_) rfl rfl (fun h => Run.goN 2 rfl (key true (decide_eq_true (.inl h)).symm)) fun h => ?_)
  refine r_gf rfl h5 rfl (r_br rfl (fun e => Run.goN 3 rfl (key true (decide_eq_true (.inr (.inl e))).symm)) fun e => r_br rfl (fun e2 => Run.goN 4 rfl (key true (decide_eq_true (.inr (.inr e2))).symm)) fun e2 => Run.goN 4 rfl (key false (decide_eq_false fun z => z.elim h fun z => z.elim (fun z => Bool.noConfusion (e.symm.trans z)) fun z => Bool.noConfusion (e2.symm.trans z)).symm))
theorem open_gap_ok (hM : Made S tr L) (hs : Srt L) (hbe : ∀ x ∈ L, x.2.b ≤ x.2.e) (hsz : L.length < 400) (hmany : 0 < many)
    (hq : ∀ S' L', Go (· ∈ L.map Prod.fst) S S' → Made S' tr L' → Srt L' → L'.Perm (L.map fun x => (x.1, came at_ many bm x.2)) → Q .none S') : CW c (k + 7) (.ref 215) [.ref tr, .int at_, .int many, .bool bm] Q S := by
  refine f215.call rfl (r_brd (p := many ≤ 0) rfl rfl (fun h => absurd hmany (Int.not_lt.mpr h)) fun _ => ?_)
  refine r_call rfl rfl (nodes_between_made hM hs hsz fun S1 p g1 l1 m1 A1 => ?_)
  refine r_lcp (xs := L.filter (touch at_ at_)) (fun x => .ref x.1) (mvs at_ bm) (fun x => .ref x.1) (fun v => .s none (.s v (.s (some (.int at_)) (.s (some (.bool bm)) .nil)))) rfl (lsLst l1) rfl (fun _ _ => rfl)
    (fun x hx J hJ => r_call rfl rfl (begins_to_move_S (let ⟨h1, h2⟩ := List.mem_filter.mp hx; A1 x h1 h2) (r_kv rfl hJ))) (fun x _ _ J hJ => r_kv rfl hJ) fun mo fmo => ?_
  have o0 : Outs S tr mo L ((L.filter (touch at_ at_)).filter (mvs at_ bm)) [] ((L.filter (touch at_ at_)).filter (mvs at_ bm)) L (S1.setLs mo (((L.filter (touch at_ at_)).filter (mvs at_ bm)).map fun x => .ref x.1)) := ⟨rfl, g1.newLs fmo, ls_same, m1.same rfl rfl, .refl _, .refl _, nofun⟩
  have mem : ∀ x, x ∈ (L.filter (touch at_ at_)).filter (mvs at_ bm) ↔ x ∈ L ∧ (touch at_ at_ x && mvs at_ bm x) = true := fun x => by rw [List.mem_filter, List.mem_filter, Bool.and_eq_true, and_assoc]
  have ndA := hM.addrs
  have ndm : (((L.filter (touch at_ at_)).filter (mvs at_ bm)).map Prod.fst).Nodup := (((List.filter_sublist.trans List.filter_sublist).map _)).nodup ndA
  generalize (L.filter (touch at_ at_)).filter (mvs at_ bm) = mv at *
  generalize S1.setLs mo _ = S2 at *
  clear g1 l1 m1 A1 fmo
  refine r_forl (xs := mv) (fun x : Addr × D => .ref x.1) (OutI S tr mo L mv (vG tr at_ many bm mo)) rfl (fun _ _ _ _ h => by cases h with | mk _ _ _ h => exact lsLst h.ls) (.mk _ _ none L _ o0) (fun done x rest vs S' h => ?_) fun vs S' h => ?_
  · cases h with | mk v K _ h =>
    exact ⟨_, rfl, fun J hJ => r_call rfl rfl (drop_node_S h.made (h.here ((List.pairwise_map.mp ndm).imp fun h e => h (congrArg Prod.fst e)) fun x hx => ((mem x).mp hx).1) (Nat.lt_of_le_of_lt h.sub.length_le hsz) fun S'' K' g m sub pm r => r_lp rfl (hJ _ _ (.mk _ _ _ K' _ (h.next ndA g m sub pm r))))⟩
  cases h with | mk v K _ h =>
  have hpm := h.pm.map Prod.fst
  rw [List.map_append] at hpm
  have ndAll := hpm.nodup_iff.mp ndA
  refine r_call rfl rfl (shift_nodes_made h.made (List.Pairwise.sublist h.sub hs) (fun x hx => hbe x (h.sub.subset hx)) (Nat.lt_of_le_of_lt h.sub.length_le hsz) fun S4 g4 m4 => ?_)
  refine r_forl (xs := mv) (fun x : Addr × D => .ref x.1) (InI S tr mo at_ many bm L mv K (vG tr at_ many bm mo)) rfl (fun _ _ _ _ h => by cases h with | mk _ _ _ h => exact lsLst h.ls)
    (.mk _ _ v _ _ ⟨rfl, h.go.trans (g4.mono fun b hb => (h.sub.map Prod.fst).subset hb), g4.ls _ _ h.ls, m4, shD_mono hmany (List.Pairwise.sublist h.sub hs), .refl _, fun x hx => (h.recs x hx).go g4 fun hm => in_dj ndAll (List.mem_map_of_mem hx) hm⟩) (fun done x rest vs S' h => ?_) fun vs S' h5 => ?_
  · cases h with | mk v K2 _ h =>
    obtain ⟨a, d⟩ := x
    have hx := (mem (a, d)).mp (by rw [h.sp]; exact List.mem_append_right _ List.mem_cons_self)
    refine ⟨_, rfl, fun J hJ => moved3 h.made h.srt (h.recs _ List.mem_cons_self) (h.alone ndAll).1 fun S'' L' g m s pm => hJ _ _ (.mk _ _ _ L' _ (h.next ndAll (fun z hz => hpm.mem_iff.mpr hz) g m s ?_))⟩
    rw [came_move (hbe _ hx.1) hx.2]; exact pm
  cases h5 with | mk v K2 _ h5 =>
  refine r_fin rfl (hq _ K2 h5.go h5.made h5.srt (h5.pm.trans (List.Perm.trans ?_ (h.pm.map _).symm)))
  rw [List.map_append]
  refine List.Perm.append_left _ (List.Perm.of_eq (List.map_congr_left fun x hx => ?_))
  rw [came_stay (hbe x (h.sub.subset hx))]
  cases q : touch at_ at_ x && mvs at_ bm x with
  | false => rfl
  | true => exact (in_dj ndAll (List.mem_map_of_mem ((mem x).mpr ⟨h.sub.subset hx, q⟩)) (List.mem_map_of_mem hx)).elim
end
end
section
noncomputable abbrev ownL (d : D) : List AV := [.int d.b, .int d.e, .bool d.fr, .bool d.re]
noncomputable abbrev refN (nds : List (Addr × Int)) : List AV := nds.map fun p => .ref p.1
structure Lies (S : Sto) (d : Addr) (L : Cnt) (es : Es) : Prop where
  dt : S.dt d = some es
  keys : (es.map (·.1)).Perm (L.map fun x => x.2.num)
  own : ∀ x ∈ L, ∃ a, getE es x.2.num = some (.ref a) ∧ S.ls a = some (ownL x.2)
structure LawJ (S : Sto) (dk tr no : Addr) (j : Nat) (ms : List Int) (L : Cnt) (nds : List (Addr × Int)) : Prop where
  ne : dk ≠ no
  deck : S.ls dk = some (ms.map .int)
  pos : ∀ n ∈ ms, 0 ≤ n
  made : Made S tr L
  srt : Srt L
  be : ∀ x ∈ L, x.2.b ≤ x.2.e
  nodes : S.ls no = some (refN nds)
  recs : ∀ p ∈ nds, ∃ r, S.nd p.1 = some r ∧ r.number = p.2
  nums : (nds.map (·.2)).Nodup
  small : ∀ p ∈ nds, p.2 < (j : Int)
  len : nds.length ≤ j
  lenL : L.length ≤ j
  sub : ∀ x ∈ L, (x.1, x.2.num) ∈ nds
  num : (L.map fun x => x.2.num).Nodup
theorem IsT.nums {nd : Nd} {t : T} {p : Option Addr} {K : Int} (w : IsT nd p K t) : ∀ x ∈ t.io, ∃ r, nd x.1 = some r ∧ r.number = x.2.num := by
  induction t generalizing p K with
  | nil => exact fun _ h => absurd h List.not_mem_nil
  | node l a d c r ih1 ih2 =>
    obtain ⟨o, h, h1, h2⟩ := w
    intro x hx
    rcases List.mem_append.mp hx with hx | hx
    · exact ih1 h1 x hx
    rcases List.mem_cons.mp hx with rfl | hx
    · exact ⟨_, h, rfl⟩
    · exact ih2 h2 x hx
theorem Made.nums {S : Sto} {tr : Addr} {L : Cnt} (h : Made S tr L) : ∀ x ∈ L, ∃ r, S.nd x.1 = some r ∧ r.number = x.2.num := by
  obtain ⟨t, N, w, hr, hb, rfl⟩ := h
  exact w.tt.nums
theorem not_ints {d : D} {ns : List Int} (h : ns.map AV.int = ownL d) : False := by
  have h2 : (ns.map AV.int)[2]? = some (.bool d.fr) := congrArg (·[2]?) h
  rw [List.getElem?_map] at h2
  cases q : ns[2]? <;> rw [q] at h2 <;> cases h2
theorem not_refs {d : D} {nds : List (Addr × Int)} (h : refN nds = ownL d) : False := by cases nds <;> cases h
section
variable {S S' : Sto} {dk tr no li Da : Addr} {j : Nat} {ms ms' : List Int} {L L0 L' : Cnt} {nds : List (Addr × Int)} {es : Es} {A : Addr → Prop} {k : Int}
theorem Lies.go (h : Lies S li L es) (g : Go A S S') : Lies S' li L es := ⟨g.dt _ _ h.dt, h.keys, fun x hx => let ⟨a, e1, e2⟩ := h.own x hx; ⟨a, e1, g.ls _ _ e2⟩⟩
theorem Lies.perm (h : Lies S li L es) (p : L'.Perm L) : Lies S li L' es := ⟨h.dt, h.keys.trans (p.map _).symm, fun x hx => h.own x (p.mem_iff.mp hx)⟩
theorem Lies.newLs {xs : List AV} (h : Lies S li L es) (f : S.Free Da) : Lies (S.setLs Da xs) li L es := h.go (Go.refl (A := fun _ => False) |>.newLs f)
theorem Lies.deckSet (h : Lies S li L es) (hd : S.ls dk = some (ms.map .int)) : Lies (S.setLs dk (ms'.map .int)) li L es :=
  ⟨h.dt, h.keys, fun x hx => let ⟨a, e1, e2⟩ := h.own x hx; ⟨a, e1, (upd_ne fun z => by rw [z, hd] at e2; exact not_ints (Option.some.inj e2)).trans e2⟩⟩
theorem Lies.len (h : Lies S li L es) : es.length = L.length := by have := h.keys.length_eq; rw [List.length_map, List.length_map] at this; exact this
theorem LawJ.deckSet (h : LawJ S dk tr no j ms L nds) (hp : ∀ n ∈ ms', 0 ≤ n) : LawJ (S.setLs dk (ms'.map .int)) dk tr no j ms' L nds :=
  { h with
    deck := upd_same ..
    pos := hp
    made := h.made.same rfl rfl
    nodes := (upd_ne h.ne.symm).trans h.nodes }
theorem LawJ.newLs {xs : List AV} (h : LawJ S dk tr no j ms L nds) (hD : S.Free Da) : LawJ (S.setLs Da xs) dk tr no j ms L nds :=
  { h with
    deck := ls_new h.deck hD
    made := h.made.same rfl rfl
    nodes := ls_new h.nodes hD }
theorem LawJ.dts {xs : Es} (h : LawJ S dk tr no j ms L nds) : LawJ (S.setDt Da xs) dk tr no j ms L nds := { h with made := h.made.same rfl rfl }
theorem LawJ.next (h : LawJ S dk tr no j ms L nds) : LawJ S dk tr no (j + 1) ms L nds :=
  { h with
    small := fun p hp => Int.lt_trans (h.small p hp) (Int.ofNat_lt.mpr (Nat.lt_succ_self j))
    len := Nat.le_succ_of_le h.len
    lenL := Nat.le_succ_of_le h.lenL }
theorem recs_go (h : ∀ p ∈ nds, ∃ r, S.nd p.1 = some r ∧ r.number = p.2) (g : Go A S S') (hA : ∀ a, A a → ∀ r, S.nd a = some r → ∃ r', S'.nd a = some r' ∧ r'.number = r.number) : ∀ p ∈ nds, ∃ r, S'.nd p.1 = some r ∧ r.number = p.2 := fun p hp => by
  obtain ⟨r, h1, h2⟩ := h p hp
  by_cases q : A p.1
  · obtain ⟨r', h3, h4⟩ := hA _ q r h1
    exact ⟨r', h3, h4.trans h2⟩
  · exact ⟨r, (g.nd _ q).trans h1, h2⟩
theorem made_rec (m : Made S tr L) (m' : Made S' tr L') (g : ∀ x ∈ L, ∃ y ∈ L', y.1 = x.1 ∧ y.2.num = x.2.num) : ∀ a, a ∈ L.map Prod.fst → ∀ r, S.nd a = some r → ∃ r', S'.nd a = some r' ∧ r'.number = r.number := fun a ha r hr => by
  obtain ⟨x, hx, rfl⟩ := List.mem_map.mp ha
  obtain ⟨y, hy, e1, e2⟩ := g x hx
  obtain ⟨r1, h1, h2⟩ := m.nums x hx
  obtain ⟨r2, h3, h4⟩ := m'.nums y hy
  rw [hr] at h1; cases h1
  exact ⟨r2, e1 ▸ h3, h4.trans (e2.trans h2.symm)⟩
theorem LawJ.tree {g : D → D} (h : LawJ S dk tr no j ms L nds) (c : Go (· ∈ L.map Prod.fst) S S') (m : Made S' tr L') (s : Srt L') (p : L'.Perm (L.map fun x => (x.1, g x.2))) (hg : ∀ d, (g d).num = d.num) (hbe : ∀ x ∈ L, (g x.2).b ≤ (g x.2).e) : LawJ S' dk tr no j ms L' nds := by
  have en : (L'.map fun x => x.2.num).Perm (L.map fun x => x.2.num) := by
    have := p.map fun x => x.2.num
    rw [List.map_map] at this
    exact this.trans (List.Perm.of_eq (List.map_congr_left fun x _ => hg x.2))
  have mem : ∀ {y}, y ∈ L' → ∃ x ∈ L, (x.1, g x.2) = y := fun hy => List.mem_map.mp (p.mem_iff.mp hy)
  refine ⟨h.ne, c.ls _ _ h.deck, h.pos, m, s, fun y hy => ?_, c.ls _ _ h.nodes, recs_go h.recs c (made_rec h.made m fun x hx => ⟨_, p.mem_iff.mpr (List.mem_map_of_mem hx), rfl, hg _⟩), h.nums, h.small, h.len, by rw [p.length_eq, List.length_map]; exact h.lenL, fun y hy => ?_, en.nodup_iff.mpr h.num⟩
  · obtain ⟨x, hx, rfl⟩ := mem hy; exact hbe x hx
  · obtain ⟨x, hx, rfl⟩ := mem hy
    show (x.1, (g x.2).num) ∈ nds
    rw [hg]; exact h.sub x hx
theorem LawJ.go (h : LawJ S dk tr no j ms L nds) (c : Go (· ∈ L.map Prod.fst) S S') (m : Made S' tr L) : LawJ S' dk tr no j ms L nds :=
  h.tree (g := fun d => d) c m h.srt (by rw [List.map_id'']; intro x; rfl) (fun _ => rfl) h.be
theorem getE_cons (p : Int × AV) (es : Es) (k : Int) : getE (p :: es) k = if p.1 = k then some p.2 else getE es k := by
  unfold getE
  rw [List.find?_cons]
  by_cases h : p.1 = k
  · rw [decide_eq_true h, if_pos h]; rfl
  · rw [decide_eq_false h, if_neg h]
theorem getE_any (es : Es) (k : Int) : es.any (fun p => decide (p.1 = k)) = (getE es k).isSome := by
  induction es with
  | nil => rfl
  | cons p es ih =>
    rw [List.any_cons, getE_cons, ih]
    by_cases h : p.1 = k
    · rw [decide_eq_true h, if_pos h]; rfl
    · rw [decide_eq_false h, if_neg h]; rfl
theorem keys_putE {v w : AV} (h : getE es k = some w) : (putE es k v).map (·.1) = es.map (·.1) := by
  unfold putE
  rw [getE_any, h]
  refine List.map_map.trans (List.map_congr_left fun x _ => ?_)
  show (if x.1 = k then (x.1, v) else x).1 = x.1
  split <;> rfl
theorem keys_new {v : AV} (h : getE es k = none) : putE es k v = es ++ [(k, v)] := by
  unfold putE
  rw [getE_any, h]; rfl
theorem Lies.put {x : Addr × D} {es' : Es} (h : Lies S li L0 es) (hD : S.Free Da) (e : es' = putE es x.2.num (.ref Da)) (hk : (es'.map (·.1)).Perm (L'.map fun x => x.2.num)) (hL : ∀ y ∈ L', y.2.num ≠ x.2.num → y ∈ L0) (hx : ∀ y ∈ L', y.2.num = x.2.num → y.2 = x.2) :
    Lies ((S.setLs Da (ownL x.2)).setDt li es') li L' es' := by
  subst e
  refine ⟨upd_same .., hk, fun y hy => ?_⟩
  rw [getE_put]
  by_cases q : y.2.num = x.2.num
  · exact ⟨Da, if_pos q, by rw [hx y hy q]; exact upd_same ..⟩
  · obtain ⟨a, e1, e2⟩ := h.own y (hL y hy q)
    exact ⟨a, (if_neg q).trans e1, ls_new e2 hD⟩
theorem Lies.more {x : Addr × D} (h : Lies S li L es) (hk : getE es x.2.num = none) (hn : ∀ y ∈ L, y.2.num ≠ x.2.num) (hD : S.Free Da) (hp : L'.Perm (x :: L)) :
    Lies ((S.setLs Da (ownL x.2)).setDt li (putE es x.2.num (.ref Da))) li L' (putE es x.2.num (.ref Da)) := by
  have mem : ∀ {y}, y ∈ L' → y = x ∨ y ∈ L := fun hy => List.mem_cons.mp (hp.mem_iff.mp hy)
  refine h.put hD rfl ?_ (fun y hy q => (mem hy).elim (fun e => absurd (by rw [e]) q) id) fun y hy q => (mem hy).elim (fun e => by rw [e]) fun hy => absurd q (hn y hy)
  rw [keys_new hk, List.map_append]
  have e := (hp.map fun x : Addr × D => x.2.num).symm
  exact List.perm_append_comm.trans ((List.Perm.cons x.2.num h.keys).trans e)
end
end
section
noncomputable abbrev lawV (l dk tr no li : Addr) (lap way at_ many front rear number ah tale : Option AV) : Vs := .s (some (.ref l)) (.s (some (.ref dk)) (.s (some (.ref tr)) (.s (some (.ref no)) (.s (some (.ref li)) (.s lap (.s way (.s at_ (.s many (.s front (.s rear (.s number (.s ah (.s tale .nil)))))))))))))
section
variable {c : Cst} {k : Nat} {Q : AV → Sto → Prop} {S S' : Sto} {l dk tr no li : Addr} {j : Nat} {ms : List Int} {L L' : Cnt} {nds : List (Addr × Int)} {es : Es} {lap way front rear number ah tale : Option AV} {at_ many : Int} {ks : List KI}
theorem item_last {xs : List AV} {v : AV} (h : S.ls l = some (xs ++ [v])) : S.item (.ref l) (.int (-1)) = some v := by
  have e : (((-1 : Int) + ((xs ++ [v]).length : Nat))) = (xs.length : Nat) := by rw [List.length_append]; show -1 + ((xs.length + 1 : Nat) : Int) = _; omega
  show S.itemAt l (-1) = _
  unfold Sto.itemAt; rw [h]
  show itemL (xs ++ [v]) (-1) = _
  unfold itemL
  rw [if_neg (by decide), if_pos (by rw [List.length_append]; show -((xs.length + 1 : Nat) : Int) ≤ -1; omega), e, Int.toNat_natCast, List.getElem?_append_right (Nat.le_refl _), Nat.sub_self]; rfl
theorem LawJ.nokey (h : LawJ S dk tr no j ms L nds) (hL : Lies S li L es) : getE es (j : Int) = none ∧ ∀ y ∈ L, y.2.num ≠ (j : Int) := by
  have n : ∀ y ∈ L, y.2.num ≠ (j : Int) := fun y hy => Int.ne_of_lt (h.small _ (h.sub y hy))
  refine ⟨none_of fun v q => ?_, n⟩
  have : es.any (fun p => decide (p.1 = (j : Int))) = true := by rw [getE_any, q]; rfl
  obtain ⟨p, hp, e⟩ := List.any_eq_true.mp this
  obtain ⟨x, hx, e2⟩ := List.mem_map.mp (hL.keys.mem_iff.mp (List.mem_map_of_mem hp))
  exact n x hx (e2.trans (of_decide_eq_true e))
theorem LawJ.more {x : Addr} {d : D} (h : LawJ S dk tr no j ms L nds) (hx : S.nd x = none) (g : ∀ b, b ≠ x → b ∉ L.map Prod.fst → S'.nd b = S.nd b) (e1 : S'.ls dk = some (ms.map .int)) (e2 : S'.ls no = some (refN (nds ++ [(x, (j : Int))])))
    (m : Made S' tr L') (s : Srt L') (p : L'.Perm ((x, d) :: L)) (hd : d.num = j) (hbe : d.b ≤ d.e) : LawJ S' dk tr no (j + 1) ms L' (nds ++ [(x, (j : Int))]) := by
  have mem : ∀ {y}, y ∈ L' → y = (x, d) ∨ y ∈ L := fun hy => List.mem_cons.mp (p.mem_iff.mp hy)
  have lt : ∀ q ∈ nds ++ [(x, (j : Int))], q.2 < ((j + 1 : Nat) : Int) := fun q hq => (List.mem_append.mp hq).elim (fun hq => Int.lt_trans (h.small q hq) (Int.ofNat_lt.mpr (Nat.lt_succ_self j))) fun hq => by rw [List.mem_singleton.mp hq]; exact Int.ofNat_lt.mpr (Nat.lt_succ_self j)
  refine ⟨h.ne, e1, h.pos, m, s, fun y hy => (mem hy).elim (fun e => by rw [e]; exact hbe) (h.be y), e2, fun q hq => ?_, ?_, lt, ?_, by rw [p.length_eq]; exact Nat.succ_le_succ h.lenL, fun y hy => ?_, ?_⟩
  · rcases List.mem_append.mp hq with hq | hq
    · obtain ⟨r0, h1, h2⟩ := h.recs q hq
      have nx : q.1 ≠ x := fun e => by rw [e, hx] at h1; cases h1
      by_cases q' : q.1 ∈ L.map Prod.fst
      · obtain ⟨r', h3, h4⟩ := made_rec h.made m (fun y hy => ⟨y, p.mem_iff.mpr (List.mem_cons_of_mem _ hy), rfl, rfl⟩) _ q' r0 h1
        exact ⟨r', h3, h4.trans h2⟩
      · exact ⟨r0, (g _ nx q').trans h1, h2⟩
    · rw [List.mem_singleton.mp hq]
      obtain ⟨r, h1, h2⟩ := m.nums (x, d) (p.mem_iff.mpr List.mem_cons_self)
      exact ⟨r, h1, h2.trans hd⟩
  · rw [List.map_append]
    exact List.nodup_append.mpr ⟨h.nums, List.nodup_cons.mpr ⟨List.not_mem_nil, .nil⟩, fun a ha b hb e => by
      obtain ⟨q, hq, rfl⟩ := List.mem_map.mp ha
      have h1 := h.small q hq
      rw [e, List.mem_singleton.mp hb] at h1; exact Int.lt_irrefl _ h1⟩
  · rw [List.length_append]; exact Nat.succ_le_succ h.len
  · rcases mem hy with rfl | hy
    · exact List.mem_append_right _ (by rw [hd]; exact List.mem_singleton.mpr rfl)
    · exact List.mem_append_left _ (h.sub y hy)
  · refine (p.map fun x => x.2.num).nodup_iff.mpr (List.nodup_cons.mpr ⟨fun hm => ?_, h.num⟩)
    obtain ⟨y, hy, e⟩ := List.mem_map.mp hm
    exact Int.lt_irrefl _ (by have := h.small _ (h.sub y hy); rw [show y.2.num = (j : Int) from e.trans hd] at this; exact this)
theorem law_put (hJ : LawJ S dk tr no j ms L nds) (hL : Lies S li L es) (hj : j < 60) (hm : 0 ≤ many)
    (hq : ∀ S' ms' L' nds' es' f r, LawJ S' dk tr no (j + 1) ms' L' nds' → Lies S' li L' es' → Run c (k + 7) ⟨.done, ks, [], lawV l dk tr no li (some (.int j)) way (some (.int at_)) (some (.int many)) f r number ah tale⟩ Q S') :
    Run c (k + 7) ⟨cPut, ks, [], lawV l dk tr no li (some (.int j)) way (some (.int at_)) (some (.int many)) front rear number ah tale⟩ Q S := by
  refine r_call rfl rfl (law_draw_ok hJ.deck hJ.pos (by decide) (by decide) fun n1 f1 p1 _ _ _ => ?_)
  replace hL := hL.deckSet (ms' := n1) hJ.deck
  replace hJ := hJ.deckSet p1
  generalize S.setLs dk (n1.map .int) = S at *
  refine r_cmp rfl rfl ?_
  refine r_call rfl rfl (law_draw_ok hJ.deck hJ.pos (by decide) (by decide) fun n2 r1 p2 _ _ _ => ?_)
  replace hL := hL.deckSet (ms' := n2) hJ.deck
  replace hJ := hJ.deckSet p2
  generalize S.setLs dk (n2.map .int) = S at *
  refine r_cmp rfl rfl ?_
  generalize decide (f1 = 1) = fb
  generalize decide (r1 = 1) = rb
  refine r_tas rfl rfl rfl rfl ?_
  refine r_mchk rfl hJ.nodes rfl ?_
  refine r_call rfl rfl (node_new fun x hx => ?_)
  have hn : (refN nds).length < 1000 := by rw [List.length_map]; exact Nat.lt_of_le_of_lt hJ.len (Nat.lt_trans hj (by decide))
  refine r_app rfl hJ.nodes hn ?_
  refine r_mkl rfl rfl fun Da fDa => ?_
  obtain ⟨hkn, hkm⟩ := hJ.nokey hL
  have hL4 : Lies (((S.setNd x ⟨(j : Int), at_, at_ + many, fb, rb, at_ + many, 0, false, none, none, none⟩).setLs no (refN nds ++ [.ref x]))) li L es := ⟨hL.dt, hL.keys, fun y hy => let ⟨a, e1, e2⟩ := hL.own y hy; ⟨a, e1, (upd_ne fun z => by rw [z, hJ.nodes] at e2; exact not_refs (Option.some.inj e2)).trans e2⟩⟩
  refine r_siD rfl hL.dt (by rw [hL.len]; exact Nat.lt_of_le_of_lt hJ.lenL (Nat.lt_trans hj (by decide))) ?_
  have dk4 := ls_new (ys := ownL ⟨j, at_, at_ + many, fb, rb⟩) (l := dk) ((upd_ne hJ.ne).trans hJ.deck) fDa
  have no4 := ls_new (ys := ownL ⟨j, at_, at_ + many, fb, rb⟩) (l := no) (upd_same ..) fDa
  refine r_sub rfl (item_last no4) ?_
  have hxL : x ∉ L.map Prod.fst := fun h => by
    obtain ⟨y, hy, e⟩ := List.mem_map.mp h
    obtain ⟨r, hr, _⟩ := hJ.made.nums y hy
    rw [e, hx.nd] at hr; cases hr
  have hnt : tr ≠ x := fun e => by
    obtain ⟨t, N, w, _⟩ := hJ.made
    have := w.rt
    rw [e, hx.tr] at this; cases this
  refine r_call rfl rfl (put_node_S (hJ.made.congr (fun b hb => upd_ne fun z => hxL (z ▸ hb)) ((upd_ne hnt).trans hJ.made.nn) rfl) hJ.srt (upd_same ..) hxL fun S6 L6 c6 m6 s6 p6 => ?_)
  have hL6 := (hL4.more (x := (x, ⟨j, at_, at_ + many, fb, rb⟩)) hkn hkm fDa p6).go c6
  have hJ6 := hJ.more hx.nd (fun b nb hb => (c6.nd b fun h => h.elim nb hb).trans (upd_ne nb)) (c6.ls _ _ dk4) (by rw [refN, List.map_append]; exact c6.ls _ _ no4) m6 s6 p6 rfl (Int.le_add_of_nonneg_right hm)
  exact Run.goN 1 rfl (hq S6 n2 L6 _ _ _ _ hJ6 hL6)
end
end
section
section
variable {c : Cst} {k : Nat} {Q : AV → Sto → Prop} {S S' : Sto} {l dk tr no li : Addr} {j : Nat} {ms : List Int} {L L' : Cnt} {nds : List (Addr × Int)} {es : Es} {lap way at_ many front rear number ah tale : Option AV} {ks : List KI}
theorem getE_del (es : Es) (k j : Int) (h : j ≠ k) : getE (delE es k) j = getE es j := by
  unfold delE
  induction es with
  | nil => rfl
  | cons p es ih =>
    by_cases h1 : p.1 = k
    · rw [List.filter_cons_of_neg (p := fun p : Int × AV => decide (p.1 ≠ k)) (fun e => absurd h1 (of_decide_eq_true e)), ih, getE_cons, if_neg (by rw [h1]; exact fun e => h e.symm)]
    · rw [List.filter_cons_of_pos (p := fun p : Int × AV => decide (p.1 ≠ k)) (decide_eq_true h1), getE_cons, getE_cons, ih]
theorem Lies.less {x : Addr × D} (h : Lies S li L es) (hn : (L.map fun x => x.2.num).Nodup) (p : L.Perm (x :: L')) : Lies (S.setDt li (delE es x.2.num)) li L' (delE es x.2.num) := by
  have e := p.map fun x : Addr × D => x.2.num
  have n2 := List.nodup_cons.mp (e.nodup_iff.mp hn)
  have ne : ∀ y ∈ L', y.2.num ≠ x.2.num := fun y hy q => n2.1 (List.mem_map.mpr ⟨y, hy, q⟩)
  refine ⟨upd_same .., ?_, fun y hy => ?_⟩
  · have e2 := (h.keys.trans e).filter fun y => decide (y ≠ x.2.num)
    unfold delE
    rw [List.filter_map] at e2
    refine e2.trans (List.Perm.of_eq ?_)
    rw [List.map_cons, List.filter_cons_of_neg (p := fun y => decide (y ≠ x.2.num)) (fun e => absurd rfl (of_decide_eq_true e)), List.filter_eq_self]
    intro a ha
    obtain ⟨y, hy, rfl⟩ := List.mem_map.mp ha
    exact decide_eq_true (ne y hy)
  · obtain ⟨a, e1, e2⟩ := h.own y (p.mem_iff.mpr (List.mem_cons_of_mem _ hy))
    exact ⟨a, (getE_del _ _ _ (ne y hy)).trans e1, e2⟩
theorem find_node {a : Addr} {num : Int} : ∀ {nds : List (Addr × Int)}, (nds.map (·.2)).Nodup → (a, num) ∈ nds → nds.filter (fun p => decide (p.2 = num)) = [(a, num)]
  | [], _, h => absurd h List.not_mem_nil
  | p :: r, hn, h => by
    have hn := List.nodup_cons.mp hn
    rcases List.mem_cons.mp h with e | h
    · subst e
      rw [List.filter_cons_of_pos (p := fun p : Addr × Int => decide (p.2 = num)) (decide_eq_true rfl), List.filter_eq_nil_iff.mpr fun q hq e => hn.1 (List.mem_map.mpr ⟨q, hq, of_decide_eq_true e⟩)]
    · rw [List.filter_cons_of_neg (p := fun p : Addr × Int => decide (p.2 = num)) fun e => hn.1 (List.mem_map.mpr ⟨_, h, (of_decide_eq_true e).symm⟩), find_node hn.2 h]
theorem LawJ.drop {x : Addr × D} (h : LawJ S dk tr no j ms L nds) (c : Go (· ∈ L.map Prod.fst) S S') (m : Made S' tr L') (sub : L'.Sublist L) (pm : L.Perm (x :: L')) (r : Rec S' x) : LawJ S' dk tr no j ms L' nds := by
  refine ⟨h.ne, c.ls _ _ h.deck, h.pos, m, List.Pairwise.sublist sub h.srt, fun y hy => h.be y (sub.subset hy), c.ls _ _ h.nodes, recs_go h.recs c fun a ha r0 h1 => ?_, h.nums, h.small, h.len, Nat.le_trans sub.length_le h.lenL, fun y hy => h.sub y (sub.subset hy), h.num.sublist (sub.map _)⟩
  obtain ⟨y, hy, rfl⟩ := List.mem_map.mp ha
  obtain ⟨r1, h3, h4⟩ := h.made.nums y hy
  rw [h1] at h3; cases h3
  rcases List.mem_cons.mp (pm.mem_iff.mp hy) with rfl | hy
  · obtain ⟨lim, red, e⟩ := r; exact ⟨_, e, h4.symm⟩
  · obtain ⟨r2, h5, h6⟩ := m.nums y hy; exact ⟨r2, h5, h6.trans h4.symm⟩
theorem law_drop (hJ : LawJ S dk tr no j ms L nds) (hL : Lies S li L es) (hj : j < 60) (hne : es ≠ [])
    (hq : ∀ S' ms' L' es' nb, LawJ S' dk tr no j ms' L' nds → Lies S' li L' es' → Run c (k + 7) ⟨.done, ks, [], lawV l dk tr no li lap way at_ many front rear nb ah tale⟩ Q S') :
    Run c (k + 7) ⟨cDrop, ks, [], lawV l dk tr no li lap way at_ many front rear number ah tale⟩ Q S := by
  have hz : L.length < 60 := Nat.lt_of_le_of_lt hJ.lenL hj
  have he : es.length < 60 := by rw [hL.len]; exact hz
  refine r_call rfl rfl (CW.sortedKeys hL.dt (Nat.lt_trans he (by decide)) fun sk q fsk pq _ => ?_)
  have nsk : sk ≠ dk := (ls_ne hJ.deck fsk).symm
  replace hJ := hJ.newLs (xs := q.map .int) fsk
  replace hL := hL.newLs (xs := q.map .int) fsk
  have hsk : (S.setLs sk (q.map .int)).ls sk = some (q.map .int) := upd_same ..
  clear fsk
  generalize S.setLs sk (q.map .int) = S at *
  refine r_call rfl rfl (CW.lenD hL.dt ?_)
  refine r_call rfl rfl (law_draw_ok hJ.deck hJ.pos (Int.ofNat_lt.mpr (List.length_pos_iff.mpr hne)) (Int.ofNat_lt.mpr (Nat.lt_trans he (by decide))) fun n1 v p1 _ v0 v1 => ?_)
  replace hL := hL.deckSet (ms' := n1) hJ.deck
  replace hJ := hJ.deckSet p1
  replace hsk : (S.setLs dk (n1.map .int)).ls sk = some (q.map .int) := (upd_ne nsk).trans hsk
  generalize S.setLs dk (n1.map .int) = S at *
  clear nsk
  obtain ⟨v, rfl⟩ := Int.eq_ofNat_of_zero_le v0
  have hv : v < q.length := by
    have := Int.ofNat_lt.mp v1
    rw [pq.length_eq, List.length_map]; exact this
  obtain ⟨x, hx, hxn⟩ := List.mem_map.mp (hL.keys.mem_iff.mp (pq.mem_iff.mp (List.getElem_mem hv)))
  have hxs := hJ.sub x hx
  refine r_sub rfl (item_ls (j := v) (v := .int x.2.num) hsk (by rw [List.getElem?_map, List.getElem?_eq_getElem hv, ← hxn]; rfl)) ?_
  clear hsk pq hxn v0 v1 hv
  refine r_lcp (xs := nds) (fun p => .ref p.1) (fun p => decide (p.2 = x.2.num)) (fun p => .ref p.1) (fun v => .s none (.s v (.s (some (.int x.2.num)) .nil))) rfl (lsLst hJ.nodes) rfl (fun _ _ => rfl)
    (fun p hp J hT => ?_) (fun p _ _ J hT => r_kv rfl hT) fun Db fDb => ?_
  · obtain ⟨r, hr1, hr2⟩ := hJ.recs p hp
    rw [← hr2] at hT
    exact r_gf rfl hr1 rfl (r_cmp rfl rfl (r_kv rfl hT))
  rw [find_node hJ.nums hxs]
  refine r_sub rfl (item_ls (j := 0) ls_same rfl) ?_
  replace hJ := hJ.newLs (xs := [(x.1, x.2.num)].map fun p => .ref p.1) fDb
  replace hL := hL.newLs (xs := [(x.1, x.2.num)].map fun p => .ref p.1) fDb
  clear fDb
  generalize S.setLs Db ([(x.1, x.2.num)].map fun p => .ref p.1) = S at *
  refine r_call rfl rfl (drop_node_S hJ.made hx (Nat.lt_trans hz (by decide)) fun S4 L4 c4 m4 s4 p4 r4 => ?_)
  obtain ⟨a0, ga0, _⟩ := hL.own x hx
  have hL4 := hL.go c4
  refine r_mchkD rfl hL4.dt rfl ?_
  refine r_dpop rfl hL4.dt ga0 ?_
  exact Run.goN 1 rfl (hq _ n1 L4 _ _ (hJ.drop c4 m4 s4 p4 r4).dts (hL4.less hJ.num p4))
end
end
section
noncomputable def updL (g : D → D) (done : List Int) (L : Cnt) : Cnt := L.map fun x => (x.1, if x.2.num ∈ done then g x.2 else x.2)
theorem num_inj : ∀ {L : Cnt}, (L.map fun x => x.2.num).Nodup → ∀ {x y : Addr × D}, x ∈ L → y ∈ L → y.2.num = x.2.num → y = x
  | [], _, _, _, h, _, _ => absurd h List.not_mem_nil
  | z :: r, hn, x, y, hx, hy, e => by
    have hn := List.nodup_cons.mp hn
    rcases List.mem_cons.mp hx with ex | hx
    · rcases List.mem_cons.mp hy with ey | hy
      · exact ey.trans ex.symm
      · exact absurd (List.mem_map.mpr ⟨y, hy, e.trans (congrArg (fun q => q.2.num) ex)⟩) hn.1
    · rcases List.mem_cons.mp hy with ey | hy
      · exact absurd (List.mem_map.mpr ⟨x, hx, e.symm.trans (congrArg (fun q => q.2.num) ey)⟩) hn.1
      · exact num_inj hn.2 hx hy e
section
variable {c : Cst} {k : Nat} {Q : AV → Sto → Prop} {S S' : Sto} {l dk tr no li sk : Addr} {j : Nat} {ms : List Int} {L L' : Cnt} {nds : List (Addr × Int)} {es : Es} {lap way at_ many front rear number ah tale : Option AV} {ks : List KI} {g : D → D} {done q : List Int} {x : Addr × D}
theorem updL_num (hg : ∀ d, (g d).num = d.num) (y : Addr × D) : (if y.2.num ∈ done then g y.2 else y.2).num = y.2.num := by split; exact hg _; rfl
theorem updL_nums (hg : ∀ d, (g d).num = d.num) : (updL g done L).map (fun x => x.2.num) = L.map fun x => x.2.num := List.map_map.trans (List.map_congr_left fun x _ => updL_num hg x)
theorem updL_all (h : ∀ x ∈ L, x.2.num ∈ done) : updL g done L = L.map fun x => (x.1, g x.2) := List.map_congr_left fun x hx => by rw [if_pos (h x hx)]
theorem updL_none : updL g [] L = L := by
  unfold updL
  rw [List.map_congr_left (g := id) fun x _ => by rw [if_neg List.not_mem_nil]; rfl, List.map_id]
theorem Lies.updGet (h : Lies S li (updL g done L) es) (hx : x ∈ L) (hd : x.2.num ∉ done) : ∃ a, getE es x.2.num = some (.ref a) ∧ S.ls a = some (ownL x.2) :=
  h.own (x.1, x.2) (List.mem_map.mpr ⟨x, hx, by rw [if_neg hd]⟩)
theorem Lies.updPut {Da : Addr} (h : Lies S li (updL g done L) es) (hg : ∀ d, (g d).num = d.num) (hn : (L.map fun x => x.2.num).Nodup) (hx : x ∈ L) (hd : x.2.num ∉ done) (hD : S.Free Da) :
    Lies ((S.setLs Da (ownL (g x.2))).setDt li (putE es x.2.num (.ref Da))) li (updL g (done ++ [x.2.num]) L) (putE es x.2.num (.ref Da)) := by
  obtain ⟨a, ga, _⟩ := h.updGet hx hd
  have mem : ∀ {y}, y ∈ updL g (done ++ [x.2.num]) L → ∃ z ∈ L, (z.1, if z.2.num ∈ done ++ [x.2.num] then g z.2 else z.2) = y := List.mem_map.mp
  refine h.put (x := (x.1, g x.2)) hD (by rw [hg]) ?_ (fun y hy n => ?_) fun y hy e => ?_
  · rw [keys_putE ga, updL_nums hg]
    have := h.keys
    rw [updL_nums hg] at this; exact this
  · obtain ⟨z, hz, rfl⟩ := mem hy
    have n : z.2.num ≠ x.2.num := fun e => n ((updL_num hg z).trans (e.trans (hg _).symm))
    refine List.mem_map.mpr ⟨z, hz, ?_⟩
    by_cases m : z.2.num ∈ done
    · rw [if_pos m, if_pos (List.mem_append_left _ m)]
    · rw [if_neg m, if_neg fun h => (List.mem_append.mp h).elim m fun h => n (List.mem_singleton.mp h)]
  · obtain ⟨z, hz, rfl⟩ := mem hy
    cases num_inj hn hx hz ((updL_num hg z).symm.trans (e.trans (hg _)))
    exact if_pos (List.mem_append_right _ (List.mem_singleton.mpr rfl))
inductive EachI (fr : Option AV → Vs) (dk tr no li sk : Addr) (j : Nat) (ms : List Int) (L L' : Cnt) (nds : List (Addr × Int)) (g : D → D) (q : List Int) : List Int → List Int → Vs → Sto → Prop
  | mk (done rest : List Int) (nb : Option AV) (es : Es) (S : Sto) : q = done ++ rest → LawJ S dk tr no j ms L' nds → S.ls sk = some (q.map .int) → Lies S li (updL g done L) es → EachI fr dk tr no li sk j ms L L' nds g q done rest (fr nb) S
theorem law_each {B : Code} (hg : ∀ d, (g d).num = d.num) (hJ : LawJ S dk tr no j ms L' nds) (hL : Lies S li L es) (hn : (L.map fun x => x.2.num).Nodup) (hz : L.length < 60) (pm : L'.Perm (L.map fun x => (x.1, g x.2)))
    (hB : ∀ (S : Sto) (x : Addr × D) (a : Addr) (es : Es) (J : Vs → Sto → Prop), S.dt li = some es → getE es x.2.num = some (.ref a) → S.ls a = some (ownL x.2) → es.length < 1000 →
      (∀ Da, S.Free Da → J (lawV l dk tr no li lap way at_ many front rear (some (.int x.2.num)) ah tale) ((S.setLs Da (ownL (g x.2))).setDt li (putE es x.2.num (.ref Da)))) → Run c (k + 7) ⟨B, .lp J :: ks, [], lawV l dk tr no li lap way at_ many front rear (some (.int x.2.num)) ah tale⟩ Q S)
    (hq : ∀ S' es' nb, LawJ S' dk tr no j ms L' nds → Lies S' li L' es' → Run c (k + 7) ⟨.done, ks, [], lawV l dk tr no li lap way at_ many front rear nb ah tale⟩ Q S') :
    Run c (k + 7) ⟨.ld 4 <| .call (.builtin "sorted") 1 <| .forl 11 B <| .done, ks, [], lawV l dk tr no li lap way at_ many front rear number ah tale⟩ Q S := by
  refine r_call rfl rfl (CW.sortedKeys hL.dt (by rw [hL.len]; exact Nat.lt_trans hz (by decide)) fun sk q fsk pq _ => ?_)
  have pq := pq.trans hL.keys
  have hqn := pq.nodup_iff.mpr hn
  refine r_forl (xs := q) AV.int (EachI (fun nb => lawV l dk tr no li lap way at_ many front rear nb ah tale) dk tr no li sk j ms L L' nds g q) rfl (fun _ _ _ _ h => by cases h with | mk _ _ _ _ _ h _ => exact lsLst h)
    (.mk _ _ _ es _ rfl (hJ.newLs fsk) (upd_same ..) (by rw [updL_none]; exact hL.newLs fsk)) (fun done v rest vs S h => ?_) fun vs S h => ?_
  · cases h with | mk nb es _ hsp hJ hsk hL =>
    have hvd : v ∉ done := fun hv => by rw [hsp] at hqn; exact in_dj hqn hv List.mem_cons_self
    obtain ⟨x, hx, rfl⟩ := List.mem_map.mp (pq.mem_iff.mp (show v ∈ q by rw [hsp]; exact List.mem_append_right _ List.mem_cons_self))
    obtain ⟨a, ga, la⟩ := hL.updGet hx hvd
    refine ⟨_, rfl, fun J hj => hB _ x a es J hL.dt ga la (by rw [hL.len, updL, List.length_map]; exact Nat.lt_trans hz (by decide)) fun Da fDa => hj _ _ (.mk _ _ _ _ _ (hsp.trans app1) (hJ.newLs fDa).dts (ls_new hsk fDa) (hL.updPut hg hn hx hvd fDa))⟩
  · cases h with | mk nb es _ hsp hJ hsk hL =>
    rw [updL_all fun x hx => pq.mem_iff.mpr (List.mem_map.mpr ⟨x, hx, rfl⟩)] at hL
    exact hq _ _ _ hJ (hL.perm pm)
end
end
section
theorem sort_uniq {a b : List Int} (h : a.Perm b) (ha : a.Pairwise (· ≤ ·)) (hb : b.Pairwise (· ≤ ·)) : a = b := List.Perm.eq_of_pairwise (fun _ _ _ _ h1 h2 => Int.le_antisymm h1 h2) ha hb h
noncomputable def tchE (L : Cnt) (lo hi : Int) (v : Int) : Bool := L.any fun x => decide (x.2.num = v) && touch lo hi x
theorem tchE_at {L : Cnt} {lo hi : Int} (hn : (L.map fun x => x.2.num).Nodup) {x : Addr × D} (hx : x ∈ L) : tchE L lo hi x.2.num = touch lo hi x := by
  unfold tchE
  cases q : touch lo hi x with
  | true => exact List.any_eq_true.mpr ⟨x, hx, by rw [q, Bool.and_true]; exact decide_eq_true rfl⟩
  | false =>
    refine List.any_eq_false.mpr fun y hy e => ?_
    have e := Bool.and_eq_true_iff.mp e
    rw [num_inj hn hx hy (of_decide_eq_true e.1), q] at e
    cases e.2
theorem filter_tch {L : Cnt} {lo hi : Int} (hn : (L.map fun x => x.2.num).Nodup) : (L.map fun x => x.2.num).filter (tchE L lo hi) = (L.filter (touch lo hi)).map fun x => x.2.num := by
  rw [List.filter_map]
  exact congrArg _ (List.filter_congr fun x hx => tchE_at hn hx)
section
variable {c : Cst} {k : Nat} {S S' : Sto} {l dk tr no li : Addr} {j : Nat} {ms : List Int} {L L' : Cnt} {nds : List (Addr × Int)} {es : Es} {ks : List KI}
theorem law_asked_ok {Q : AV → Sto → Prop} (hJ : LawJ S dk tr no j ms L nds) (hL : Lies S li L es) (hz : L.length < 60) (hq : ∀ S' ms', LawJ S' dk tr no j ms' L nds → Lies S' li L es → Q (.bool true) S') : CW c (k + 3) (.ref 286) [.ref dk, .ref tr, .ref li] Q S := by
  refine f286.call rfl (r_call rfl rfl (law_draw_ok hJ.deck hJ.pos (by decide) (by decide) fun n1 lo p1 _ _ _ => ?_))
  replace hL := hL.deckSet (ms' := n1) hJ.deck
  replace hJ := hJ.deckSet p1
  generalize S.setLs dk (n1.map .int) = S at *
  refine r_call rfl rfl (law_draw_ok hJ.deck hJ.pos (by decide) (by decide) fun n2 wd p2 _ _ _ => ?_)
  replace hL := hL.deckSet (ms' := n2) hJ.deck
  replace hJ := hJ.deckSet p2
  generalize S.setLs dk (n2.map .int) = S at *
  refine r_call rfl rfl (nodes_between_made hJ.made hJ.srt (Nat.lt_trans hz (by decide)) fun S1 p g1 l1 m1 A1 => ?_)
  replace hL := hL.go g1
  replace hJ := hJ.go g1 m1
  generalize lo + wd = hi at *
  refine r_lcp (xs := L.filter (touch lo hi)) (fun x => .ref x.1) (fun _ => true) (fun x => .int x.2.num) (fun v => .s none (.s v .nil)) rfl (lsLst l1) rfl (fun _ _ => rfl) (fun x _ J hT => r_kv rfl hT)
    (fun x hx _ J hT => r_ab rfl (let ⟨h1, h2⟩ := List.mem_filter.mp hx; A1 x h1 h2) rfl (r_kv rfl hT)) fun fo ffo => ?_
  have e : ((L.filter (touch lo hi)).filter fun _ => true).map (fun x => AV.int x.2.num) = ((L.filter (touch lo hi)).map fun x => x.2.num).map .int := by
    rw [List.filter_eq_self.mpr fun _ _ => rfl, List.map_map]; rfl
  rw [e, ← filter_tch hJ.num]
  replace hJ := hJ.newLs (xs := ((L.map fun x => x.2.num).filter (tchE L lo hi)).map .int) ffo
  replace hL := hL.newLs (xs := ((L.map fun x => x.2.num).filter (tchE L lo hi)).map .int) ffo
  have hf : (S1.setLs fo (((L.map fun x => x.2.num).filter (tchE L lo hi)).map .int)).ls fo = some (((L.map fun x => x.2.num).filter (tchE L lo hi)).map .int) := upd_same ..
  clear g1 l1 m1 A1 e ffo
  generalize S1.setLs fo _ = S1 at *
  refine r_call rfl rfl (CW.sortedInts (lsLst hf) (Nat.lt_of_le_of_lt (List.length_filter_le _ _) (by rw [List.length_map]; exact Nat.lt_trans hz (by decide))) fun s1 q1 f1 r1 o1 => ?_)
  replace hJ := hJ.newLs (xs := q1.map .int) f1
  replace hL := hL.newLs (xs := q1.map .int) f1
  have hs1 : (S1.setLs s1 (q1.map .int)).ls s1 = some (q1.map .int) := upd_same ..
  clear f1 hf
  generalize S1.setLs s1 (q1.map .int) = S1 at *
  refine r_call rfl rfl (CW.sortedKeys hL.dt (by rw [hL.len]; exact Nat.lt_trans hz (by decide)) fun s2 q2 f2 r2 o2 => ?_)
  replace hJ := hJ.newLs (xs := q2.map .int) f2
  replace hL := hL.newLs (xs := q2.map .int) f2
  replace hs1 := ls_new (ys := q2.map .int) hs1 f2
  have hs2 : (S1.setLs s2 (q2.map .int)).ls s2 = some (q2.map .int) := upd_same ..
  clear f2
  generalize S1.setLs s2 (q2.map .int) = S1 at *
  replace r2 := r2.trans hL.keys
  refine r_lcp (xs := q2) AV.int (tchE L lo hi) AV.int (fun v => .s none (.s v (.s (some (.int lo)) (.s (some (.int hi)) (.s (some (.ref li)) .nil))))) rfl (lsLst hs2) rfl (fun _ _ => rfl) (fun z hz J hT => ?_) (fun z _ _ J hT => r_kv rfl hT) fun s3 f3 => ?_
  · obtain ⟨x, hx, rfl⟩ := List.mem_map.mp (r2.mem_iff.mp hz)
    obtain ⟨a, ga, la⟩ := hL.own x hx
    rw [tchE_at hJ.num hx] at hT
    unfold touch at hT
    refine r_subD rfl hL.dt ga ?_
    refine r_sub rfl (item_ls (j := 0) la rfl) (r_brd (p := x.2.b ≤ hi) rfl rfl (fun h => ?_) fun h => ?_)
    · rw [decide_eq_true h, Bool.true_and] at hT
      refine r_subD rfl hL.dt ga ?_
      refine r_sub rfl (item_ls (j := 1) la rfl) (r_brd (p := lo ≤ x.2.e) rfl rfl (fun h => r_kv rfl ?_) fun h => r_kv rfl ?_)
      · rw [decide_eq_true h] at hT; exact hT
      · rw [decide_eq_false h] at hT; exact hT
    · rw [decide_eq_false h] at hT
      exact r_kv rfl hT
  refine r_cmp rfl (cmpEq_ints (ls_new hs1 f3) ls_same) (r_ret rfl ?_)
  rw [decide_eq_true (sort_uniq (r1.trans (r2.filter _).symm) o1 (o2.filter _))]
  exact hq _ _ (hJ.newLs f3) (hL.newLs f3)
end
section
variable {c : Cst} {k : Nat} {Q : AV → Sto → Prop} {S S' : Sto} {l dk tr no li : Addr} {j : Nat} {ms : List Int} {L L' : Cnt} {nds : List (Addr × Int)} {es : Es} {ks : List KI} {at_ many : Int} {lap way front rear number ah tale oat omany : Option AV}
theorem law_ask (hJ : LawJ S dk tr no j ms L nds) (hL : Lies S li L es) (hj : j < 60) (hq : ∀ S' ms', LawJ S' dk tr no j ms' L nds → Lies S' li L es → Run c (k + 7) ⟨.done, ks, [], lawV l dk tr no li lap way oat omany front rear number ah tale⟩ Q S') :
    Run c (k + 7) ⟨cAsk, ks, [], lawV l dk tr no li lap way oat omany front rear number ah tale⟩ Q S :=
  r_call rfl rfl (law_asked_ok hJ hL (Nat.lt_of_le_of_lt hJ.lenL hj) fun S' ms' h1 h2 => Run.goN 4 rfl (hq S' ms' h1 h2))
theorem came_be {bm : Bool} {d : D} (hm : 0 < many) (h : d.b ≤ d.e) : (came at_ many bm d).b ≤ (came at_ many bm d).e := by
  show (if cameB d.b d.e at_ d.fr d.re bm = true then d.b + many else d.b) ≤ if growsB d.e d.re at_ bm = true then d.e + many else d.e
  have key : cameB d.b d.e at_ d.fr d.re bm = true → growsB d.e d.re at_ bm = true := fun q => by
    unfold cameB at q
    unfold growsB
    rw [Bool.or_eq_true, decide_eq_true_eq] at q ⊢
    rcases q with q | q
    · exact .inl (Int.lt_of_lt_of_le q h)
    rw [Bool.and_eq_true, decide_eq_true_eq] at q ⊢
    by_cases p : at_ < d.e
    · exact .inl p
    · have e : d.e = at_ := Int.le_antisymm (Int.not_lt.mp p) (q.1 ▸ h)
      refine .inr ⟨e, ?_⟩
      rw [e, q.1, decide_eq_false (Int.lt_irrefl _), Bool.false_or] at q
      have q := q.2
      generalize d.fr = f at q
      cases bm <;> cases f <;> first | exact q | cases q | rfl
  by_cases q : cameB d.b d.e at_ d.fr d.re bm = true
  · rw [if_pos q, if_pos (key q)]; exact Int.add_le_add_right h _
  · rw [if_neg q]; split
    · exact Int.le_trans h (Int.le_add_of_nonneg_right (Int.le_of_lt hm))
    · exact h
theorem law_open (hJ : LawJ S dk tr no j ms L nds) (hL : Lies S li L es) (hj : j < 60)
    (hq : ∀ S' ms' L' es' nb a, LawJ S' dk tr no j ms' L' nds → Lies S' li L' es' → Run c (k + 7) ⟨.done, ks, [], lawV l dk tr no li lap way (some (.int at_)) (some (.int many)) front rear nb a tale⟩ Q S') :
    Run c (k + 7) ⟨cOpen, ks, [], lawV l dk tr no li lap way (some (.int at_)) (some (.int many)) front rear number ah tale⟩ Q S := by
  refine r_call rfl rfl (law_draw_ok hJ.deck hJ.pos (by decide) (by decide) fun n1 f1 p1 _ _ _ => ?_)
  replace hL := hL.deckSet (ms' := n1) hJ.deck
  replace hJ := hJ.deckSet p1
  generalize S.setLs dk (n1.map .int) = S at *
  refine r_cmp rfl rfl ?_
  generalize decide (f1 = 2) = bm
  have hz : L.length < 60 := Nat.lt_of_le_of_lt hJ.lenL hj
  by_cases hm : 0 < many
  · refine r_call rfl rfl (open_gap_ok hJ.made hJ.srt hJ.be (Nat.lt_trans hz (by decide)) hm fun S2 L' c2 m2 s2 p2 => ?_)
    refine r_brd (p := 0 < many) rfl rfl (fun _ => ?_) fun h => absurd hm h
    exact law_each (g := came at_ many bm) (fun _ => rfl) (hJ.tree c2 m2 s2 p2 (fun _ => rfl) fun x hx => came_be hm (hJ.be x hx)) (hL.go c2) hJ.num hz p2
      (fun S x a es J h1 h2 h3 h4 H => r_subD rfl h1 h2 (r_call rfl rfl (law_came_ok h3 fun Da fDa => r_siD rfl h1 h4 (r_lp rfl (H Da fDa))))) fun S' es' nb h1 h2 => Run.goN 1 rfl (hq _ _ _ _ _ _ h1 h2)
  · refine r_call rfl rfl (open_gap_zero (Int.not_lt.mp hm) ?_)
    exact r_brd (p := 0 < many) rfl rfl (fun h => absurd h hm) fun _ => Run.goN 1 rfl (hq _ _ _ _ _ _ hJ hL)
theorem clD_B (at_ many b : Int) : (if at_ < b then max at_ (b - many) else b) = if b ≤ at_ then b else max at_ (b - many) := by
  by_cases h : b ≤ at_
  · rw [if_pos h, if_neg (Int.not_lt.mpr h)]
  · rw [if_neg h, if_pos (Int.not_le.mp h)]
theorem clD_be {d : D} (h : d.b ≤ d.e) (hm : 0 ≤ many) : (clD at_ many d).b ≤ (clD at_ many d).e := by
  unfold clD; dsimp only
  split <;> split <;> omega
theorem clD_zero (d : D) : clD at_ 0 d = d := by
  have e : ∀ b : Int, (if at_ < b then max at_ (b - 0) else b) = b := fun b => by
    rw [Int.sub_zero]
    split
    · exact Int.max_eq_right (Int.le_of_lt ‹_›)
    · rfl
  unfold clD
  rw [e, e]
theorem law_gap (hJ : LawJ S dk tr no j ms (L.map fun x => (x.1, clD at_ many x.2)) nds) (hL : Lies S li L es) (hn : (L.map fun x => x.2.num).Nodup) (hz : L.length < 60)
    (hq : ∀ S' ms' L' es' nb, LawJ S' dk tr no j ms' L' nds → Lies S' li L' es' → Run c (k + 7) ⟨.done, ks, [], lawV l dk tr no li lap way (some (.int at_)) (some (.int many)) front rear nb ah tale⟩ Q S') :
    Run c (k + 7) ⟨cGone, ks, [], lawV l dk tr no li lap way (some (.int at_)) (some (.int many)) front rear number ah tale⟩ Q S :=
  law_each (g := clD at_ many) (fun _ => rfl) hJ hL hn hz (.refl _) (fun S x a es J h1 h2 h3 h4 H => r_subD rfl h1 h2 (r_call rfl rfl (law_gone_ok h3 fun Da fDa => r_siD rfl h1 h4 (r_lp rfl (by
    have := H Da fDa
    unfold clD ownL at this
    dsimp only at this
    rw [clD_B, clD_B] at this
    exact this))))) fun S' es' nb h1 h2 => hq _ _ _ _ _ h1 h2
theorem law_close (hJ : LawJ S dk tr no j ms L nds) (hL : Lies S li L es) (hj : j < 60) (hm0 : 0 ≤ many)
    (hq : ∀ S' ms' L' es' nb, LawJ S' dk tr no j ms' L' nds → Lies S' li L' es' → Run c (k + 7) ⟨.done, ks, [], lawV l dk tr no li lap way (some (.int at_)) (some (.int many)) front rear nb ah tale⟩ Q S') :
    Run c (k + 7) ⟨cClose, ks, [], lawV l dk tr no li lap way (some (.int at_)) (some (.int many)) front rear number ah tale⟩ Q S := by
  have hz : L.length < 60 := Nat.lt_of_le_of_lt hJ.lenL hj
  by_cases hm : 0 < many
  · exact r_call rfl rfl (close_gap_made hJ.made hJ.srt hJ.be (Nat.lt_trans hz (by decide)) hm fun S2 c2 m2 s2 => Run.goN 1 rfl (law_gap (hJ.tree c2 m2 s2 (.refl _) (fun _ => rfl) fun x hx => clD_be (hJ.be x hx) hm0) (hL.go c2) hJ.num hz hq))
  · have e0 := Int.le_antisymm (Int.not_lt.mp hm) hm0
    subst e0
    refine r_call rfl rfl (close_gap_zero (Int.le_refl _) (Run.goN 1 rfl (law_gap (ms := ms) ?_ hL hJ.num hz hq)))
    rw [List.map_congr_left (g := id) fun x _ => by rw [clD_zero]; rfl, List.map_id]; exact hJ
end
end
section
section
variable {c : Cst} {k : Nat} {Q : AV → Sto → Prop} {S S' : Sto} {l dk tr no li : Addr} {j : Nat} {ms : List Int} {L : Cnt} {nds : List (Addr × Int)} {es : Es} {ks : List KI} {way at_ many front rear number ah tale : Option AV}
noncomputable def LapQ (c : Cst) (k : Nat) (ks : List KI) (Q : AV → Sto → Prop) (l dk tr no li : Addr) (j : Nat) (tale : Option AV) : Prop :=
  ∀ S ms L nds es w a mn f r nb h, LawJ S dk tr no (j + 1) ms L nds → Lies S li L es → Run c (k + 7) ⟨.done, ks, [], lawV l dk tr no li (some (.int j)) w a mn f r nb h tale⟩ Q S
theorem LapQ.sg (h : LapQ c k ks Q l dk tr no li j tale) : LapQ c k (.sg .done :: ks) Q l dk tr no li j tale := fun S ms L nds es w a mn f r nb i h1 h2 => Run.goN 1 rfl (h S ms L nds es w a mn f r nb i h1 h2)
theorem law_late {w a mn : Int} (hJ : LawJ S dk tr no j ms L nds) (hL : Lies S li L es) (hj : j < 60) (hm : 0 ≤ mn) (hq : LapQ c k ks Q l dk tr no li j tale) :
    Run c (k + 7) ⟨cLate, ks, [], lawV l dk tr no li (some (.int j)) (some (.int w)) (some (.int a)) (some (.int mn)) front rear number ah tale⟩ Q S := by
  refine r_brd (p := w < 5) rfl rfl (fun _ => law_open hJ hL hj fun _ _ _ _ _ _ h1 h2 => hq.sg _ _ _ _ _ _ _ _ _ _ _ _ h1.next h2) fun _ => ?_
  exact r_brd (p := w = 5) rfl rfl (fun _ => law_close hJ hL hj hm fun _ _ _ _ _ h1 h2 => hq.sg.sg _ _ _ _ _ _ _ _ _ _ _ _ h1.next h2) fun _ => law_ask hJ hL hj fun _ _ h1 h2 => hq.sg.sg _ _ _ _ _ _ _ _ _ _ _ _ h1.next h2
theorem law_rest {w a mn : Int} (hJ : LawJ S dk tr no j ms L nds) (hL : Lies S li L es) (hj : j < 60) (hm : 0 ≤ mn) (hq : LapQ c k ks Q l dk tr no li j tale) :
    Run c (k + 7) ⟨cRest, ks, [], lawV l dk tr no li (some (.int j)) (some (.int w)) (some (.int a)) (some (.int mn)) front rear number ah tale⟩ Q S := by
  refine r_brd (p := w = 2) rfl rfl (fun _ => ?_) fun _ => Run.goN 3 rfl (law_late hJ hL hj hm hq.sg)
  refine r_dne rfl hL.dt fun e fe => ?_
  have hL' : Lies (S.setDt e []) li L es := ⟨(upd_ne fun z => by have := fe.dt; rw [← z, hL.dt] at this; cases this).trans hL.dt, hL.keys, hL.own⟩
  cases es with
  | nil => exact Run.goN 5 rfl (law_late hJ.dts hL' hj hm hq.sg)
  | cons p es => exact Run.goN 5 rfl (law_drop hJ.dts hL' hj nofun fun _ _ _ _ _ h1 h2 => hq.sg _ _ _ _ _ _ _ _ _ _ _ _ h1.next h2)
theorem law_way {w a mn : Int} (hJ : LawJ S dk tr no j ms L nds) (hL : Lies S li L es) (hj : j < 60) (hm : 0 ≤ mn) (hq : LapQ c k ks Q l dk tr no li j tale) :
    Run c (k + 7) ⟨cWay, ks, [], lawV l dk tr no li (some (.int j)) (some (.int w)) (some (.int a)) (some (.int mn)) front rear number ah tale⟩ Q S := by
  have put : Run c (k + 7) ⟨cPut, .sg .done :: ks, [], lawV l dk tr no li (some (.int j)) (some (.int w)) (some (.int a)) (some (.int mn)) front rear number ah tale⟩ Q S :=
    law_put hJ hL hj hm fun _ _ _ _ _ _ _ h1 h2 => hq.sg _ _ _ _ _ _ _ _ _ _ _ _ h1 h2
  refine r_brd (p := w < 2) rfl rfl (fun _ => Run.goN 3 rfl put) fun _ => ?_
  exact r_brd (p := (j : Int) < 3) rfl rfl (fun _ => Run.goN 4 rfl put) fun _ => Run.goN 4 rfl (law_rest hJ hL hj hm hq.sg)
theorem law_lap (hJ : LawJ S dk tr no j ms L nds) (hL : Lies S li L es) (hj : j < 60) (hq : LapQ c k ks Q l dk tr no li j tale) :
    Run c (k + 7) ⟨cLap, ks, [], lawV l dk tr no li (some (.int j)) way at_ many front rear number ah tale⟩ Q S := by
  refine r_call rfl rfl (law_draw_ok hJ.deck hJ.pos (by decide) (by decide) fun n1 w p1 _ _ _ => ?_)
  replace hL := hL.deckSet (ms' := n1) hJ.deck
  replace hJ := hJ.deckSet p1
  generalize S.setLs dk (n1.map .int) = S at *
  refine r_call rfl rfl (law_draw_ok hJ.deck hJ.pos (by decide) (by decide) fun n2 a p2 _ _ _ => ?_)
  replace hL := hL.deckSet (ms' := n2) hJ.deck
  replace hJ := hJ.deckSet p2
  generalize S.setLs dk (n2.map .int) = S at *
  refine r_call rfl rfl (law_draw_ok hJ.deck hJ.pos (by decide) (by decide) fun n3 mn p3 _ h0 _ => ?_)
  exact r_tas rfl rfl rfl rfl (law_way (hJ.deckSet p3) (hL.deckSet hJ.deck) hj h0 hq)
end
end
section
structure Tp (S S' : Sto) : Prop where
  nd : S'.nd = S.nd
  tr : S'.tr = S.tr
  ls : S'.ls = S.ls
  dt : S'.dt = S.dt
  ro : S'.ro = S.ro
  tp : ∀ a xs, S.tp a = some xs → S'.tp a = some xs
theorem Tp.refl {S : Sto} : Tp S S := ⟨rfl, rfl, rfl, rfl, rfl, fun _ _ h => h⟩
theorem tp_new {S : Sto} {a b : Addr} {xs ys : List AV} (e : S.tp b = some ys) (f : S.Free a) : (S.setTp a xs).tp b = some ys := (upd_ne fun z => by rw [z, f.tp] at e; cases e).trans e
theorem Tp.step {S S' : Sto} {a : Addr} {xs : List AV} (h : Tp S S') (f : S'.Free a) : Tp S (S'.setTp a xs) := ⟨h.nd, h.tr, h.ls, h.dt, h.ro, fun b ys e => tp_new (h.tp b ys e) f⟩
noncomputable abbrev refT (bs : List (Addr × Tri)) : List AV := bs.map fun x => .ref x.1
section
variable {c : Cst} {k : Nat} {Q : AV → Sto → Prop} {S S0 : Sto} {m : MS} {code : Code} {ks : List KI} {st : List AV} {vs : Vs} {γ α : Type}
theorem cmpD_tri {dt : (Bool → Sto → Prop) → Vs → Sto → Prop} {de : (AV → Sto → Prop) → Vs → Sto → Prop} {set : α → Vs → Option Vs} {P : Sto → Prop} {fin : List AV → Sto → Prop} (f : γ → α) (t : γ → Tri) (fr : Option α → Vs) (hset : ∀ v w, set v (fr w) = some (fr (some v)))
    (hP : ∀ S, Tp S0 S → P S) (ht : ∀ Q vs S, Q true S → dt Q vs S) :
    ∀ {l : List γ} {w : Option α} {S : Sto} {bs : List (Addr × Tri)}, (∀ v ∈ l, ∀ S, Tp S0 S → ∀ Q : AV → Sto → Prop, (∀ a, S.Free a → Q (.ref a) (S.setTp a (triV (t v)))) → de Q (fr (some (f v))) S) → Tp S0 S → (∀ x ∈ bs, S.tp x.1 = some (triV x.2)) →
      (∀ S' bs', Tp S0 S' → bs'.map (·.2) = bs.map (·.2) ++ l.map t → (∀ x ∈ bs', S'.tp x.1 = some (triV x.2)) → fin (refT bs') S') → cmpD dt de set P fin (l.map f) (fr w) (refT bs) S
  | [], w, S, bs, _, hT, hb, hq => ⟨hP _ hT, hq S bs hT (List.append_nil _).symm hb⟩
  | v :: l, w, S, bs, h, hT, hb, hq => ⟨hP _ hT, _, hset _ _, ht _ _ _ ⟨fun _ => h v List.mem_cons_self S hT _ fun a fa => by
      have ih := cmpD_tri f t fr hset hP ht (l := l) (w := some (f v)) (S := S.setTp a (triV (t v))) (bs := bs ++ [(a, t v)]) (dt := dt) (de := de) (fin := fin) (fun v hv => h v (List.mem_cons_of_mem _ hv)) (hT.step fa) (fun x hx => (List.mem_append.mp hx).elim (fun hx => tp_new (hb x hx) fa) fun hx => by rw [List.mem_singleton.mp hx]; exact upd_same ..)
        fun S' bs' g1 g2 g3 => hq S' bs' g1 (by rw [g2, List.map_append, List.append_assoc]; rfl) g3
      rw [refT, List.map_append] at ih
      exact ih, nofun⟩⟩
theorem r_lcpT {j : Nat} {sel : List (Option Nat)} {e : Code} {l : Addr} {xs : List γ} (g : γ → AV) (t : γ → Tri) (fr : Option AV → Vs) (hg : m.go = ⟨.lcp j sel (.cst (.bool true) .done) e code, ks, .ref l :: st, vs⟩) (hl : S.ls l = some (xs.map g)) (h0 : cvs sel vs = fr none) (hset : ∀ v w, (fr w).put j v = some (fr (some v)))
    (el : ∀ v ∈ xs, ∀ S', Tp S S' → ∀ J : List AV → Sto → Prop, (∀ a, S'.Free a → J [.ref a] (S'.setTp a (triV (t v)))) → Run c k ⟨e, [.kv J], [], fr (some (g v))⟩ Q S')
    (fin : ∀ S' bs D, Tp S S' → bs.map (·.2) = xs.map t → (∀ x ∈ bs, S'.tp x.1 = some (triV x.2)) → S'.Free D → Run c k ⟨code, ks, .ref D :: st, vs⟩ Q (S'.setLs D (refT bs))) : Run c k m Q S :=
  Run.go hg ⟨l, _, rfl, lsLst hl, by
    rw [h0]
    exact cmpD_tri (bs := []) g t fr hset (fun S' h => lsLst (by rw [h.ls]; exact hl)) (fun _ _ _ h => ⟨true, rfl, h⟩) (fun v hv S' hT B hB => el v hv S' hT (fun st S => ∃ y, st = [y] ∧ B y S) fun a fa => ⟨_, rfl, hB a fa⟩) Tp.refl nofun fun S' bs h1 h2 h3 D => fin S' bs D h1 h2 h3⟩
theorem r_lciT {i j : Nat} {sel : List (Option Nat)} {e : Code} {d : Addr} {es : Es} (t : Int × AV → Tri) (fr : Option (Int × AV) → Vs) (hg : m.go = ⟨.lci i j sel e code, ks, .ref d :: st, vs⟩) (hd : S.dt d = some es) (h0 : cvs sel vs = fr none) (hset : ∀ v w, put2 i j v (fr w) = some (fr (some v)))
    (el : ∀ v ∈ es, ∀ S', Tp (S.noDt d) S' → ∀ J : List AV → Sto → Prop, (∀ a, S'.Free a → J [.ref a] (S'.setTp a (triV (t v)))) → Run c k ⟨e, [.kv J], [], fr (some v)⟩ Q S')
    (fin : ∀ S' bs D, Tp (S.noDt d) S' → bs.map (·.2) = es.map t → (∀ x ∈ bs, S'.tp x.1 = some (triV x.2)) → S'.Free D → Run c k ⟨code, ks, .ref D :: st, vs⟩ Q (S'.setLs D (refT bs))) : Run c k m Q S :=
  Run.go hg ⟨d, es, rfl, hd, by
    rw [h0, ← List.map_id es]
    exact cmpD_tri (bs := []) id t fr hset (fun _ _ => trivial) (fun _ _ _ h => h) (fun v hv S' hT B hB => el v hv S' hT (fun st S => ∃ y, st = [y] ∧ B y S) fun a fa => ⟨_, rfl, hB a fa⟩) Tp.refl nofun fun S' bs h1 h2 h3 D => fin S' bs D h1 h2 h3⟩
theorem tupsOf_tri : ∀ {as : List (Addr × Tri)}, (∀ x ∈ as, S.tp x.1 = some (triV x.2)) → S.tupsOf (refT as) = some (as.map fun x => [x.2.1, x.2.2.1, x.2.2.2])
  | [], _ => rfl
  | x :: as, h => by
    show ((S.tp x.1).bind fun xs => (intsOf xs).bind fun t => (S.tupsOf (refT as)).map (t :: ·)) = _
    rw [h x List.mem_cons_self, tupsOf_tri fun y hy => h y (List.mem_cons_of_mem _ hy)]
    rfl
theorem cmp_tris {a b : Addr} {as bs : List (Addr × Tri)} (h1 : S.ls a = some (refT as)) (h2 : S.ls b = some (refT bs)) (t1 : ∀ x ∈ as, S.tp x.1 = some (triV x.2)) (t2 : ∀ x ∈ bs, S.tp x.1 = some (triV x.2))
    (e : as.map (·.2) = bs.map (·.2)) : S.cmp .NotEq (.ref a) (.ref b) = some false := by
  have key : S.listEq a b = some true := by
    unfold Sto.listEq
    rw [h1, h2]
    cases as with
    | nil =>
      cases bs with
      | nil => rfl
      | cons y bs => cases e
    | cons x as =>
      cases bs with
      | nil => cases e
      | cons y bs =>
        have e2 := congrArg (List.map fun t : Tri => [t.1, t.2.1, t.2.2]) e
        rw [List.map_map, List.map_map] at e2
        show ((S.tupsOf (refT (x :: as))).bind fun a => (S.tupsOf (refT (y :: bs))).map fun b => decide (a = b)) = _
        rw [tupsOf_tri t1, tupsOf_tri t2]
        exact congrArg some (decide_eq_true e2)
  show (S.listEq a b).map _ = _
  rw [key]; rfl
end
end
section
noncomputable abbrev triD (x : Addr × D) : Tri := (x.2.b, x.2.e, x.2.num)
theorem Tp.go {S S' : Sto} (t : Tp S S') : Go (fun _ => False) S S' := ⟨fun b _ => congrFun t.nd b, fun a _ h => (congrFun t.ls a).trans h, fun a _ h => (congrFun t.dt a).trans h⟩
theorem Abs.tp {S S' : Sto} {a : Addr} {d : D} (h : Abs S a d) (t : Tp S S') : Abs S' a d := by unfold Abs; rw [t.nd]; exact h
theorem getE_mem {p : Int × AV} : ∀ {es : Es}, (es.map (·.1)).Nodup → p ∈ es → getE es p.1 = some p.2
  | [], _, h => absurd h List.not_mem_nil
  | q :: es, hn, h => by
    have hn := List.nodup_cons.mp hn
    rw [getE_cons]
    rcases List.mem_cons.mp h with rfl | h
    · exact if_pos rfl
    · rw [if_neg fun e : q.1 = p.1 => hn.1 (List.mem_map.mpr ⟨p, h, e.symm⟩)]
      exact getE_mem hn.2 h
noncomputable def ownT (L : Cnt) (z : Int) : Tri := match L.find? fun x => decide (x.2.num = z) with
  | some x => triD x
  | none => (0, 0, z)
theorem ownT_at {L : Cnt} (hn : (L.map fun x => x.2.num).Nodup) {x : Addr × D} (hx : x ∈ L) : ownT L x.2.num = triD x := by
  unfold ownT
  cases q : L.find? fun y => decide (y.2.num = x.2.num) with
  | none => exact absurd (decide_eq_true rfl) (List.find?_eq_none.mp q x hx)
  | some y => exact congrArg triD (num_inj hn hx (List.mem_of_find?_eq_some q) (of_decide_eq_true (List.find?_some (p := fun y : Addr × D => decide (y.2.num = x.2.num)) q)))
theorem Lies.each {S : Sto} {li : Addr} {L : Cnt} {es : Es} (h : Lies S li L es) (hn : (L.map fun x => x.2.num).Nodup) {p : Int × AV} (hp : p ∈ es) : ∃ x ∈ L, x.2.num = p.1 ∧ ∃ a, p.2 = .ref a ∧ S.ls a = some (ownL x.2) := by
  obtain ⟨x, hx, e⟩ := List.mem_map.mp (h.keys.mem_iff.mp (List.mem_map_of_mem hp))
  obtain ⟨a, g1, g2⟩ := h.own x hx
  have g3 := getE_mem (h.keys.nodup_iff.mpr hn) hp
  rw [← show x.2.num = p.1 from e, g1] at g3
  exact ⟨x, hx, e, a, (Option.some.inj g3).symm, g2⟩
theorem tri_uniq {a b : List (Addr × Tri)} (p : (a.map (·.2)).Perm (b.map (·.2))) (ha : a.Pairwise (fun x y => ltT y.2 x.2 = false)) (hb : b.Pairwise (fun x y => ltT y.2 x.2 = false)) : a.map (·.2) = b.map (·.2) :=
  List.Perm.eq_of_pairwise (le := fun x y => ltT y x = false) (fun _ _ _ _ h1 h2 => ltT_anti h2 h1) (List.pairwise_map.mpr ha) (List.pairwise_map.mpr hb) p
section
variable {c : Cst} {k : Nat} {Q : AV → Sto → Prop} {S S' : Sto} {l dk tr no li T : Addr} {j : Nat} {ms : List Int} {L : Cnt} {nds : List (Addr × Int)} {es : Es} {lap way at_ many front rear number ah : Option AV} {bs : List (Addr × Tri)}
theorem law_ret (hM : Made S tr L) (hs : Srt L) (hz : L.length < 60) (hn : (L.map fun x => x.2.num).Nodup) (hT : S.ls T = some (refT bs)) (hb : bs.map (·.2) = L.map triD) (htp : ∀ x ∈ bs, S.tp x.1 = some (triV x.2)) (hq : ∀ S', Q (.bool true) S') :
    Run c (k + 7) ⟨cRet, [], [], lawV l dk tr no li lap way at_ many front rear number ah (some (.ref T))⟩ Q S := by
  have hl : bs.length = L.length := by have := congrArg List.length hb; rw [List.length_map, List.length_map] at this; exact this
  have e : (bs.filter fun _ => true).map (fun x => AV.int x.2.1) = (L.map fun x => x.2.b).map .int := by
    have := congrArg (List.map fun t : Tri => t.1) hb
    rw [List.map_map, List.map_map] at this
    rw [List.filter_eq_self.mpr fun _ _ => rfl, ← show bs.map (fun x => x.2.1) = L.map fun x => x.2.b from this, List.map_map]; rfl
  refine r_lcp (xs := bs) (fun x => .ref x.1) (fun _ => true) (fun x => .int x.2.1) (fun v => .s none (.s v .nil)) rfl (lsLst hT) rfl (fun _ _ => rfl) (fun _ _ J hJ => r_kv rfl hJ) (fun x hx _ J hJ => r_subT (j := 0) rfl (htp x hx) rfl (r_kv rfl hJ)) fun D1 f1 => ?_
  refine r_lcp (xs := bs) (fun x => .ref x.1) (fun _ => true) (fun x => .int x.2.1) (fun v => .s none (.s v .nil)) rfl (lsLst (ls_new hT f1)) rfl (fun _ _ => rfl) (fun _ _ J hJ => r_kv rfl hJ) (fun x hx _ J hJ => r_subT (j := 0) rfl (htp x hx) rfl (r_kv rfl hJ)) fun D2 f2 => ?_
  rw [e] at f2 ⊢
  refine r_call rfl rfl (CW.sortedInts (lsLst ls_same) (by rw [List.length_map]; exact Nat.lt_trans hz (by decide)) fun D3 q f3 p3 o3 => ?_)
  refine r_cmp rfl (cmpEq_ints (ls_new (ls_new ls_same f2) f3) ls_same) ?_
  rw [decide_eq_true (sort_uniq p3.symm (List.pairwise_map.mpr hs) o3)]
  refine r_call rfl rfl (overlay_tree_error_ok (hM.same rfl rfl) hs hn (Nat.lt_trans hz (by decide)) fun S' => ?_)
  exact r_cmp rfl rfl (r_ret rfl (hq S'))
theorem law_same (hM : Made S tr L) (hL : Lies S li L es) (hs : Srt L) (hz : L.length < 60) (hn : (L.map fun x => x.2.num).Nodup) (hT : S.ls T = some (refT bs)) (hb : bs.map (·.2) = L.map triD) (htp : ∀ x ∈ bs, S.tp x.1 = some (triV x.2)) (hq : ∀ S', Q (.bool true) S') :
    Run c (k + 7) ⟨cSame, [], [], lawV l dk tr no li lap way at_ many front rear number ah (some (.ref T))⟩ Q S := by
  have hl : bs.length = L.length := by have := congrArg List.length hb; rw [List.length_map, List.length_map] at this; exact this
  refine r_call rfl rfl (CW.sortedTris (lsLst hT) htp (by rw [hl]; exact Nat.lt_trans hz (by decide)) fun D1 b1 f1 p1 o1 => ?_)
  replace hM : Made (S.setLs D1 (refT b1)) tr L := hM.same rfl rfl
  replace hL := hL.newLs (xs := refT b1) f1
  replace hT := ls_new (ys := refT b1) hT f1
  have hD : (S.setLs D1 (refT b1)).ls D1 = some (refT b1) := upd_same ..
  replace htp : ∀ x ∈ bs, (S.setLs D1 (refT b1)).tp x.1 = some (triV x.2) := htp
  clear f1
  generalize S.setLs D1 (refT b1) = S at *
  refine r_lciT (fun p => ownT L p.1) (fun o => match o with | none => .s none (.s none (.s none .nil)) | some p => .s none (.s (some (.int p.1)) (.s (some p.2) .nil))) rfl hL.dt rfl (fun _ w => by cases w <;> rfl) (fun p hp S' t J hJ => ?_) fun S2 b2 D2 t2 e2 h2 f2 => ?_
  · obtain ⟨x, hx, e1, a, e2, la⟩ := hL.each hn hp
    have la' := (congrFun t.ls a).trans la
    obtain ⟨z, pv⟩ := p
    cases e1
    cases e2
    dsimp only at hJ
    rw [ownT_at hn hx] at hJ
    refine r_sub rfl (item_ls (j := 0) la' rfl) ?_
    refine r_sub rfl (item_ls (j := 1) la' rfl) ?_
    exact r_mkt rfl rfl fun a fa => r_kv rfl (hJ a fa)
  have hl2 : b2.length = L.length := by have := congrArg List.length e2; rw [List.length_map, List.length_map, hL.len] at this; exact this
  refine r_call rfl rfl (CW.sortedTris (as := b2) (lsLst ls_same) h2 (by rw [hl2]; exact Nat.lt_trans hz (by decide)) fun D3 b3 f3 p3 o3 => ?_)
  have up : ∀ {a xs}, S.ls a = some xs → ((S2.setLs D2 (refT b2)).setLs D3 (refT b3)).ls a = some xs := fun h => ls_new (ls_new ((congrFun t2.ls _).trans h) f2) f3
  have key : b1.map (·.2) = b3.map (·.2) := by
    refine tri_uniq ((p1.map _).trans (List.Perm.trans ?_ (p3.map _).symm)) o1 o3
    have h3 := hL.keys.symm.map (ownT L)
    rw [List.map_map, List.map_map] at h3
    rw [hb, e2]
    exact (List.Perm.of_eq (List.map_congr_left fun x hx => (ownT_at hn hx).symm)).trans h3
  refine r_cmp rfl (cmp_tris (as := b1) (bs := b3) (up hD) (upd_same ..) (fun x hx => t2.tp _ _ (htp x (p1.mem_iff.mp hx))) (fun x hx => h2 x (p3.mem_iff.mp hx)) key) ?_
  exact Run.goN 2 rfl (law_ret (hM.same (S' := (S2.setLs D2 (refT b2)).setLs D3 (refT b3)) t2.nd t2.tr) hs hz hn (up hT) hb (fun x hx => t2.tp _ _ (htp x hx)) hq)
theorem law_end (hJ : LawJ S dk tr no j ms L nds) (hL : Lies S li L es) (hj : j < 60) (hq : ∀ S', Q (.bool true) S') :
    Run c (k + 7) ⟨cEnd, [], [], lawV l dk tr no li lap way at_ many front rear number ah none⟩ Q S := by
  have hz : L.length < 60 := Nat.lt_of_le_of_lt hJ.lenL hj
  refine r_call rfl rfl (all_nodes_made hJ.made (Nat.lt_trans hz (by decide)) fun S1 p g l1 m1 a1 => ?_)
  refine r_lcpT (xs := L) (fun x => .ref x.1) triD (fun v => .s none (.s v .nil)) rfl l1 rfl (fun _ _ => rfl) (fun x hx S' t J hT => ?_) fun S2 bs T t2 e2 h2 fT => ?_
  · have a := (a1 x hx).tp t
    refine r_ab rfl a rfl (r_ab rfl a rfl (r_ab rfl a rfl ?_))
    exact r_mkt rfl rfl fun a fa => r_kv rfl (hT a fa)
  exact Run.goN 1 rfl (law_same (m1.same t2.nd t2.tr) (((hL.go g).go t2.go).newLs fT) hJ.srt hz hJ.num ls_same e2 h2 hq)
end
end
section
inductive LapI (l dk tr no li : Addr) (n : Nat) : List Nat → List Nat → Vs → Sto → Prop
  | mk (done rest : List Nat) (ms : List Int) (L : Cnt) (nds : List (Addr × Int)) (es : Es) (lap way at_ many front rear number ah : Option AV) (S : Sto) : done ++ rest = List.range n → LawJ S dk tr no done.length ms L nds → Lies S li L es →
    LapI l dk tr no li n done rest (lawV l dk tr no li lap way at_ many front rear number ah none) S
theorem range_at {done rest : List Nat} {x n : Nat} (h : done ++ x :: rest = List.range n) : x = done.length ∧ done.length < n := by
  have hl := congrArg List.length h
  rw [List.length_append, List.length_range, List.length_cons] at hl
  have lt : done.length < n := by rw [← hl]; exact Nat.lt_add_of_pos_right (Nat.succ_pos _)
  have h1 : (done ++ x :: rest)[done.length]? = (List.range n)[done.length]? := congrArg (·[done.length]?) h
  rw [List.getElem?_append_right (Nat.le_refl _), Nat.sub_self, List.getElem?_range lt] at h1
  exact ⟨Option.some.inj h1, lt⟩
section
variable {c : Cst} {k : Nat} {Q : AV → Sto → Prop} {S : Sto} {l dk tr no li : Addr}
theorem made_nil {x : Addr} (fr : S.Free x) : Made (S.setTr x (none, 0)) x [] := ⟨.nil, _, ⟨upd_same .., rfl, trivial, .nil, fr.nd⟩, rfl, rfl, rfl⟩
theorem law0 {ms : List Int} (hd : S.ls dk = some (ms.map .int)) (hp : ∀ n ∈ ms, 0 ≤ n) (ftr : S.Free tr) (fno : (S.setTr tr (none, 0)).Free no) : LawJ (((S.setTr tr (none, 0)).setLs no []).setDt li []) dk tr no 0 ms [] [] :=
  have ne := ls_ne (S := S.setTr tr (none, 0)) hd fno
  { ne := ne
    deck := (upd_ne ne).trans hd
    pos := hp
    made := (made_nil ftr).same rfl rfl
    srt := .nil
    be := nofun
    nodes := upd_same ..
    recs := nofun
    nums := .nil
    small := nofun
    len := Nat.le_refl _
    lenL := Nat.le_refl _
    sub := nofun
    num := .nil }
theorem law_body {ns : List Int} (hl : S.lst l = some (ns.map .int)) (hq : ∀ S', Q (.bool true) S') : Run c (k + 7) ⟨cLaw, [], [], vsOf [.ref l] 13⟩ Q S := by
  refine r_call rfl rfl (law_deck_ok (k := k + 6) hl fun dk ms fdk hms _ => ?_)
  have hdk : (S.setLs dk (ms.map .int)).ls dk = some (ms.map .int) := upd_same ..
  generalize S.setLs dk (ms.map .int) = S at *
  refine r_call rfl rfl (tree_new (k := k + 5) fun tr ftr => ?_)
  refine r_mkl rfl rfl fun no fno => ?_
  refine r_mkd rfl fun li fli => ?_
  refine r_tas rfl rfl rfl rfl ?_
  have hJ := law0 (li := li) hdk hms ftr fno
  have hL : Lies (((S.setTr tr (none, 0)).setLs no []).setDt li []) li [] [] := ⟨upd_same .., .refl _, nofun⟩
  clear ftr fno fli fdk hdk
  generalize ((S.setTr tr (none, 0)).setLs no []).setDt li [] = S at *
  refine r_call rfl rfl (law_draw_ok hJ.deck hJ.pos (by decide) (by decide) fun n1 v p1 _ v0 v1 => ?_)
  replace hL := hL.deckSet (ms' := n1) hJ.deck
  replace hJ := hJ.deckSet p1
  generalize S.setLs dk (n1.map .int) = S at *
  obtain ⟨v, rfl⟩ := Int.eq_ofNat_of_zero_le v0
  have hv : 4 + v < 60 := by have := Int.ofNat_lt.mp v1; omega
  refine r_frng (n := ((4 + v : Nat) : Int)) (LapI l dk tr no li (4 + v)) rfl (Int.natCast_nonneg _) (Int.ofNat_le.mpr (Nat.le_of_lt (Nat.lt_trans hv (by decide)))) (.mk [] _ n1 [] [] [] none none none none none none none none S rfl hJ hL) (fun done x rest vs S h => ?_) fun vs S h => ?_
  · cases h with | mk ms L nds es lap way at_ many front rear number ah _ hd hJ hL =>
    obtain ⟨rfl, lt⟩ := range_at hd
    refine ⟨_, rfl, fun J hj => law_lap (k := k) hJ hL (Nat.lt_trans lt hv) fun S ms L nds es w a mn f r nb h h1 h2 => r_lp rfl (hj _ _ (.mk _ _ ms L nds es _ _ _ _ _ _ _ _ S ?_ ?_ h2))⟩
    · rw [← app1]; exact hd
    · rw [List.length_append]; exact h1
  · cases h with | mk ms L nds es lap way at_ many front rear number ah _ hd hJ hL =>
    exact law_end hJ hL (by rw [List.length_range]; exact hv) hq
end
end
section
theorem cst_nm (w : World) : ∀ p ∈ gnames, (nsIn (KF w.params) mainGlobals (Str.ofString p.1) = some (some p.2) ∧ keepIn (KF w.params) p.2 = true) ∨
    (nsIn (KF w.params) mainGlobals (Str.ofString p.1) = some none ∧ bootBuiltins (Str.ofString p.1) = some p.2 ∧ Str.ofString p.1 ≠ "__name__" ∧ ∀ h M, Looks M h (keeperOf p.2) .machine) := by
  intro p hp
  unfold gnames at hp
  simp only [List.mem_cons, List.not_mem_nil, or_false] at hp
  repeat' rcases hp with rfl | hp
  all_goals first
    | exact .inl ⟨by k_is, by k_is⟩
    | exact .inr ⟨by k_is, by rfl, by decide, fun _ _ => Looks.of_pure rfl⟩
theorem gtab_mem {f : Str} {v : Value} (h : gtab f = some v) : ∃ p ∈ gnames, f = Str.ofString p.1 ∧ v = p.2 := by
  have := PySem.mem_of_lookup h
  obtain ⟨p, hp, e⟩ := List.mem_map.mp this
  cases e
  exact ⟨p, hp, rfl, rfl⟩
theorem cst_of {prog p : Program} {w : World} {s₁ : Shared} {loose : List Str} {mean : ExcName → Option Value} {mg mb : Str → Option Value} (KX : (KF w.params).In s₁.heap) (T : Top p loose mean mg mb s₁.heap) :
    ∃ c : Cst, c.prog = prog ∧ c.w = w ∧ c.B = s₁ :=
  ⟨{ prog := prog, w := w, B := s₁, p := p, loose := loose, mean := mean, mg := mg, mb := mb, X := KX, T := T
     hgl := fun f v h => by
      obtain ⟨q, hq, rfl, rfl⟩ := gtab_mem h
      rcases cst_nm w q hq with ⟨a, _⟩ | ⟨a, b, d, _⟩
      · exact .inl (mg_of KX T.g a)
      · exact .inr ⟨mg_none_of KX T.g a, (T.builtins _ d).trans b⟩
     hkp := fun f v h => by
      obtain ⟨q, hq, rfl, rfl⟩ := gtab_mem h
      intro h X
      rcases cst_nm w q hq with ⟨_, a⟩ | ⟨_, _, _, a⟩
      · exact keeps_K a h X
      · exact ⟨.machine, .inr (.inl rfl), a _ _⟩
     hga := fun C h => by rcases h with rfl | rfl <;> k_is
     hsa := fun C h => by rcases h with rfl | rfl <;> k_is
     hplain := fun C h => by rcases h with rfl | rfl <;> k_is
     hdict := fun C h => by rcases h with rfl | rfl <;> k_is
     hfld := fun n h => by
      unfold nodeNames at h
      simp only [List.mem_cons, List.not_mem_nil, or_false, List.map_cons, List.map_nil] at h
      repeat' rcases h with rfl | h
      all_goals k_is
     hfldT := fun n h => by
      unfold treeNames at h
      simp only [List.mem_cons, List.not_mem_nil, or_false, List.map_cons, List.map_nil] at h
      repeat' rcases h with rfl | h
      all_goals k_is }, rfl, rfl, rfl⟩
end
section
set_option maxHeartbeats 8000000
noncomputable def stN (l : Addr) (xs : List AV) : Sto := { nd := fun _ => none, tr := fun _ => none, ls := fun _ => none, tp := fun _ => none, dt := fun _ => none, raw := fun _ => none, ro := fun a => if a = l then some xs else none }
theorem nosome {α : Type} {P : Prop} {x : α} (h : (none : Option α) = some x) : P := by cases h
theorem inv0 {c : Cst} {l : Addr} {xs : List AV} (hz : xs.length ≤ 1000) {items : Array Value} (hl : c.B.heap.IsList l items) (he : items.toList.map er = xs) : InvS c c.B.heap.get? (stN l xs) c.B :=
  ⟨rfl, rfl, fun _ _ h => h, fun a ys h => (by
    have h' : (if a = l then some xs else none) = some ys := h
    split at h'
    · rename_i e; subst e; cases h'; exact ⟨hz, items, hl, he⟩
    · cases h'), fun _ => none, ⟨fun _ _ h => h, fun _ _ h => nosome h, fun _ _ h => nosome h⟩, ⟨fun _ _ h => nosome h, fun _ _ h => nosome h, fun _ _ h => nosome h, fun _ _ h => nosome h, fun _ _ h => nosome h, fun _ _ _ h => nosome h, fun _ _ h => nosome h⟩⟩
noncomputable abbrev lawRec : DefRec := lawD
theorem top_ok : PySem.Challenge.rw_ok0065_01.Holds := hdw (by
  intro w s₀ s₁ mg mb G Y fa o pm cd doc dV kV ho hdat hcd hD hmg hg args vals as hpre hlay hrd hwl hlo
  have KX := kIn_of Y
  refine Ground.open G ?_
  intro T B D TE TW
  obtain ⟨_, _, he, B0⟩ := based_of_top T rfl hmg ho hdat
  have he' : cd = _ := he
  subst he'
  obtain rfl := Dflts.none hD rfl
  obtain rfl := Dflts.noKw hD
  clear he hD D hmg
  wrow_args hpre hlay hrd hwl hlo
  rename_i w1 w0 ns q1 q2 q3 q4 q5 q6 q7 l vs q8 hL ra p1 p2 hI q9 hlen q10
  refine enter_call ?_
  refine codeAny_mono ?_ (fun _ _ g => GoodW.toG g)
  obtain ⟨c, e1, rfl, rfl⟩ := cst_of (prog := PySem.Challenge.rw_ok0065_01.row.prog) KX T
  rw [show model PySem.Challenge.rw_ok0065_01.row.prog c.w = c.M by rw [← e1]]
  refine call_code (c := c) (k := 7) (β := c.B.heap.get?) (S := stN l (ns.map .int)) (args := [.ref l]) (xs := ["script"]) (body := lawRec.body) (scope := lawRec.scope) (Q := fun v _ => v = .bool true) (m := loc lawRec.scope.names (vsOf [.ref l] 13))
    ⟨by decide, by decide, rfl⟩ (inv0 (by rw [List.length_map]; omega) hL ?_) rfl ho hdat hcd rfl rfl rfl rfl rfl rfl rfl rfl rfl ?_ ?_ ?_ ?_ rfl ?_ ?_ ?_
  · rw [List.toList_toArray]; exact ints_er hI
  · decide
  · decide
  · decide
  · decide
  · kernel_rfl
  · exact fn_body (n := 80) (code := cLaw) (by kernel_rfl) (law_body (k := 0) (ns := ns) (by show (if l = l then some (ns.map AV.int) else none) = _; rw [if_pos rfl]) fun S' => rfl)
  · intro v S' s' hv I
    obtain rfl := er_bool hv
    refine ⟨.inl ⟨_, _, [], rfl, fun _ => rfl, .bool true, by wrow_post, unshared_nil⟩, I.keep, I.os, ?_⟩
    rw [I.gens]; exact hg)
end
end Mine
theorem PySem.Challenge.cw_ok0065_01_holds : PySem.Challenge.rw_ok0065_01.Holds := by
  exact Mine.top_ok
