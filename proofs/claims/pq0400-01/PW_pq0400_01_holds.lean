import PyProof.Rows.All
import Wide.All
import OpenK.AllK
import Wide.FinOn
import Lean
import PySem.Challenge.RW_pq0400_01
open PySem PySem.W PySem.Calls PyProof.Rows
set_option Elab.async false
set_option maxRecDepth 100000
set_option linter.unusedVariables false
set_option tactic.hygienic false
set_option linter.unusedSimpArgs false
namespace Pq
section
noncomputable abbrev PG : Program := PySem.Challenge.rw_pq0400_01.row.prog
noncomputable def nth : List Stmt -> Nat -> Stmt
 | s :: _, 0 => s
 | _ :: r, n + 1 => nth r n
 | [], _ => .Pass ⟨0, 0, 0, 0⟩
noncomputable def ts (k : Nat) : Stmt := nth PG.main.body k
noncomputable def dN : DefRec := ⟨"", ⟨[], [], none, [], [], none, []⟩, [], { kind := .function, names := [], isGenerator := false, isCoroutine := false }, ⟨0, 0, 0, 0⟩⟩
noncomputable def sPt : Stmt -> DefRec × List Stmt × List Stmt × Option Expr
 | .FunctionDef n a b _ _ _ sc _ _ p => (⟨n, a, b, sc, p⟩, b, [], none)
 | .ClassDef _ _ _ b .. => (dN, b, [], none)
 | .For t _ b _ _ => (dN, b, [], some t)
 | .While t b _ _ => (dN, b, [], some t)
 | .If t b e _ => (dN, b, e, some t)
 | .Assign _ v _ => (dN, [], [], some v)
 | .Return v _ => (dN, [], [], v)
 | .Expr v _ => (dN, [], [], some v)
 | _ => (dN, [], [], none)
noncomputable def tc (k j : Nat) : Stmt := nth (sPt (ts k)).2.1 j
noncomputable def dL (s : Stmt) : DefRec := (sPt s).1
noncomputable def fo (s : Stmt) (q : Str) (m : Value) (c : Addr) : Obj :=
 { cls := .type "function", data := .func { name := (dL s).name, qualname := q, params := (dL s).params, body := .stmts (dL s).body, scope := (dL s).scope, globals := 3, closure := [], defaults := .none, kwdefaults := .none, pyModule := m, code := .ref c } }
noncomputable def co (a t : Nat) (n q : Str) (l k : Int) (v : Nat) : Obj :=
 { cls := .type "code", data := .fields (match v with
  | 0 => #[.str n t, .str q (t + 1), .str "/claim/cut.py" (t + 2), .int l 0, .int k 0, .int 0 0, .int 0 0, .int 3 0, .ref (a - 3), .bool true, .int 181 0, .ref (a - 2), .none, .none, .none, .ref (a - 1), .int (t + 3 + v : Nat) 0, .int l 0, .str "/claim/cut.py" (t + 4 + v)]
  | _ => #[.str n t, .str q (t + 1), .str "/claim/cut.py" (t + 2), .int l 0, .int k 0, .int 0 0, .int 0 0, .int 3 0, .ref (a - 5), .bool true, .int 181 0, .ref (a - 4), .none, .ref (a - 3), .ref (a - 2), .ref (a - 1), .int (t + 3 + v : Nat) 0, .int l 0, .str "/claim/cut.py" (t + 4 + v)]) }
noncomputable def en (P : Params) (x : Str) (t : Nat) (v : Value) : DictEntry := { hash := PyData.keyHash P x, key := .str x t, val := v }
noncomputable abbrev m0 : Value := .str "gasledger.errors" 187
noncomputable abbrev m1 : Value := .str "gasledger.nibbles" 250
noncomputable abbrev m2 : Value := .str "gasledger.rlp" 298
noncomputable abbrev m3 : Value := .str "gasledger.trie" 341
noncomputable abbrev m4 : Value := .str "gasledger.digests" 560
noncomputable abbrev m5 : Value := .str "law_pq0400_01" 616
noncomputable def KF (P : Params) : Frag := [(3, { cls := .type "dict", data := .dict #[en P "__name__" 165 (.str "law_pq0400_01" 616), en P "__doc__" 166 .none, en P "__package__" 167 .none, en P "__loader__" 168 (.builtin "__main__.__loader__#opaque"), en P "__spec__" 169 .none, en P "__annotations__" 170 (.ref 6), en P "__builtins__" 171 (.ref 4), en P "__file__" 173 (.str "/claim/cut.py" 172), en P "__cached__" 174 .none, en P "MachineFault" 217 (.ref 31), en P "RlpFault" 233 (.ref 44), en P "TrieFault" 249 (.ref 56), en P "ODD" 253 (.int 1 252), en P "LEAF" 255 (.int 2 254), en P "nibbles_of" 264 (.ref 65), en P "shared" 274 (.ref 72), en P "packed" 288 (.ref 79), en P "unpacked" 297 (.ref 86), en P "DEEPEST" 301 (.int 60 300), en P "OCTETS" 303 (.int 128 302), en P "LIST" 305 (.int 192 304), en P "SHORT" 307 (.int 55 306), en P "number_octets" 314 (.ref 93), en P "head" 323 (.ref 100), en P "encoded_at" 333 (.ref 107), en P "encoded" 340 (.ref 114), en P "LONGEST_KEY" 344 (.int 32 343), en P "INLINE_BELOW" 346 (.int 32 345), en P "NOUGHT" 348 (.bytes #[] 347), en P "with_kid" 358 (.ref 121), en P "put_in_branch" 368 (.ref 128), en P "parted" 381 (.ref 135), en P "put_in" 395 (.ref 142), en P "led_to" 406 (.ref 149), en P "settled" 412 (.ref 154), en P "taken_out" 423 (.ref 161), en P "with_value" 432 (.ref 168), en P "step_down" 443 (.ref 175), en P "value_at" 452 (.ref 182), en P "add_items" 465 (.ref 189), en P "items" 473 (.ref 196), en P "form_of" 486 (.ref 203), en P "node_item" 496 (.ref 210), en P "root" 504 (.ref 217), en P "root_trie" 505 (.ref 217), en P "Trie" 559 (.ref 255), en P "LEAST_ADDRESS" 565 (.int 605153021707326989568713251046585937826284568576 564), en P "SPREAD" 567 (.int 281479271743489 566), en P "Numbered" 615 (.ref 290), en P "_law_octets" 623 (.ref 295), en P "_law_sizes" 631 (.ref 296), en P "_law_signs" 636 (.ref 297), en P "_law_draw" 646 (.ref 304), en P "_law_key" 652 (.ref 309), en P "_law_change" 664 (.ref 316), en P "_law_path" 673 (.ref 323), en P "_law_node" 679 (.ref 328), en P "_law_spelled" 685 (.ref 333), en P "_law_read" 694 (.ref 340), en P "_law_written" 700 (.ref 345), en P "_law_form" 706 (.ref 350), en P "_law_below" 716 (.ref 357), en P "_law_is_held" 729 (.ref 364), en P "_law_is_rooted" 748 (.ref 371), en P "_law_are_paths" 754 (.ref 376), en P "law" 760 (.ref 381)] 66 }),
 (27, co 27 201 "__init__" "MachineFault.__init__" 4 2 2),
 (28, fo (tc 1 0) "MachineFault.__init__" m0 27),
 (30, { cls := .type "dict", data := .dict #[en P "__module__" 196 (.str "gasledger.errors" 187), en P "__firstlineno__" 200 (.int 2 199), en P "__init__" 208 (.ref 28), en P "__static_attributes__" 210 (.ref 29), en P "__weakref__" 212 (.ref 32), en P "__doc__" 213 .none] 3 }),
 (31, { cls := .type "type", data := .cls { name := "MachineFault", bases := [.type "Exception"], mro := [.ref 31, .type "Exception", .type "BaseException", .type "object"], ns := 30, qualname := "MachineFault", subclasses := [.ref 44, .ref 56] }, slots := #[some (.ref 15), none, some (.str "MachineFault" 189), some (.str "MachineFault" 197), some (.builtin "Exception.__new__"), some (.bool true)] }),
 (32, { cls := .type "getset_descriptor", data := .fields #[.str "__weakref__" 211, .ref 31, .builtin "ExceptionGroup.__weakref__", .none] }),
 (55, { cls := .type "dict", data := .dict #[en P "__module__" 241 (.str "gasledger.errors" 187), en P "__firstlineno__" 245 (.int 9 244), en P "__static_attributes__" 246 (.ref 54), en P "__doc__" 247 .none] 2 }),
 (56, { cls := .type "type", data := .cls { name := "TrieFault", bases := [.ref 31], mro := [.ref 56, .ref 31, .type "Exception", .type "BaseException", .type "object"], ns := 55, qualname := "TrieFault" }, slots := #[some (.ref 47), none, some (.str "TrieFault" 234), some (.str "TrieFault" 242), some (.builtin "Exception.__new__"), some (.bool true)] }),
 (64, co 64 256 "nibbles_of" "nibbles_of" 14 1 3),
 (65, fo (ts 7) "nibbles_of" m1 64),
 (71, co 71 265 "shared" "shared" 20 2 4),
 (72, fo (ts 8) "shared" m1 71),
 (78, co 78 275 "packed" "packed" 25 2 8),
 (79, fo (ts 9) "packed" m1 78),
 (85, co 85 289 "unpacked" "unpacked" 35 1 3),
 (86, fo (ts 10) "unpacked" m1 85),
 (92, co 92 308 "number_octets" "number_octets" 50 1 1),
 (93, fo (ts 16) "number_octets" m2 92),
 (99, co 99 315 "head" "head" 54 2 3),
 (100, fo (ts 17) "head" m2 99),
 (106, co 106 324 "encoded_at" "encoded_at" 59 2 4),
 (107, fo (ts 18) "encoded_at" m2 106),
 (113, co 113 334 "encoded" "encoded" 72 1 1),
 (114, fo (ts 19) "encoded" m2 113),
 (120, co 120 349 "with_kid" "with_kid" 78 3 4),
 (121, fo (ts 24) "with_kid" m3 120),
 (127, co 127 359 "put_in_branch" "put_in_branch" 82 3 4),
 (128, fo (ts 25) "put_in_branch" m3 127),
 (134, co 134 369 "parted" "parted" 87 2 7),
 (135, fo (ts 26) "parted" m3 134),
 (141, co 141 382 "put_in" "put_in" 93 3 8),
 (142, fo (ts 27) "put_in" m3 141),
 (148, co 148 396 "led_to" "led_to" 107 2 5),
 (149, fo (ts 28) "led_to" m3 148),
 (153, co 153 407 "settled" "settled" 114 1 0),
 (154, fo (ts 29) "settled" m3 153),
 (160, co 160 413 "taken_out" "taken_out" 122 2 5),
 (161, fo (ts 30) "taken_out" m3 160),
 (167, co 167 424 "with_value" "with_value" 135 3 3),
 (168, fo (ts 31) "with_value" m3 167),
 (174, co 174 433 "step_down" "step_down" 137 2 5),
 (175, fo (ts 32) "step_down" m3 174),
 (181, co 181 444 "value_at" "value_at" 148 2 3),
 (182, fo (ts 33) "value_at" m3 181),
 (188, co 188 453 "add_items" "add_items" 154 3 7),
 (189, fo (ts 34) "add_items" m3 188),
 (195, co 195 466 "items" "items" 167 1 2),
 (196, fo (ts 35) "items" m3 195),
 (202, co 202 474 "form_of" "form_of" 171 2 7),
 (203, fo (ts 36) "form_of" m3 202),
 (209, co 209 487 "node_item" "node_item" 184 2 4),
 (210, fo (ts 37) "node_item" m3 209),
 (216, co 216 497 "root" "root" 188 2 2),
 (217, fo (ts 38) "root" m3 216),
 (230, co 230 518 "__init__" "Trie.__init__" 193 2 2),
 (231, fo (tc 40 0) "Trie.__init__" m3 230),
 (237, co 237 526 "put" "Trie.put" 197 3 3),
 (238, fo (tc 40 1) "Trie.put" m3 237),
 (244, co 244 535 "get" "Trie.get" 202 2 2),
 (245, fo (tc 40 2) "Trie.get" m3 244),
 (251, co 251 543 "root" "Trie.root" 205 1 1),
 (252, fo (tc 40 3) "Trie.root" m3 251),
 (254, { cls := .type "dict", data := .dict #[en P "__module__" 513 (.str "gasledger.trie" 341), en P "__firstlineno__" 517 (.int 191 516), en P "__init__" 525 (.ref 231), en P "put" 534 (.ref 238), en P "get" 542 (.ref 245), en P "root" 549 (.ref 252), en P "__static_attributes__" 552 (.ref 253), en P "__dict__" 554 (.ref 256), en P "__weakref__" 556 (.ref 257), en P "__doc__" 557 .none] 4 }),
 (255, { cls := .type "type", data := .cls { name := "Trie", bases := [.type "object"], mro := [.ref 255, .type "object"], ns := 254, qualname := "Trie" }, slots := #[none, none, some (.str "Trie" 506), some (.str "Trie" 514), some (.builtin "object.__new__"), some (.bool true)] }),
 (256, { cls := .type "getset_descriptor", data := .fields #[.str "__dict__" 553, .ref 255, .builtin "function.__dict__", .builtin "function.__dict__#set"] }),
 (257, { cls := .type "getset_descriptor", data := .fields #[.str "__weakref__" 555, .ref 255, .builtin "ExceptionGroup.__weakref__", .none] }),
 (272, co 272 580 "__init__" "Numbered.__init__" 212 1 1),
 (273, fo (tc 44 0) "Numbered.__init__" m4 272),
 (279, co 279 587 "number" "Numbered.number" 215 2 3),
 (280, fo (tc 44 1) "Numbered.number" m4 279),
 (286, co 286 596 "of" "Numbered.of" 221 2 5),
 (287, fo (tc 44 2) "Numbered.of" m4 286),
 (289, { cls := .type "dict", data := .dict #[en P "__module__" 575 (.str "gasledger.digests" 560), en P "__firstlineno__" 579 (.int 210 578), en P "__init__" 586 (.ref 273), en P "number" 595 (.ref 280), en P "of" 606 (.ref 287), en P "__static_attributes__" 608 (.ref 288), en P "__dict__" 610 (.ref 291), en P "__weakref__" 612 (.ref 292), en P "__doc__" 613 .none] 4 }),
 (290, { cls := .type "type", data := .cls { name := "Numbered", bases := [.type "object"], mro := [.ref 290, .type "object"], ns := 289, qualname := "Numbered" }, slots := #[none, none, some (.str "Numbered" 568), some (.str "Numbered" 576), some (.builtin "object.__new__"), some (.bool true)] }),
 (291, { cls := .type "getset_descriptor", data := .fields #[.str "__dict__" 609, .ref 290, .builtin "function.__dict__", .builtin "function.__dict__#set"] }),
 (292, { cls := .type "getset_descriptor", data := .fields #[.str "__weakref__" 611, .ref 290, .builtin "ExceptionGroup.__weakref__", .none] }),
 (295, { cls := .type "tuple", data := .seq #[.int 0 618, .int 1 619, .int 16 620, .int 17 621, .int 255 622] }),
 (296, { cls := .type "tuple", data := .seq #[.int 1 624, .int 2 625, .int 26 626, .int 27 627, .int 28 628, .int 29 629, .int 60 630] }),
 (297, { cls := .type "tuple", data := .seq #[.int 0 632, .int 1 633, .int 127 634, .int 128 635] }),
 (303, co 303 637 "_law_draw" "_law_draw" 230 2 4),
 (304, fo (ts 49) "_law_draw" m5 303),
 (308, co 308 647 "_law_key" "_law_key" 235 1 0),
 (309, fo (ts 50) "_law_key" m5 308),
 (315, co 315 653 "_law_change" "_law_change" 238 2 6),
 (316, fo (ts 51) "_law_change" m5 315),
 (322, co 322 665 "_law_path" "_law_path" 251 1 3),
 (323, fo (ts 52) "_law_path" m5 322),
 (327, co 327 674 "_law_node" "_law_node" 256 1 0),
 (328, fo (ts 53) "_law_node" m5 327),
 (332, co 332 680 "_law_spelled" "_law_spelled" 274 2 0),
 (333, fo (ts 54) "_law_spelled" m5 332),
 (339, co 339 686 "_law_read" "_law_read" 281 1 3),
 (340, fo (ts 55) "_law_read" m5 339),
 (344, co 344 695 "_law_written" "_law_written" 288 1 0),
 (345, fo (ts 56) "_law_written" m5 344),
 (349, co 349 701 "_law_form" "_law_form" 299 2 0),
 (350, fo (ts 57) "_law_form" m5 349),
 (356, co 356 707 "_law_below" "_law_below" 307 2 4),
 (357, fo (ts 58) "_law_below" m5 356),
 (363, co 363 717 "_law_is_held" "_law_is_held" 311 3 7),
 (364, fo (ts 59) "_law_is_held" m5 363),
 (370, co 370 730 "_law_is_rooted" "_law_is_rooted" 326 4 13),
 (371, fo (ts 60) "_law_is_rooted" m5 370),
 (375, co 375 749 "_law_are_paths" "_law_are_paths" 347 1 0),
 (376, fo (ts 61) "_law_are_paths" m5 375),
 (380, co 380 755 "law" "law" 371 1 0),
 (381, fo (ts 62) "law" m5 380)]
noncomputable def kAs : List Addr := [3, 27, 28, 30, 31, 32, 55, 56, 64, 65, 71, 72, 78, 79, 85, 86, 92, 93, 99, 100, 106, 107, 113, 114, 120, 121, 127, 128, 134, 135, 141, 142, 148, 149, 153, 154, 160, 161, 167, 168, 174, 175, 181, 182, 188, 189, 195, 196, 202, 203, 209, 210, 216, 217, 230, 231, 237, 238, 244, 245, 251, 252, 254, 255, 256, 257, 272, 273, 279, 280, 286, 287, 289, 290, 291, 292, 295, 296, 297, 303, 304, 308, 309, 315, 316, 322, 323, 327, 328, 332, 333, 339, 340, 344, 345, 349, 350, 356, 357, 363, 364, 370, 371, 375, 376, 380, 381]
theorem kAs_ok (P : Params) : kAs = (KF P).map (fun x => x.1) := by kernel_rfl
noncomputable abbrev QV : Program := view PG [1, 2, 3, 5, 6, 7, 8, 9, 10, 12, 13, 14, 15, 16, 17, 18, 19, 21, 22, 23, 24, 25, 26, 27, 28, 29, 30, 31, 32, 33, 34, 35, 36, 37, 38, 39, 40, 42, 43, 44, 46, 47, 48, 49, 50, 51, 52, 53, 54, 55, 56, 57, 58, 59, 60, 61, 62]
noncomputable abbrev LL : List Str := ["root_trie", "LEAST_ADDRESS"]
noncomputable abbrev LV : List (Str × WData) := [("LEAST_ADDRESS", .int 605153021707326989568713251046585937826284568576)]
noncomputable abbrev Xt1 (s : Shared) : Bool := xlAt QV LV s && recOk PySem.Challenge.rw_pq0400_01.row.records s
noncomputable abbrev KH : Hook := kHook KF kAs kAs_ok
noncomputable abbrev s0 (w : World) (os : OsState) : Shared := ⟨boot_heap w.params, #[], boot_drawn, boot_toks, os⟩
noncomputable abbrev TW (w : World) (os : OsState) : Option Shared := PySem.W.Fast.tw14082659384304107361 PySem.W.Fast.tw14364793385576792824 PG w 11 (some (.ref 6)) 5386 (s0 w os) (topStub PG)
noncomputable abbrev Chk (w : World) (s : Shared) : Bool := staticsOk (importedModules PG.main.body) (boot_heap w.params) s.heap && namesBound PG s.heap && gensDone s && laidKept (boot_heap w.params) s.heap
set_option maxHeartbeats 0
theorem r0 (w : World) (os : OsState) : (TW w os).map (fun s => (Chk w s, PySem.W.Fast.tw4187177175401517315 QV LL (PySem.W.Fast.tw5923862056798008813 PG.main.body) Xt1 true s, KH.obs s)) = some (true, openGood QV LL, KH.val w) := by kernel_rfl
theorem r4 (w : World) : ((boot_heap w.params).isNs mainGlobals && (#[] : Array GenState).size == 0, (boot_heap w.params).objs.size, (boot_heap w.params).nsMap mainGlobals "__annotations__") = (true, 11, some (.ref 6)) := by kernel_rfl
theorem opn : opening PG = plainProg PG.main.scope.names := by kernel_rfl
theorem fnc (s : Shared) : fenceModules? PG s = some s := by kernel_rfl
theorem pr2 {α β : Type _} {a a' : α} {b b' : β} (h : a = a') (k : b = b') : some (a, b) = some (a', b') := by rw [h, k]
theorem left : LeftO PG QV LL Xt1 KH.obs KH.val 5386 := fun w => by
 obtain ⟨⟨h, gs, d, k, os⟩, e, e'⟩ := Option.map_eq_some_iff.mp (boot_open (N := 5386) opn rfl fnc w)
 obtain ⟨rfl, rfl, rfl, rfl⟩ : h = boot_heap w.params /\ gs = #[] /\ d = boot_drawn /\ k = boot_toks := by simpa using e'
 obtain ⟨z1, z2, z3⟩ : _ /\ _ /\ _ := by simpa only [Prod.mk.injEq] using r4 w
 obtain ⟨s, hs, c1⟩ := Option.map_eq_some_iff.mp (r0 w os)
 obtain ⟨c1, c2, c3⟩ : _ /\ _ /\ _ := by simpa only [Prod.mk.injEq] using c1
 have hr : topRun treeTable PG w 11 (some (.ref 6)) 5386 (s0 w os) (topStub PG) = some s := by
  rw [PySem.W.Fast.te14082659384304107361, PySem.W.Fast.te14364793385576792824]; exact hs
 rw [<- PySem.W.Fast.te4187177175401517315, <- PySem.W.Fast.te5923862056798008813] at c2
 have t : topFrom treeTable PG w 5386 (s0 w os) = some s := by
  unfold topFrom
  dsimp only
  rw [z1, z2, z3, hr]
  show (match Chk w s with | true => _ | false => _) = _
  rw [c1]
 unfold openEnds
 rw [e, Option.bind_some, t]
 exact pr2 c2 c3
theorem said : PySem.Challenge.rw_pq0400_01.wellSaid = true := by kernel_rfl
noncomputable abbrev lawD : DefRec := dL (ts 62)
theorem hd (walk : WalkO QV LL (XL QV LV) KH.says PySem.Challenge.rw_pq0400_01.row.toRowW lawD [] fun f vs => PySem.call f vs) : PySem.Challenge.rw_pq0400_01.Holds :=
 holds_law said fun said => holds_open (r := PySem.Challenge.rw_pq0400_01.row) (q := QV) (loose := LL) (Xt := Xt1) (XP := XL QV LV) (Yf := KH.obs) (Ya := KH.val) (YP := KH.says) (N := 5386) (d := lawD) (kwd := [])
  left KH.of KH.keeps (fun s e => xl_of s (Bool.and_eq_true_iff.mp e).1) XL.keeps (by kernel_rfl) (by kernel_rfl) (by kernel_rfl) (fun s e => recFacts_of (Bool.and_eq_true_iff.mp e).2) (by kernel_rfl) said (by kernel_rfl) ⟨by kernel_rfl, by kernel_rfl, by kernel_rfl, by kernel_rfl, by kernel_rfl, by kernel_rfl⟩
  ⟨[.list []], by decide +kernel, by decide +kernel⟩ walk
end
section
theorem x2_7 {α0 α1 : Sort _} {p0 p1 p2 p3 p4 p5 p6 : α0 -> α1 -> Prop} {P : Prop} (h : ∃ x y, p0 x y /\ p1 x y /\ p2 x y /\ p3 x y /\ p4 x y /\ p5 x y /\ p6 x y) (k : ∀ x y, p0 x y -> p1 x y -> p2 x y -> p3 x y -> p4 x y -> p5 x y -> p6 x y -> P) : P := h.elim fun x h => h.elim fun y h => k x y h.1 h.2.1 h.2.2.1 h.2.2.2.1 h.2.2.2.2.1 h.2.2.2.2.2.1 h.2.2.2.2.2.2
theorem x5_9 {α0 α1 α2 α3 α4 : Sort _} {p0 p1 p2 p3 p4 p5 p6 p7 p8 : α0 -> α1 -> α2 -> α3 -> α4 -> Prop} {P : Prop} (h : ∃ x y z u v, p0 x y z u v /\ p1 x y z u v /\ p2 x y z u v /\ p3 x y z u v /\ p4 x y z u v /\ p5 x y z u v /\ p6 x y z u v /\ p7 x y z u v /\ p8 x y z u v) (k : ∀ x y z u v, p0 x y z u v -> p1 x y z u v -> p2 x y z u v -> p3 x y z u v -> p4 x y z u v -> p5 x y z u v -> p6 x y z u v -> p7 x y z u v -> p8 x y z u v -> P) : P := h.elim fun x h => h.elim fun y h => h.elim fun z h => h.elim fun u h => h.elim fun v h => k x y z u v h.1 h.2.1 h.2.2.1 h.2.2.2.1 h.2.2.2.2.1 h.2.2.2.2.2.1 h.2.2.2.2.2.2.1 h.2.2.2.2.2.2.2.1 h.2.2.2.2.2.2.2.2
theorem x6_7 {α0 α1 α2 α3 α4 α5 : Sort _} {p0 p1 p2 p3 p4 p5 p6 : α0 -> α1 -> α2 -> α3 -> α4 -> α5 -> Prop} {P : Prop} (h : ∃ x y z u v w, p0 x y z u v w /\ p1 x y z u v w /\ p2 x y z u v w /\ p3 x y z u v w /\ p4 x y z u v w /\ p5 x y z u v w /\ p6 x y z u v w) (k : ∀ x y z u v w, p0 x y z u v w -> p1 x y z u v w -> p2 x y z u v w -> p3 x y z u v w -> p4 x y z u v w -> p5 x y z u v w -> p6 x y z u v w -> P) : P := h.elim fun x h => h.elim fun y h => h.elim fun z h => h.elim fun u h => h.elim fun v h => h.elim fun w h => k x y z u v w h.1 h.2.1 h.2.2.1 h.2.2.2.1 h.2.2.2.2.1 h.2.2.2.2.2.1 h.2.2.2.2.2.2
theorem x0_2 {p0 p1 P : Prop} (h : p0 /\ p1) (k : p0 -> p1 -> P) : P := k h.1 h.2
theorem x0_3 {p0 p1 p2 P : Prop} (h : p0 /\ p1 /\ p2) (k : p0 -> p1 -> p2 -> P) : P := k h.1 h.2.1 h.2.2
theorem x0_4 {p0 p1 p2 p3 P : Prop} (h : p0 /\ p1 /\ p2 /\ p3) (k : p0 -> p1 -> p2 -> p3 -> P) : P := k h.1 h.2.1 h.2.2.1 h.2.2.2
theorem x1_1 {α0 : Sort _} {p0 : α0 -> Prop} {P : Prop} (h : ∃ x, p0 x) (k : ∀ x, p0 x -> P) : P := h.elim fun x h => k x h
theorem x1_2 {α0 : Sort _} {p0 p1 : α0 -> Prop} {P : Prop} (h : ∃ x, p0 x /\ p1 x) (k : ∀ x, p0 x -> p1 x -> P) : P := h.elim fun x h => k x h.1 h.2
theorem x1_3 {α0 : Sort _} {p0 p1 p2 : α0 -> Prop} {P : Prop} (h : ∃ x, p0 x /\ p1 x /\ p2 x) (k : ∀ x, p0 x -> p1 x -> p2 x -> P) : P := h.elim fun x h => k x h.1 h.2.1 h.2.2
theorem x1_4 {α0 : Sort _} {p0 p1 p2 p3 : α0 -> Prop} {P : Prop} (h : ∃ x, p0 x /\ p1 x /\ p2 x /\ p3 x) (k : ∀ x, p0 x -> p1 x -> p2 x -> p3 x -> P) : P := h.elim fun x h => k x h.1 h.2.1 h.2.2.1 h.2.2.2
theorem x1_6 {α0 : Sort _} {p0 p1 p2 p3 p4 p5 : α0 -> Prop} {P : Prop} (h : ∃ x, p0 x /\ p1 x /\ p2 x /\ p3 x /\ p4 x /\ p5 x) (k : ∀ x, p0 x -> p1 x -> p2 x -> p3 x -> p4 x -> p5 x -> P) : P := h.elim fun x h => k x h.1 h.2.1 h.2.2.1 h.2.2.2.1 h.2.2.2.2.1 h.2.2.2.2.2
theorem x2_1 {α0 α1 : Sort _} {p0 : α0 -> α1 -> Prop} {P : Prop} (h : ∃ x y, p0 x y) (k : ∀ x y, p0 x y -> P) : P := h.elim fun x h => h.elim fun y h => k x y h
theorem x2_2 {α0 α1 : Sort _} {p0 p1 : α0 -> α1 -> Prop} {P : Prop} (h : ∃ x y, p0 x y /\ p1 x y) (k : ∀ x y, p0 x y -> p1 x y -> P) : P := h.elim fun x h => h.elim fun y h => k x y h.1 h.2
theorem x2_3 {α0 α1 : Sort _} {p0 p1 p2 : α0 -> α1 -> Prop} {P : Prop} (h : ∃ x y, p0 x y /\ p1 x y /\ p2 x y) (k : ∀ x y, p0 x y -> p1 x y -> p2 x y -> P) : P := h.elim fun x h => h.elim fun y h => k x y h.1 h.2.1 h.2.2
theorem x2_4 {α0 α1 : Sort _} {p0 p1 p2 p3 : α0 -> α1 -> Prop} {P : Prop} (h : ∃ x y, p0 x y /\ p1 x y /\ p2 x y /\ p3 x y) (k : ∀ x y, p0 x y -> p1 x y -> p2 x y -> p3 x y -> P) : P := h.elim fun x h => h.elim fun y h => k x y h.1 h.2.1 h.2.2.1 h.2.2.2
theorem x3_1 {α0 α1 α2 : Sort _} {p0 : α0 -> α1 -> α2 -> Prop} {P : Prop} (h : ∃ x y z, p0 x y z) (k : ∀ x y z, p0 x y z -> P) : P := h.elim fun x h => h.elim fun y h => h.elim fun z h => k x y z h
theorem x3_2 {α0 α1 α2 : Sort _} {p0 p1 : α0 -> α1 -> α2 -> Prop} {P : Prop} (h : ∃ x y z, p0 x y z /\ p1 x y z) (k : ∀ x y z, p0 x y z -> p1 x y z -> P) : P := h.elim fun x h => h.elim fun y h => h.elim fun z h => k x y z h.1 h.2
theorem x3_3 {α0 α1 α2 : Sort _} {p0 p1 p2 : α0 -> α1 -> α2 -> Prop} {P : Prop} (h : ∃ x y z, p0 x y z /\ p1 x y z /\ p2 x y z) (k : ∀ x y z, p0 x y z -> p1 x y z -> p2 x y z -> P) : P := h.elim fun x h => h.elim fun y h => h.elim fun z h => k x y z h.1 h.2.1 h.2.2
theorem x3_4 {α0 α1 α2 : Sort _} {p0 p1 p2 p3 : α0 -> α1 -> α2 -> Prop} {P : Prop} (h : ∃ x y z, p0 x y z /\ p1 x y z /\ p2 x y z /\ p3 x y z) (k : ∀ x y z, p0 x y z -> p1 x y z -> p2 x y z -> p3 x y z -> P) : P := h.elim fun x h => h.elim fun y h => h.elim fun z h => k x y z h.1 h.2.1 h.2.2.1 h.2.2.2
theorem x3_5 {α0 α1 α2 : Sort _} {p0 p1 p2 p3 p4 : α0 -> α1 -> α2 -> Prop} {P : Prop} (h : ∃ x y z, p0 x y z /\ p1 x y z /\ p2 x y z /\ p3 x y z /\ p4 x y z) (k : ∀ x y z, p0 x y z -> p1 x y z -> p2 x y z -> p3 x y z -> p4 x y z -> P) : P := h.elim fun x h => h.elim fun y h => h.elim fun z h => k x y z h.1 h.2.1 h.2.2.1 h.2.2.2.1 h.2.2.2.2
theorem x3_6 {α0 α1 α2 : Sort _} {p0 p1 p2 p3 p4 p5 : α0 -> α1 -> α2 -> Prop} {P : Prop} (h : ∃ x y z, p0 x y z /\ p1 x y z /\ p2 x y z /\ p3 x y z /\ p4 x y z /\ p5 x y z) (k : ∀ x y z, p0 x y z -> p1 x y z -> p2 x y z -> p3 x y z -> p4 x y z -> p5 x y z -> P) : P := h.elim fun x h => h.elim fun y h => h.elim fun z h => k x y z h.1 h.2.1 h.2.2.1 h.2.2.2.1 h.2.2.2.2.1 h.2.2.2.2.2
theorem x3_7 {α0 α1 α2 : Sort _} {p0 p1 p2 p3 p4 p5 p6 : α0 -> α1 -> α2 -> Prop} {P : Prop} (h : ∃ x y z, p0 x y z /\ p1 x y z /\ p2 x y z /\ p3 x y z /\ p4 x y z /\ p5 x y z /\ p6 x y z) (k : ∀ x y z, p0 x y z -> p1 x y z -> p2 x y z -> p3 x y z -> p4 x y z -> p5 x y z -> p6 x y z -> P) : P := h.elim fun x h => h.elim fun y h => h.elim fun z h => k x y z h.1 h.2.1 h.2.2.1 h.2.2.2.1 h.2.2.2.2.1 h.2.2.2.2.2.1 h.2.2.2.2.2.2
theorem x4_1 {α0 α1 α2 α3 : Sort _} {p0 : α0 -> α1 -> α2 -> α3 -> Prop} {P : Prop} (h : ∃ x y z u, p0 x y z u) (k : ∀ x y z u, p0 x y z u -> P) : P := h.elim fun x h => h.elim fun y h => h.elim fun z h => h.elim fun u h => k x y z u h
theorem x4_2 {α0 α1 α2 α3 : Sort _} {p0 p1 : α0 -> α1 -> α2 -> α3 -> Prop} {P : Prop} (h : ∃ x y z u, p0 x y z u /\ p1 x y z u) (k : ∀ x y z u, p0 x y z u -> p1 x y z u -> P) : P := h.elim fun x h => h.elim fun y h => h.elim fun z h => h.elim fun u h => k x y z u h.1 h.2
theorem x4_3 {α0 α1 α2 α3 : Sort _} {p0 p1 p2 : α0 -> α1 -> α2 -> α3 -> Prop} {P : Prop} (h : ∃ x y z u, p0 x y z u /\ p1 x y z u /\ p2 x y z u) (k : ∀ x y z u, p0 x y z u -> p1 x y z u -> p2 x y z u -> P) : P := h.elim fun x h => h.elim fun y h => h.elim fun z h => h.elim fun u h => k x y z u h.1 h.2.1 h.2.2
theorem x4_6 {α0 α1 α2 α3 : Sort _} {p0 p1 p2 p3 p4 p5 : α0 -> α1 -> α2 -> α3 -> Prop} {P : Prop} (h : ∃ x y z u, p0 x y z u /\ p1 x y z u /\ p2 x y z u /\ p3 x y z u /\ p4 x y z u /\ p5 x y z u) (k : ∀ x y z u, p0 x y z u -> p1 x y z u -> p2 x y z u -> p3 x y z u -> p4 x y z u -> p5 x y z u -> P) : P := h.elim fun x h => h.elim fun y h => h.elim fun z h => h.elim fun u h => k x y z u h.1 h.2.1 h.2.2.1 h.2.2.2.1 h.2.2.2.2.1 h.2.2.2.2.2
theorem x5_2 {α0 α1 α2 α3 α4 : Sort _} {p0 p1 : α0 -> α1 -> α2 -> α3 -> α4 -> Prop} {P : Prop} (h : ∃ x y z u v, p0 x y z u v /\ p1 x y z u v) (k : ∀ x y z u v, p0 x y z u v -> p1 x y z u v -> P) : P := h.elim fun x h => h.elim fun y h => h.elim fun z h => h.elim fun u h => h.elim fun v h => k x y z u v h.1 h.2
theorem x5_5 {α0 α1 α2 α3 α4 : Sort _} {p0 p1 p2 p3 p4 : α0 -> α1 -> α2 -> α3 -> α4 -> Prop} {P : Prop} (h : ∃ x y z u v, p0 x y z u v /\ p1 x y z u v /\ p2 x y z u v /\ p3 x y z u v /\ p4 x y z u v) (k : ∀ x y z u v, p0 x y z u v -> p1 x y z u v -> p2 x y z u v -> p3 x y z u v -> p4 x y z u v -> P) : P := h.elim fun x h => h.elim fun y h => h.elim fun z h => h.elim fun u h => h.elim fun v h => k x y z u v h.1 h.2.1 h.2.2.1 h.2.2.2.1 h.2.2.2.2
inductive D where
 | none
 | bool (b : Bool)
 | int (i : Int)
 | str (x : Str)
 | bytes (b : List UInt8)
 | tup (ds : List D)
 | lst (ds : List D)
 | obj (i : Nat)
 | inst (C : Addr) (i : Nat)
 | raw (v : Value)
noncomputable abbrev Gm := Addr -> Option Obj
set_option inductive.autoPromoteIndices false
inductive RNone : Value -> Prop
 | none : RNone Value.none
inductive RBool : Value -> Bool -> Prop
 | bool (b : Bool) : RBool (Value.bool b) b
inductive RInt : Value -> Int -> Prop
 | int (i : Int) (t : Tok) : RInt (Value.int i t) i
inductive RStr : Value -> Str -> Prop
 | str (x : Str) (t : Tok) : RStr (Value.str x t) x
inductive RByt : Value -> List UInt8 -> Prop
 | bytes (b : List UInt8) (t : Tok) : RByt (Value.bytes b.toArray t) b
inductive RTup (G : Gm) (Q : List Value -> Prop) : Value -> Prop
 | tup {a : Addr} {o : Obj} {vs : List Value} {n : Nat} : G a = some o -> o.cls = .type "tuple" -> o.data = .seq vs.toArray n -> Q vs -> RTup G Q (Value.ref a)
inductive RLst (G : Gm) (Q : List Value -> Prop) : Value -> Prop
 | lst {a : Addr} {o : Obj} {vs : List Value} {n : Nat} : G a = some o -> o.cls = .type "list" -> o.data = .seq vs.toArray n -> Q vs -> RLst G Q (Value.ref a)
inductive RObj (β : List Addr) : Value -> Nat -> Prop
 | obj {i : Nat} {a : Addr} : β[i]? = some a -> RObj β (Value.ref a) i
inductive RInst (G : Gm) (β : List Addr) : Value -> Addr -> Nat -> Prop
 | inst {C : Addr} {i : Nat} {a x : Addr} : G x = some (instObj C a) -> β[i]? = some a -> RInst G β (Value.ref x) C i
inductive RRaw : Value -> Value -> Prop
 | raw (v : Value) : RRaw v v
inductive RNil : List Value -> Prop
 | nil : RNil []
inductive RCons (P : Value -> Prop) (Q : List Value -> Prop) : List Value -> Prop
 | cons {v : Value} {vs : List Value} : P v -> Q vs -> RCons P Q (v :: vs)
mutual
noncomputable def Rep (G : Gm) (β : List Addr) : Value -> D -> Prop
 | v, .none => RNone v
 | v, .bool b => RBool v b
 | v, .int i => RInt v i
 | v, .str x => RStr v x
 | v, .bytes b => RByt v b
 | v, .tup ds => RTup G (fun vs => RepAll G β vs ds) v
 | v, .lst ds => RLst G (fun vs => RepAll G β vs ds) v
 | v, .obj i => RObj β v i
 | v, .inst C i => RInst G β v C i
 | v, .raw u => RRaw v u
noncomputable def RepAll (G : Gm) (β : List Addr) : List Value -> List D -> Prop
 | vs, [] => RNil vs
 | vs, d :: ds => RCons (fun v => Rep G β v d) (fun vs => RepAll G β vs ds) vs
end
section
variable {G : Gm} {β : List Addr}
theorem Rep.none : Rep G β Value.none D.none := RNone.none
theorem Rep.bool (b : Bool) : Rep G β (Value.bool b) (D.bool b) := RBool.bool b
theorem Rep.int (i : Int) (t : Tok) : Rep G β (Value.int i t) (D.int i) := RInt.int i t
theorem Rep.str (x : Str) (t : Tok) : Rep G β (Value.str x t) (D.str x) := RStr.str x t
theorem Rep.bytes (b : List UInt8) (t : Tok) : Rep G β (Value.bytes b.toArray t) (D.bytes b) := RByt.bytes b t
theorem Rep.tup {a : Addr} {o : Obj} {vs : List Value} {n : Nat} {ds : List D} (h : G a = some o) (c : o.cls = .type "tuple") (e : o.data = .seq vs.toArray n) (r : RepAll G β vs ds) : Rep G β (Value.ref a) (D.tup ds) := RTup.tup h c e r
theorem Rep.lst {a : Addr} {o : Obj} {vs : List Value} {n : Nat} {ds : List D} (h : G a = some o) (c : o.cls = .type "list") (e : o.data = .seq vs.toArray n) (r : RepAll G β vs ds) : Rep G β (Value.ref a) (D.lst ds) := RLst.lst h c e r
theorem Rep.obj {i : Nat} {a : Addr} (h : β[i]? = some a) : Rep G β (Value.ref a) (D.obj i) := RObj.obj h
theorem Rep.inst {C : Addr} {i : Nat} {a x : Addr} (h : G x = some (instObj C a)) (r : β[i]? = some a) : Rep G β (Value.ref x) (D.inst C i) := RInst.inst h r
theorem Rep.raw (v : Value) : Rep G β v (D.raw v) := RRaw.raw v
theorem RepAll.nil : RepAll G β [] [] := RNil.nil
theorem RepAll.cons {v : Value} {vs : List Value} {d : D} {ds : List D} (h : Rep G β v d) (r : RepAll G β vs ds) : RepAll G β (v :: vs) (d :: ds) := RCons.cons h r
end
mutual
theorem Rep.mono {G G' : Gm} {β β' : List Addr} (hg : ∀ (a : Addr) (o : Obj), G a = some o -> G' a = some o) (hb : ∀ (i : Nat) (a : Addr), β[i]? = some a -> β'[i]? = some a) : ∀ {v : Value} {d : D}, Rep G β v d -> Rep G' β' v d
 | _, .none, h => by cases h; exact .none
 | _, .bool b, h => by cases h; exact .bool b
 | _, .int i, h => by cases h; exact .int i _
 | _, .str x, h => by cases h; exact .str x _
 | _, .bytes b, h => by cases h; exact .bytes b _
 | _, .tup ds, h => by cases h with | tup h c e r => exact .tup (hg _ _ h) c e (RepAll.mono hg hb r)
 | _, .lst ds, h => by cases h with | lst h c e r => exact .lst (hg _ _ h) c e (RepAll.mono hg hb r)
 | _, .obj i, h => by cases h with | obj h => exact .obj (hb _ _ h)
 | _, .inst C i, h => by cases h with | inst h r => exact .inst (hg _ _ h) (hb _ _ r)
 | _, .raw _, h => by cases h; exact .raw _
theorem RepAll.mono {G G' : Gm} {β β' : List Addr} (hg : ∀ (a : Addr) (o : Obj), G a = some o -> G' a = some o) (hb : ∀ (i : Nat) (a : Addr), β[i]? = some a -> β'[i]? = some a) : ∀ {vs : List Value} {ds : List D}, RepAll G β vs ds -> RepAll G' β' vs ds
 | _, [], h => by cases h; exact .nil
 | _, d :: ds, h => by cases h with | cons h r => exact .cons (Rep.mono hg hb h) (RepAll.mono hg hb r)
end
section
variable {G : Gm} {β : List Addr} {v : Value} {d : D} {vs ws : List Value} {ds es : List D}
theorem RepAll.length (h : RepAll G β vs ds) : vs.length = ds.length := by
 induction ds generalizing vs with
 | nil => cases h; rfl
 | cons e ds ih => cases h with | cons _ r => rw [List.length_cons, List.length_cons, ih r]
theorem RepAll.append (h : RepAll G β vs ds) (k : RepAll G β ws es) : RepAll G β (vs ++ ws) (ds ++ es) := by
 induction ds generalizing vs with
 | nil => cases h; exact k
 | cons e ds ih => cases h with | cons h r => exact .cons h (ih r)
theorem RepAll.get (h : RepAll G β vs ds) {k : Nat} {d : D} (hk : ds[k]? = some d) : ∃ v, vs[k]? = some v /\ Rep G β v d := by
 induction ds generalizing vs k with
 | nil => cases h; simp at hk
 | cons e ds ih =>
  cases h with
  | cons h r =>
   cases k with
   | zero => simp only [List.getElem?_cons_zero, Option.some.injEq] at hk; subst hk; exact ⟨_, rfl, h⟩
   | succ k => simp only [List.getElem?_cons_succ] at hk; exact ih r hk
theorem RepAll.take (h : RepAll G β vs ds) (k : Nat) : RepAll G β (vs.take k) (ds.take k) := by
 induction ds generalizing vs k with
 | nil => cases h; simp; exact .nil
 | cons e ds ih =>
  cases h with
  | cons h r =>
   cases k with
   | zero => exact .nil
   | succ k => exact .cons h (ih r k)
theorem RepAll.drop (h : RepAll G β vs ds) (k : Nat) : RepAll G β (vs.drop k) (ds.drop k) := by
 induction ds generalizing vs k with
 | nil => cases h; simp; exact .nil
 | cons e ds ih =>
  cases h with
  | cons h r =>
   cases k with
   | zero => exact .cons h r
   | succ k => exact ih r k
theorem RepAll.reverse (h : RepAll G β vs ds) : RepAll G β vs.reverse ds.reverse := by
 induction ds generalizing vs with
 | nil => cases h; exact .nil
 | cons e ds ih =>
  cases h with
  | cons h r => rw [List.reverse_cons, List.reverse_cons]; exact (ih r).append (.cons h .nil)
theorem RepAll.replicate (h : Rep G β v d) (n : Nat) : RepAll G β (List.replicate n v) (List.replicate n d) := by
 induction n with
 | zero => exact .nil
 | succ n ih => exact .cons h ih
theorem RepAll.set (h : RepAll G β vs ds) (r : Rep G β v d) (k : Nat) : RepAll G β (vs.set k v) (ds.set k d) := by
 induction ds generalizing vs k with
 | nil => cases h; exact .nil
 | cons e ds ih =>
  cases h with
  | cons h r' =>
   cases k with
   | zero => exact .cons r r'
   | succ k => exact .cons h (ih r' k)
end
theorem RepAll.nilV {G : Gm} {β : List Addr} {ds : List D} (h : RepAll G β [] ds) : ds = [] := by
 cases ds with
 | nil => rfl
 | cons d ds => cases h
noncomputable def pathI (p : List Int) : D := .tup (p.map D.int)
inductive Cell where
 | lst (ds : List D)
 | pdct (kvs : List (List Int × D))
 | idct (kvs : List (Int × D))
 | ns (fs : List (Str × D))
 | exc (b : Bool)
 | dead
noncomputable abbrev KK (w : World) : Frag := KF w.params
noncomputable abbrev iK (w : World) : KeyKind PG w Int := intKind PG w
noncomputable abbrev tK (w : World) : HeapKind PG w (List Int) := tupleKind (intKind PG w)
noncomputable def NsRep (G : Gm) (β : List Addr) (P : Params) : List DictEntry -> List (Str × D) -> Prop
 | [], [] => True
 | e :: es, f :: fs => ((∃ t, e.key = .str f.1 t) /\ e.hash = PyData.keyHash P f.1 /\ Rep G β e.val f.2) /\ NsRep G β P es fs
 | _, _ => False
noncomputable def PdRep (G : Gm) (β : List Addr) : List (List Int × Addr × Value) -> List (List Int × D) -> Prop
 | [], [] => True
 | x :: xs, k :: ks => (x.1 = k.1 /\ Rep G β (.ref x.2.1) (pathI x.1) /\ Rep G β x.2.2 k.2) /\ PdRep G β xs ks
 | _, _ => False
noncomputable def IdRep (G : Gm) (β : List Addr) : List (Int × Value) -> List (Int × D) -> Prop
 | [], [] => True
 | x :: xs, k :: ks => (x.1 = k.1 /\ Rep G β x.2 k.2) /\ IdRep G β xs ks
 | _, _ => False
section
variable {G G' : Gm} {β β' : List Addr} (hg : ∀ (a : Addr) (o : Obj), G a = some o -> G' a = some o) (hb : ∀ (i : Nat) (a : Addr), β[i]? = some a -> β'[i]? = some a)
include hg hb
theorem NsRep.mono {P : Params} : ∀ {es : List DictEntry} {fs : List (Str × D)}, NsRep G β P es fs -> NsRep G' β' P es fs
 | [], [], _ => trivial
 | _ :: _, _ :: _, h => ⟨⟨h.1.1, h.1.2.1, h.1.2.2.mono hg hb⟩, NsRep.mono h.2⟩
theorem PdRep.mono : ∀ {es : List (List Int × Addr × Value)} {fs : List (List Int × D)}, PdRep G β es fs -> PdRep G' β' es fs
 | [], [], _ => trivial
 | _ :: _, _ :: _, h => ⟨⟨h.1.1, h.1.2.1.mono hg hb, h.1.2.2.mono hg hb⟩, PdRep.mono h.2⟩
theorem IdRep.mono : ∀ {es : List (Int × Value)} {fs : List (Int × D)}, IdRep G β es fs -> IdRep G' β' es fs
 | [], [], _ => trivial
 | _ :: _, _ :: _, h => ⟨⟨h.1.1, h.1.2.mono hg hb⟩, IdRep.mono h.2⟩
end
noncomputable def CellAt (w : World) (G : Gm) (β : List Addr) (h : Heap) (a : Addr) : Cell -> Prop
 | .lst ds => ∃ vs n, h.get? a = some (listOf (List.toArray vs) n) /\ RepAll G β vs ds
 | .pdct kvs => ∃ xs, h.DictOfH (tK w) a xs /\ PdRep G β xs kvs
 | .idct kvs => ∃ vk, h.DictOf (iK w) a vk /\ IdRep G β vk kvs
 | .ns fs => ∃ es n, h.get? a = some (dictOf es n) /\ NsRep G β w.params es fs
 | .exc b => ∃ oe vs, h.get? a = some oe /\ oe.cls = .ref 56 /\ oe.data = .fields vs /\ vs.size = 6 /\ vs[1]? = some .none /\ (∃ a0, vs[0]? = some a0) /\ (b = false -> oe.dict = none)
 | .dead => True
theorem items_of_rep {w : World} {G : Gm} {β : List Addr} : ∀ {l : List Int} {vs : List Value}, RepAll G β vs (l.map D.int) -> ItemsAre (iK w) l vs
 | [], _, h => by cases h; exact .nil
 | _ :: _, _, h => by
  cases h with | cons p r =>
  cases p
  exact .cons (by simp [iK, intKind, Value.isInt]) (items_of_rep r)
theorem CellAt.mono {w : World} {G G' : Gm} {β β' : List Addr} {h h' : Heap} {a : Addr} {c : Cell} (hg : ∀ (a : Addr) (o : Obj), G a = some o -> G' a = some o) (hb : ∀ (i : Nat) (a : Addr), β[i]? = some a -> β'[i]? = some a)
  (hG : ∀ b o, G' b = some o -> h'.get? b = some o) (ha : ∀ o, h.get? a = some o -> h'.get? a = some o) (x : CellAt w G β h a c) : CellAt w G' β' h' a c := by
 cases c with
 | lst ds => obtain ⟨vs, n, e, r⟩ := x; exact ⟨vs, n, ha _ e, r.mono hg hb⟩
 | pdct kvs =>
  obtain ⟨xs, ⟨o, es, ep, e, e1, e2, e3, e4, e5⟩, r⟩ := x
  have r' := r.mono hg hb
  refine ⟨xs, ⟨o, es, ep, ha _ e, e1, e2, e3, ?_, e5⟩, r'⟩
  clear e3 e5 r
  have aux : ∀ {xs : List (List Int × Addr × Value)} {kvs : List (List Int × D)}, PdRep G' β' xs kvs -> (∀ x ∈ xs, (tK w).is h x.1 x.2.1) -> ∀ x ∈ xs, (tK w).is h' x.1 x.2.1 := by
   intro xs
   induction xs with
   | nil => intro kvs _ _ x hx; cases hx
   | cons y ys ih =>
    intro kvs r hall x hx
    cases kvs with
    | nil => exact r.elim
    | cons k ks =>
     cases hx with
     | head =>
      refine x3_4 (hall y (.head _)) fun o items n ho hc hd hi => ?_
      have r2 := r.1.2.1
      cases r2 with
      | @tup _ o' vs' n' g1 g2 g3 g4 =>
       refine ⟨o', vs'.toArray, n', hG _ _ g1, g2, g3, ?_⟩
       exact items_of_rep g4
     | tail _ hx => exact ih r.2 (fun z hz => hall z (.tail _ hz)) x hx
  exact aux r' e4
 | idct kvs => obtain ⟨vk, ⟨o, es, ep, e, e1⟩, r⟩ := x; exact ⟨vk, ⟨o, es, ep, ha _ e, e1⟩, r.mono hg hb⟩
 | ns fs => obtain ⟨es, n, e, r⟩ := x; exact ⟨es, n, ha _ e, r.mono hg hb⟩
 | exc b => obtain ⟨oe, vs, e, r⟩ := x; exact ⟨oe, vs, ha _ e, r⟩
 | dead => trivial
structure St where
 G : Gm
 β : List Addr
 s : Shared
noncomputable abbrev St.h (c : St) : Heap := c.s.heap
noncomputable abbrev St.sz (c : St) : Nat := c.s.heap.objs.size
noncomputable def IsDict (o : Obj) : Prop := ∃ es ep, o.data = .dict es ep
noncomputable def Kept (o o' : Obj) : Prop := o' = o \/ (IsDict o /\ ∃ sl, o' = { o with slots := sl })
theorem Kept.refl (o : Obj) : Kept o o := .inl rfl
theorem Kept.trans {a b c : Obj} (x : Kept a b) (y : Kept b c) : Kept a c := by
 rcases x with rfl | ⟨e, sl, rfl⟩
 ·exact y
 ·rcases y with rfl | ⟨_, sl', rfl⟩
  ·exact .inr ⟨e, sl, rfl⟩
  ·exact .inr ⟨e, sl', rfl⟩
theorem Kept.data {a b : Obj} (x : Kept a b) : b.data = a.data := by rcases x with rfl | ⟨_, _, rfl⟩ <;> rfl
structure Le (M : List Addr) (c c' : St) : Prop where
 g : ∀ b o, c.G b = some o -> c'.G b = some o
 gn : ∀ b, c.G b = none -> b < c.sz -> b ∉ c.β -> c'.G b = none
 b : ∃ t, c'.β = c.β ++ t /\ ∀ a ∈ t, c.sz <= a
 keep : ∀ b o, c.h.get? b = some o -> b ∉ c.β -> b ∉ M -> ∃ o', c'.h.get? b = some o' /\ Kept o o'
 size : c.sz <= c'.sz
 rest : c'.s = { c.s with heap := c'.s.heap, toks := c'.s.toks }
theorem Le.refl (M : List Addr) (c : St) : Le M c c :=
 ⟨fun Z Z h => h, fun Z h Z Z => h, ⟨[], by simp, fun Z h => nomatch h⟩, fun Z o h Z Z => ⟨o, h, .refl o⟩, Nat.le_refl _, rfl⟩
theorem Le.notin {M : List Addr} {c c' : St} (x : Le M c c') {b : Addr} (h : b < c.sz) (hn : b ∉ c.β) : b ∉ c'.β := by
 refine x1_2 x.b fun t e ht => ?_
 rw [e]
 intro hm
 rcases List.mem_append.mp hm with hm | hm
 ·exact hn hm
 ·exact absurd (ht _ hm) (Nat.not_le.mpr h)
theorem Le.trans {M : List Addr} {c c' c'' : St} (x : Le M c c') (y : Le M c' c'') : Le M c c'' := by
 refine ⟨fun b o h => y.g b o (x.g b o h), fun b h1 h2 h3 => y.gn b (x.gn b h1 h2 h3) (Nat.lt_of_lt_of_le h2 x.size) (x.notin h2 h3), ?_, fun b o h1 h2 h3 => ?_, Nat.le_trans x.size y.size, ?_⟩
 ·refine x1_2 x.b fun t e ht => ?_
  refine x1_2 y.b fun t' e' ht' => ?_
  refine ⟨t ++ t', by rw [e', e, List.append_assoc], fun a ha => ?_⟩
  rcases List.mem_append.mp ha with ha | ha
  ·exact ht a ha
  ·exact Nat.le_trans x.size (ht' a ha)
 ·refine x1_2 (x.keep b o h1 h2 h3) fun o' e1 k1 => ?_
  obtain ⟨o'', e2, k2⟩ := y.keep b o' e1 (x.notin (Heap.lt_size h1) h2) h3
  exact ⟨o'', e2, k1.trans k2⟩
 ·rw [y.rest, x.rest]
theorem Le.weaken {M M' : List Addr} {c c' : St} (x : Le M c c') (h : ∀ a ∈ M, a ∈ M') : Le M' c c' :=
 ⟨x.g, x.gn, x.b, fun b o h1 h2 h3 => x.keep b o h1 h2 fun q => h3 (h b q), x.size, x.rest⟩
theorem Le.weaken_new {M M' : List Addr} {c c' : St} (x : Le M c c') (h : ∀ a ∈ M, a ∈ M' \/ c.sz <= a) : Le M' c c' :=
 ⟨x.g, x.gn, x.b, fun b o h1 h2 h3 => x.keep b o h1 h2 fun q => (h b q).elim h3 fun k => absurd (Heap.lt_size h1) (Nat.not_lt.mpr k), x.size, x.rest⟩
theorem Le.bget {M : List Addr} {c c' : St} (x : Le M c c') {i : Nat} {a : Addr} (h : c.β[i]? = some a) : c'.β[i]? = some a := by
 refine x1_2 x.b fun t e Z => ?_
 rw [e]
 refine x1_1 (List.getElem?_eq_some_iff.mp h) fun hi Q => ?_; subst Q
 rw [List.getElem?_append_left hi]
 exact h
theorem Le.rep {M : List Addr} {c c' : St} (x : Le M c c') {v : Value} {d : D} (r : Rep c.G c.β v d) : Rep c'.G c'.β v d := r.mono x.g fun Z Z h => x.bget h
theorem Le.repAll {M : List Addr} {c c' : St} (x : Le M c c') {v : List Value} {d : List D} (r : RepAll c.G c.β v d) : RepAll c'.G c'.β v d := r.mono x.g fun Z Z h => x.bget h
structure Bs where
 w : World
 hb : Heap
 mg : Str -> Option Value
 mb : Str -> Option Value
 X : (KK w).In hb
 g : hb.Ns mainGlobals mg
 b : hb.Ns builtinsNs mb
 nolimit : hb.NoLimit
 builtins : ∀ x : Str, x ≠ "__name__" -> mb x = bootBuiltins x
noncomputable abbrev Sto := List Cell
structure Sim (B : Bs) (σ : Sto) (c : St) : Prop where
 base : ∀ b o, B.hb.get? b = some o -> c.G b = some o
 sub : ∀ b o, c.G b = some o -> c.h.get? b = some o
 len : c.β.length = σ.length
 nodup : c.β.Nodup
 mods : ∀ a ∈ c.β, sysModules < a
 low : ∀ a ∈ c.β, a < c.sz
 off : ∀ (i : Nat) (a : Addr) (x : Cell), c.β[i]? = some a -> σ[i]? = some x -> (∀ (_ : x = Cell.dead), False) -> c.G a = none
 cells : ∀ (i : Nat) (a : Addr) (x : Cell), c.β[i]? = some a -> σ[i]? = some x -> CellAt B.w c.G c.β c.h a x
theorem Sim.top {B : Bs} {σ : Sto} {c : St} (x : Sim B σ c) : ∀ b o, B.hb.get? b = some o -> c.h.get? b = some o := fun b o h => x.sub b o (x.base b o h)
theorem Sim.K {B : Bs} {σ : Sto} {c : St} (x : Sim B σ c) : (KK B.w).In c.h := B.X.keeps x.top
theorem Sim.lim {B : Bs} {σ : Sto} {c : St} (x : Sim B σ c) : c.h.NoLimit := B.nolimit.keeps x.top
structure Ok (B : Bs) (A : Around) (n : Nat) (σ : Sto) (c : St) : Prop where
 hnd : A.handled = none
 dep : A.depth + n <= 990
 uni : A.units + 10 * n <= 9800
 stk : ∃ outer, A.frames = some outer /\ c.h.FunFrames B.hb outer /\ ∀ b ∈ outer.filterMap (·.frame), b ∉ c.β /\ c.G b = none /\ ∃ o, c.h.get? b = some o /\ IsDict o
 sim : Sim B σ c
theorem Ok.mono {B : Bs} {A : Around} {n : Nat} {σ σ' : Sto} {c c' : St} {M : List Addr} (x : Ok B A n σ c) (l : Le M c c') (hM : ∀ env outer, A.frames = some outer -> env ∈ outer -> ∀ b, env.frame = some b -> b ∈ M -> ∃ o', c'.h.get? b = some o' /\ IsDict o') (s : Sim B σ' c') : Ok B A n σ' c' := by
 refine x1_3 x.stk fun outer h1 h2 h3 => ?_
 refine ⟨x.hnd, x.dep, x.uni, ⟨outer, h1, ?_, fun b hb => ?_⟩, s⟩
 ·have h4 : ∀ env ∈ outer, ∀ b, env.frame = some b -> b ∈ M -> ∃ o', c'.h.get? b = some o' /\ IsDict o' := fun env he b hb hm => hM env outer h1 he b hb hm
  clear h1 hM
  induction outer with
  | nil => trivial
  | cons env rest ih =>
   obtain ⟨hk, ⟨L, o, hf, hn, ho, hd⟩, hr⟩ := h2
   refine ⟨hk, ⟨L, ?_⟩, ih hr (fun b hb => h3 b (by rw [List.filterMap_cons, hf]; exact .tail _ hb)) fun e he => h4 e (.tail _ he)⟩
   by_cases hm : L ∈ M
   ·refine x1_2 (h4 env (.head _) L hf hm) fun o' e1 e2 => ?_
    refine x2_1 e2 fun es ep e2 => ?_
    exact ⟨o', hf, hn, e1, fun vs e => by rw [e2] at e; cases e⟩
   ·refine x1_2 (l.keep L o ho (h3 L (by rw [List.filterMap_cons, hf]; exact .head _)).1 hm) fun o' e1 k => ?_
    exact ⟨o', hf, hn, e1, fun vs => by rw [k.data]; exact hd vs⟩
 ·obtain ⟨q1, q2, o, ho, es, ep, hd⟩ := h3 b hb
  refine ⟨l.notin (Heap.lt_size ho) q1, l.gn b q2 (Heap.lt_size ho) q1, ?_⟩
  by_cases hm : b ∈ M
  ·refine x1_2 (List.mem_filterMap.mp hb) fun env he hf => ?_
   exact hM env outer h1 he b hf hm
  ·refine x1_2 (l.keep b o ho q1 hm) fun o' e1 k => ?_
   exact ⟨o', e1, es, ep, k.data.trans hd⟩
theorem Ok.step {B : Bs} {A : Around} {n : Nat} {σ σ' : Sto} {c c' : St} (x : Ok B A n σ c) (l : Le [] c c') (s : Sim B σ' c') : Ok B A n σ' c' := x.mono l (fun Z Z Z Z Z Z h => nomatch h) s
theorem Ok.le {B : Bs} {A : Around} {n m : Nat} {σ : Sto} {c : St} (x : Ok B A n σ c) (h : m <= n) : Ok B A m σ c :=
 ⟨x.hnd, by have := x.dep; lia, by have := x.uni; lia, x.stk, x.sim⟩
end
section
section
variable {α : Type} {M : Model} {A : Around} {E : Value -> Shared -> Prop} {s : Shared} {c : Prop} [Decidable c] {a b : Sem α} {Q : α -> Shared -> Prop}
theorem wp_pos (h : c) (k : wpAny M A a Q E s) : wpAny M A (if c then a else b) Q E s := by rw [if_pos h]; exact k
theorem wp_neg (h : ¬ c) (k : wpAny M A b Q E s) : wpAny M A (if c then a else b) Q E s := by rw [if_neg h]; exact k
end
noncomputable def St.tk (c : St) (t : Nat) : St := ⟨c.G, c.β, { c.s with toks := t }⟩
noncomputable def St.put (c : St) (o : Obj) : St := ⟨fun b => if b = c.sz then some o else c.G b, c.β, { c.s with heap := c.s.heap.push o }⟩
noncomputable def St.own (c : St) (o : Obj) : St := ⟨c.G, c.β ++ [c.sz], { c.s with heap := c.s.heap.push o }⟩
section
variable {B : Bs} {σ : Sto} {c : St}
theorem Le.tk (M : List Addr) (c : St) (t : Nat) : Le M c (c.tk t) :=
 ⟨fun Z Z h => h, fun Z h Z Z => h, ⟨[], by simp [St.tk], fun Z h => nomatch h⟩, fun Z o h Z Z => ⟨o, h, .refl o⟩, Nat.le_refl _, rfl⟩
theorem Sim.tk (x : Sim B σ c) (t : Nat) : Sim B σ (c.tk t) := ⟨x.base, x.sub, x.len, x.nodup, x.mods, x.low, x.off, x.cells⟩
theorem Sim.gnone (x : Sim B σ c) {b : Addr} (h : c.sz <= b) : c.G b = none := by
 cases q : c.G b with
 | none => rfl
 | some o => exact absurd (Heap.lt_size (x.sub _ _ q)) (Nat.not_lt.mpr h)
theorem Le.put (M : List Addr) (x : Sim B σ c) (o : Obj) : Le M c (c.put o) := by
 refine ⟨fun b o' h => ?_, fun b h hl Z => ?_, ⟨[], by simp [St.put], fun Z h => nomatch h⟩, fun Z o' h Z Z => ⟨o', Heap.get?_push_of_some _ h, .refl o'⟩, by show _ <= (c.s.heap.push o).objs.size; rw [Heap.size_push]; exact Nat.le_succ _, rfl⟩
 ·show (if b = c.sz then some o else c.G b) = some o'
  rw [if_neg, h]
  intro e; rw [e, x.gnone (Nat.le_refl _)] at h; cases h
 ·show (if b = c.sz then some o else c.G b) = none
  rw [if_neg (Nat.ne_of_lt hl), h]
theorem Sim.put (x : Sim B σ c) (o : Obj) (hf : o.isFreed = false := by rfl) : Sim B σ (c.put o) := by
 have l := Le.put [] x o
 have hs : ∀ b o', (c.put o).G b = some o' -> (c.put o).h.get? b = some o' := fun b o' h => by
  change (if b = c.sz then some o else c.G b) = some o' at h
  split at h
  ·rename_i e; cases h; rw [e]; exact Heap.get?_push_size _ hf
  ·exact Heap.get?_push_of_some _ (x.sub _ _ h)
 refine ⟨fun b o' h => l.g b o' (x.base b o' h), hs, x.len, x.nodup, x.mods, fun a ha => Nat.lt_of_lt_of_le (x.low a ha) l.size, fun i a y h1 h2 h3 => ?_, fun i a y h1 h2 => (x.cells i a y h1 h2).mono l.g (fun Z Z h => h) hs fun o h => Heap.get?_push_of_some _ h⟩
 show (if a = c.sz then some o else c.G a) = none
 rw [if_neg (Nat.ne_of_lt (x.low a (List.mem_of_getElem? h1))), x.off i a y h1 h2 h3]
theorem Le.own (M : List Addr) (c : St) (o : Obj) : Le M c (c.own o) :=
 ⟨fun Z Z h => h, fun Z h Z Z => h, ⟨[c.sz], rfl, fun a h => by rw [List.mem_singleton.mp h]; exact Nat.le_refl _⟩, fun Z o' h Z Z => ⟨o', Heap.get?_push_of_some _ h, .refl o'⟩, by show _ <= (c.s.heap.push o).objs.size; rw [Heap.size_push]; exact Nat.le_succ _, rfl⟩
theorem own_ext {h' : Heap} {t : Nat} (x : Sim B σ c) (hk : ∀ b o, c.h.get? b = some o -> h'.get? b = some o) (hz : c.sz < h'.objs.size) {y : Cell} (hy : CellAt B.w c.G (c.β ++ [c.sz]) h' c.sz y) : Sim B (σ ++ [y]) ⟨c.G, c.β ++ [c.sz], { c.s with heap := h', toks := t }⟩ := by
 have hl := x.len
 have lb : ∀ (i : Nat) (a : Addr), c.β[i]? = some a -> (c.β ++ [c.sz])[i]? = some a := fun i a h => by
  rw [List.getElem?_append_left (List.getElem?_eq_some_iff.mp h).1]; exact h
 have get : ∀ {i : Nat} {a : Addr} {z : Cell}, (c.β ++ [c.sz])[i]? = some a -> (σ ++ [y])[i]? = some z -> (c.β[i]? = some a /\ σ[i]? = some z) \/ (a = c.sz /\ z = y) := fun {i a z} h1 h2 => by
  rcases Nat.lt_trichotomy i c.β.length with h | h | h
  ·rw [List.getElem?_append_left h] at h1
   rw [List.getElem?_append_left (hl ▸ h)] at h2
   exact .inl ⟨h1, h2⟩
  ·subst h
   rw [List.getElem?_append_right (Nat.le_refl _)] at h1
   rw [hl, List.getElem?_append_right (Nat.le_refl _)] at h2
   simp at h1 h2
   exact .inr ⟨h1.symm, h2.symm⟩
  ·rw [List.getElem?_eq_none (by simp; lia)] at h1; cases h1
 refine ⟨x.base, fun b o' h => hk _ _ (x.sub b o' h), by show (c.β ++ [c.sz]).length = _; simp [hl], ?_, fun a ha => (List.mem_append.mp ha).elim (x.mods a) fun h => by rw [List.mem_singleton.mp h]; exact PyProof.Rows.modules_low x.lim, fun a ha => ?_, fun i a z h1 h2 h3 => ?_, fun i a z h1 h2 => ?_⟩
 ·show (c.β ++ [c.sz]).Nodup
  rw [List.nodup_append]
  exact ⟨x.nodup, by simp, fun a ha b hb e => by rw [List.mem_singleton.mp hb] at e; exact absurd (e ▸ x.low a ha) (Nat.lt_irrefl _)⟩
 ·rcases List.mem_append.mp ha with ha | ha
  ·exact Nat.lt_trans (x.low a ha) hz
  ·rw [List.mem_singleton.mp ha]; exact hz
 ·rcases get h1 h2 with ⟨h1, h2⟩ | ⟨rfl, _⟩
  ·exact x.off i a z h1 h2 h3
  ·exact x.gnone (Nat.le_refl _)
 ·rcases get h1 h2 with ⟨h1', h2'⟩ | ⟨rfl, rfl⟩
  ·exact (x.cells i a z h1' h2').mono (fun Z Z h => h) lb (fun b o' h => hk _ _ (x.sub b o' h)) fun o h => hk _ _ h
  ·exact hy
theorem Sim.own (x : Sim B σ c) (o : Obj) (y : Cell) (hy : CellAt B.w c.G (c.β ++ [c.sz]) (c.s.heap.push o) c.sz y) : Sim B (σ ++ [y]) (c.own o) :=
 own_ext (t := c.s.toks) x (fun Z Z h => Heap.get?_push_of_some _ h) (by rw [Heap.size_push]; exact Nat.lt_succ_self _) hy
end
mutual
noncomputable def D.low (k : Nat) : D -> Bool
 | .tup ds => D.lowL k ds
 | .lst ds => D.lowL k ds
 | .obj i => decide (i < k)
 | .inst _ i => decide (i < k)
 | .none | .bool _ | .int _ | .str _ | .bytes _ | .raw _ => true
noncomputable def D.lowL (k : Nat) : List D -> Bool
 | [] => true
 | d :: ds => D.low k d && D.lowL k ds
end
theorem lowE {k : Nat} : D.low k .none = true /\ (∀ i, D.low k (.int i) = true) /\ (∀ b, D.low k (.bytes b) = true) /\ (∀ x, D.low k (.str x) = true) /\ (∀ b, D.low k (.bool b) = true) /\ (∀ v, D.low k (.raw v) = true) /\ (∀ ds, D.low k (.tup ds) = D.lowL k ds) /\ (∀ ds, D.low k (.lst ds) = D.lowL k ds) /\ (∀ i, D.low k (.obj i) = decide (i < k)) /\ (∀ C i, D.low k (.inst C i) = decide (i < k)) /\ D.lowL k [] = true /\ ∀ d ds, D.lowL k (d :: ds) = (D.low k d && D.lowL k ds) :=
 ⟨rfl, fun Z => rfl, fun Z => rfl, fun Z => rfl, fun Z => rfl, fun Z => rfl, fun Z => rfl, fun Z => rfl, fun Z => rfl, fun Z Z => rfl, rfl, fun Z Z => rfl⟩
theorem D.lowL_iff {k : Nat} : ∀ {ds : List D}, D.lowL k ds = true ↔ ∀ d ∈ ds, D.low k d = true
 | [] => by simp [lowE]
 | d :: ds => by simp [lowE, D.lowL_iff (ds := ds)]
mutual
theorem Rep.low {G : Gm} {β : List Addr} : ∀ {v : Value} {d : D}, Rep G β v d -> d.low β.length = true
 | _, .none, _ | _, .bool _, _ | _, .int _, _ | _, .str _, _ | _, .bytes _, _ | _, .raw _, _ => rfl
 | _, .tup ds, h => by cases h with | tup _ _ _ r => exact RepAll.low r
 | _, .lst ds, h => by cases h with | lst _ _ _ r => exact RepAll.low r
 | _, .obj _, h => by cases h with | obj h => exact decide_eq_true (List.getElem?_eq_some_iff.mp h).1
 | _, .inst _ _, h => by cases h with | inst _ h => exact decide_eq_true (List.getElem?_eq_some_iff.mp h).1
theorem RepAll.low {G : Gm} {β : List Addr} : ∀ {vs : List Value} {ds : List D}, RepAll G β vs ds -> D.lowL β.length ds = true
 | _, [], _ => rfl
 | _, d :: ds, h => by cases h with | cons h r => exact Bool.and_eq_true_iff.mpr ⟨Rep.low h, RepAll.low r⟩
end
mutual
theorem Rep.cut {G : Gm} {β : List Addr} {k : Nat} : ∀ {v : Value} {d : D}, Rep G β v d -> d.low k = true -> Rep G (β.take k) v d
 | _, .none, h, _ => by cases h; exact .none
 | _, .bool b, h, _ => by cases h; exact .bool b
 | _, .int i, h, _ => by cases h; exact .int i _
 | _, .str x, h, _ => by cases h; exact .str x _
 | _, .bytes b, h, _ => by cases h; exact .bytes b _
 | _, .raw _, h, _ => by cases h; exact .raw _
 | _, .tup ds, h, l => by cases h with | tup h c e r => exact .tup h c e (RepAll.cut r l)
 | _, .lst ds, h, l => by cases h with | lst h c e r => exact .lst h c e (RepAll.cut r l)
 | _, .obj i, h, l => by cases h with | obj h => exact .obj ((List.getElem?_take_of_lt (of_decide_eq_true l)).trans h)
 | _, .inst C i, h, l => by cases h with | inst g h => exact .inst g ((List.getElem?_take_of_lt (of_decide_eq_true l)).trans h)
theorem RepAll.cut {G : Gm} {β : List Addr} {k : Nat} : ∀ {vs : List Value} {ds : List D}, RepAll G β vs ds -> D.lowL k ds = true -> RepAll G (β.take k) vs ds
 | _, [], h, _ => by cases h; exact .nil
 | _, d :: ds, h, l => by
  have l := Bool.and_eq_true_iff.mp l
  cases h with | cons h r => exact .cons (Rep.cut h l.1) (RepAll.cut r l.2)
end
noncomputable def Cell.low (k : Nat) : Cell -> Bool
 | .lst ds => D.lowL k ds
 | .pdct kvs => kvs.all fun x => x.2.low k
 | .idct kvs => kvs.all fun x => x.2.low k
 | .ns fs => fs.all fun x => x.2.low k
 | .exc _ => true
 | .dead => true
noncomputable def Sto.low (k : Nat) (σ : Sto) : Prop := ∀ y ∈ σ, y.low k = true
theorem low_pathI (k : Nat) (p : List Int) : (pathI p).low k = true := by
 unfold pathI
 refine D.lowL_iff.mpr fun d hd => ?_
 refine x1_2 (List.mem_map.mp hd) fun i Z Q => ?_; subst Q
 rfl
section
variable {w : World} {G : Gm} {β : List Addr} {h : Heap} {a : Addr} {k : Nat}
theorem PdRep.low : ∀ {xs : List (List Int × Addr × Value)} {ks : List (List Int × D)}, PdRep G β xs ks -> ks.all (fun x => x.2.low β.length) = true
 | [], [], _ => rfl
 | _ :: _, _ :: _, r => by rw [List.all_cons, r.1.2.2.low, PdRep.low r.2]; rfl
theorem PdRep.cut : ∀ {xs : List (List Int × Addr × Value)} {ks : List (List Int × D)}, PdRep G β xs ks -> ks.all (fun x => x.2.low k) = true -> PdRep G (β.take k) xs ks
 | [], [], _, _ => trivial
 | _ :: _, _ :: _, r, l => by
  rw [List.all_cons, Bool.and_eq_true] at l
  exact ⟨⟨r.1.1, r.1.2.1.cut (low_pathI _ _), r.1.2.2.cut l.1⟩, PdRep.cut r.2 l.2⟩
theorem IdRep.low : ∀ {xs : List (Int × Value)} {ks : List (Int × D)}, IdRep G β xs ks -> ks.all (fun x => x.2.low β.length) = true
 | [], [], _ => rfl
 | _ :: _, _ :: _, r => by rw [List.all_cons, r.1.2.low, IdRep.low r.2]; rfl
theorem IdRep.cut : ∀ {xs : List (Int × Value)} {ks : List (Int × D)}, IdRep G β xs ks -> ks.all (fun x => x.2.low k) = true -> IdRep G (β.take k) xs ks
 | [], [], _, _ => trivial
 | _ :: _, _ :: _, r, l => by
  rw [List.all_cons, Bool.and_eq_true] at l
  exact ⟨⟨r.1.1, r.1.2.cut l.1⟩, IdRep.cut r.2 l.2⟩
theorem NsRep.low {P : Params} : ∀ {xs : List DictEntry} {ks : List (Str × D)}, NsRep G β P xs ks -> ks.all (fun x => x.2.low β.length) = true
 | [], [], _ => rfl
 | _ :: _, _ :: _, r => by rw [List.all_cons, r.1.2.2.low, NsRep.low r.2]; rfl
theorem NsRep.cut {P : Params} : ∀ {xs : List DictEntry} {ks : List (Str × D)}, NsRep G β P xs ks -> ks.all (fun x => x.2.low k) = true -> NsRep G (β.take k) P xs ks
 | [], [], _, _ => trivial
 | _ :: _, _ :: _, r, l => by
  rw [List.all_cons, Bool.and_eq_true] at l
  exact ⟨⟨r.1.1, r.1.2.1, r.1.2.2.cut l.1⟩, NsRep.cut r.2 l.2⟩
theorem CellAt.low {y : Cell} (x : CellAt w G β h a y) : y.low β.length = true := by
 cases y with
 | lst ds => obtain ⟨_, _, _, r⟩ := x; exact r.low
 | pdct kvs => obtain ⟨_, _, r⟩ := x; exact r.low
 | idct kvs => obtain ⟨_, _, r⟩ := x; exact r.low
 | ns kvs => obtain ⟨_, _, _, r⟩ := x; exact r.low
 | exc b => rfl
 | dead => rfl
theorem CellAt.cut {y : Cell} (x : CellAt w G β h a y) (l : y.low k = true) : CellAt w G (β.take k) h a y := by
 cases y with
 | lst ds => obtain ⟨p, q, e, r⟩ := x; exact ⟨p, q, e, r.cut l⟩
 | pdct kvs => obtain ⟨p, q, r⟩ := x; exact ⟨p, q, r.cut l⟩
 | idct kvs => obtain ⟨p, q, r⟩ := x; exact ⟨p, q, r.cut l⟩
 | ns kvs => obtain ⟨p, n, q, r⟩ := x; exact ⟨p, n, q, r.cut l⟩
 | exc b => exact x
 | dead => trivial
end
section
variable {B : Bs} {σ : Sto} {c : St}
theorem Sim.low_at (x : Sim B σ c) : Sto.low σ.length σ := by
 intro y hy
 refine x1_1 (List.mem_iff_getElem?.mp hy) fun i hi => ?_
 have hl := (List.getElem?_eq_some_iff.mp hi).1
 have := (x.cells i _ y (List.getElem?_eq_getElem (by rw [x.len]; exact hl)) hi).low
 rwa [x.len] at this
theorem Sim.drop {σ' : Sto} (x : Sim B (σ ++ σ') c) (l : Sto.low σ.length σ) : Sim B σ ⟨c.G, c.β.take σ.length, c.s⟩ := by
 have hl : σ.length <= c.β.length := by rw [x.len, List.length_append]; lia
 have get : ∀ {i : Nat} {a : Addr} {z : Cell}, (c.β.take σ.length)[i]? = some a -> σ[i]? = some z -> c.β[i]? = some a /\ (σ ++ σ')[i]? = some z := fun {i a z} h1 h2 => by
  have hi := (List.getElem?_eq_some_iff.mp h2).1
  rw [List.getElem?_take_of_lt hi] at h1
  exact ⟨h1, by rw [List.getElem?_append_left hi]; exact h2⟩
 refine ⟨x.base, x.sub, by rw [List.length_take]; exact Nat.min_eq_left hl, x.nodup.sublist (List.take_sublist _ _), fun a ha => x.mods a (List.mem_of_mem_take ha), fun a ha => x.low a (List.mem_of_mem_take ha), fun i a y h1 h2 h3 => x.off i a y (get h1 h2).1 (get h1 h2).2 h3, fun i a y h1 h2 => (x.cells i a y (get h1 h2).1 (get h1 h2).2).cut (l y (List.mem_of_getElem? h2))⟩
theorem Le.cut {M : List Addr} {c c' : St} {k : Nat} (x : Le M c c') (h : c.β.length <= k) : Le M c ⟨c'.G, c'.β.take k, c'.s⟩ := by
 refine ⟨x.g, x.gn, ?_, x.keep, x.size, x.rest⟩
 refine x1_2 x.b fun t e ht => ?_
 refine ⟨t.take (k - c.β.length), ?_, fun a ha => ht a (List.mem_of_mem_take ha)⟩
 show c'.β.take k = _
 rw [e, List.take_append, List.take_of_length_le h]
end
noncomputable abbrev Loc := List (Str × Option D)
inductive VarIx : Loc -> Str -> D -> Prop
 | head {x : Str} {d : D} {r : Loc} : VarIx ((x, some d) :: r) x d
 | tail {x : Str} {d : D} {r : Loc} {p : Str × Option D} : VarIx r x d -> VarIx (p :: r) x d
inductive VarUp : Loc -> Str -> D -> Loc -> Prop
 | head {x : Str} {d : D} {r : Loc} {o : Option D} : VarUp ((x, o) :: r) x d ((x, some d) :: r)
 | tail {x : Str} {d : D} {r r' : Loc} {p : Str × Option D} : VarUp r x d r' -> VarUp (p :: r) x d (p :: r')
theorem VarIx.mem {ρ : Loc} {x : Str} {d : D} (h : VarIx ρ x d) : (x, some d) ∈ ρ := by
 induction h with
 | head => exact .head _
 | tail _ ih => exact .tail _ ih
theorem VarUp.keys {ρ ρ' : Loc} {x : Str} {d : D} (h : VarUp ρ x d ρ') : ρ'.map (fun x => x.1) = ρ.map (fun x => x.1) := by
 induction h with
 | head => rfl
 | tail _ ih => rw [List.map_cons, List.map_cons, ih]
theorem VarUp.here {ρ ρ' : Loc} {x : Str} {d : D} (h : VarUp ρ x d ρ') : ∃ o, (x, o) ∈ ρ := by
 induction h with
 | head => exact ⟨_, .head _⟩
 | tail _ ih => obtain ⟨o, ho⟩ := ih; exact ⟨o, .tail _ ho⟩
set_option tactic.hygienic true in
theorem VarUp.old {ρ ρ' : Loc} {x y : Str} {d : D} {e : Option D} (h : VarUp ρ x d ρ') (hn : (ρ.map (fun x => x.1)).Nodup) (hm : (y, e) ∈ ρ') : (y = x /\ e = some d) \/ (y ≠ x /\ (y, e) ∈ ρ) := by
 induction h with
 | head =>
  rw [List.map_cons, List.nodup_cons] at hn
  cases hm with
  | head => exact .inl ⟨rfl, rfl⟩
  | tail _ hm => exact .inr ⟨fun e => hn.1 (e ▸ List.mem_map.mpr ⟨_, hm, rfl⟩), .tail _ hm⟩
 | tail hu ih =>
  rename_i r r' p
  rw [List.map_cons, List.nodup_cons] at hn
  cases hm with
  | head =>
   refine .inr ⟨fun e => hn.1 ?_, .head _⟩
   refine x1_1 hu.here fun o ho => ?_
   rw [e]
   exact List.mem_map.mpr ⟨_, ho, rfl⟩
  | tail _ hm => exact (ih hn.2 hm).imp id fun h => ⟨h.1, .tail _ h.2⟩
noncomputable def mutA (env : Env) : List Addr := env.locals :: env.cells.map (fun x => x.2)
inductive VarAt (env : Env) (c : St) (x : Str) (d : D) : Prop
 | loc {m : Str -> Option Value} {v : Value} : env.kindOf x = some .local -> c.h.Ns env.locals m -> m x = some v -> Rep c.G c.β v d -> VarAt env c x d
 | cel {a : Addr} {v : Value} : env.kindOf x = some .cell -> env.cells.lookup x = some a -> c.h.IsCell a (some v) -> Rep c.G c.β v d -> VarAt env c x d
 | free {a : Addr} {v : Value} : env.kindOf x = some .free -> (x == ("__classdict__" : Str)) = false -> env.cells.lookup x = some a -> c.h.IsCell a (some v) -> Rep c.G c.β v d -> VarAt env c x d
noncomputable abbrev Gl := List (Str × NameKind)
structure Frm (env : Env) (gl : Gl) (ρ : Loc) (c : St) : Prop where
 fn : env.scope.kind = .function
 glb : env.globals = mainGlobals
 blt : env.builtins = builtinsNs
 gls : env.scope.names = gl
 nd : (ρ.map (fun x => x.1)).Nodup
 dbg : ∀ p ∈ ρ, (p.1 == ("__debug__" : Str)) = false
 ns : ∃ m, c.h.Ns env.locals m
 vars : ∀ x d, (x, some d) ∈ ρ -> VarAt env c x d
 cel : ∀ x, env.kindOf x = some .cell -> ∃ a v, env.cells.lookup x = some a /\ c.h.IsCell a v
 apart : env.cells.Pairwise fun x y => x.2 ≠ y.2
 ncl : ∀ p ∈ env.cells, p.2 ≠ env.locals
 off : ∀ b ∈ mutA env, c.G b = none /\ b ∉ c.β /\ b < c.sz
theorem ns_kept {h h' : Heap} {L : Addr} {m : Str -> Option Value} (x : h.Ns L m) (k : ∀ o, h.get? L = some o -> ∃ o', h'.get? L = some o' /\ Kept o o') : h'.Ns L m := by
 refine x3_3 x fun o es ep ho hd r => ?_; clear x
 refine x1_2 (k o ho) fun o' ho' k' => ?_
 exact ⟨o', es, ep, ho', k'.data.trans hd, r⟩
theorem cell_kept {h h' : Heap} {a : Addr} {v : Option Value} (x : h.IsCell a v) (k : ∀ o, h.get? a = some o -> ∃ o', h'.get? a = some o' /\ Kept o o') : h'.IsCell a v := by
 refine x1_2 x fun o ho hd => ?_; clear x
 refine x1_2 (k o ho) fun o' ho' k' => ?_
 exact ⟨o', ho', k'.data.trans hd⟩
theorem mem_mut_cell {env : Env} {x : Str} {a : Addr} (h : env.cells.lookup x = some a) : a ∈ mutA env :=
 .tail _ (List.mem_map.mpr ⟨(x, a), mem_of_lookup h, rfl⟩)
theorem Frm.mono {env : Env} {gl : Gl} {ρ : Loc} {c c' : St} {M : List Addr} (x : Frm env gl ρ c) (l : Le M c c') (hM : ∀ b ∈ mutA env, b ∉ M) : Frm env gl ρ c' := by
 have kl : ∀ o, c.h.get? env.locals = some o -> ∃ o', c'.h.get? env.locals = some o' /\ Kept o o' := fun o h => l.keep _ o h (x.off _ (.head _)).2.1 (hM _ (.head _))
 have kc : ∀ {y : Str} {a : Addr}, env.cells.lookup y = some a -> ∀ o, c.h.get? a = some o -> ∃ o', c'.h.get? a = some o' /\ Kept o o' := fun {y a} h o ho => l.keep _ o ho (x.off _ (mem_mut_cell h)).2.1 (hM _ (mem_mut_cell h))
 refine ⟨x.fn, x.glb, x.blt, x.gls, x.nd, x.dbg, let ⟨m, hm⟩ := x.ns; ⟨m, ns_kept hm kl⟩, fun y d h => ?_, fun y h => ?_, x.apart, x.ncl, fun b hb => ?_⟩
 ·cases x.vars y d h with
  | loc h1 h2 h3 h4 => exact .loc h1 (ns_kept h2 kl) h3 (l.rep h4)
  | cel h1 h2 h3 h4 => exact .cel h1 h2 (cell_kept h3 (kc h2)) (l.rep h4)
  | free h1 h2 h3 h4 h5 => exact .free h1 h2 h3 (cell_kept h4 (kc h3)) (l.rep h5)
 ·refine x2_2 (x.cel y h) fun a v h1 h2 => ?_
  exact ⟨a, v, h1, cell_kept h2 (kc h1)⟩
 ·refine x0_3 (x.off b hb) fun h1 h2 h3 => ?_
  exact ⟨l.gn b h1 h3 h2, l.notin h3 h2, Nat.lt_of_lt_of_le h3 l.size⟩
theorem Frm.step {env : Env} {gl : Gl} {ρ : Loc} {c c' : St} (x : Frm env gl ρ c) (l : Le [] c c') : Frm env gl ρ c' := x.mono l fun Z Z h => nomatch h
end
section
noncomputable abbrev Want (α : Type) := α -> Shared -> Prop
noncomputable def Ev (e : Expr) (d : D) (B : Bs) (gl : Gl) (n : Nat) (ρ : Loc) (σ σ' : Sto) : Prop :=
 ∀ (A : Around) (env : Env) (c : St), Ok B A n σ c -> Frm env gl ρ c -> ∀ (E Q : Want Value), (∀ v c', Le [] c c' -> Sim B σ' c' -> Rep c'.G c'.β v d -> Q v c'.s) -> wpAny (model PG B.w) A (eval e env) Q E c.s
noncomputable def EvT (e : Expr) (b : Bool) (B : Bs) (gl : Gl) (n : Nat) (ρ : Loc) (σ σ' : Sto) : Prop :=
 ∀ (A : Around) (env : Env) (c : St), Ok B A n σ c -> Frm env gl ρ c -> ∀ (E : Want Value) (Q : Want Bool), (∀ c', Le [] c c' -> Sim B σ' c' -> Q b c'.s) -> wpAny (model PG B.w) A (isTrue e env (eval e env)) Q E c.s
noncomputable def Evs (es : List Expr) (ds : List D) (B : Bs) (gl : Gl) (n : Nat) (ρ : Loc) (σ σ' : Sto) : Prop :=
 ∀ (A : Around) (env : Env) (c : St) (pos : Pos), Ok B A n σ c -> Frm env gl ρ c -> ∀ (E : Want Value) (Q : Want (List Value)), (∀ vs c', Le [] c c' -> Sim B σ' c' -> RepAll c'.G c'.β vs ds -> Q vs c'.s) -> wpAny (model PG B.w) A (spliced (backTo pos (starEach es env))) Q E c.s
noncomputable def Bin (op : Operator) (a b d : D) (B : Bs) (n : Nat) (σ : Sto) : Prop :=
 ∀ (A : Around) (c : St) (u v : Value), Ok B A n σ c -> Rep c.G c.β u a -> Rep c.G c.β v b -> ∀ (E Q : Want Value), (∀ v c', Le [] c c' -> Sim B σ c' -> Rep c'.G c'.β v d -> Q v c'.s) -> wpAny (model PG B.w) A (binaryOp op u v) Q E c.s
noncomputable def Cmp (op : CmpOp) (a b : D) (r : Bool) (B : Bs) (n : Nat) (σ : Sto) : Prop :=
 ∀ (A : Around) (c : St) (u v : Value), Ok B A n σ c -> Rep c.G c.β u a -> Rep c.G c.β v b -> ∀ (E Q : Want Value), (∀ c', Le [] c c' -> Sim B σ c' -> Q (.bool r) c'.s) -> wpAny (model PG B.w) A (compareOp op u v) Q E c.s
noncomputable def Truth (a : D) (r : Bool) (B : Bs) (σ : Sto) : Prop :=
 ∀ (A : Around) (c : St) (u : Value) (n : Nat), Ok B A n σ c -> Rep c.G c.β u a -> ∀ (E : Want Value) (Q : Want Bool), (∀ c', Le [] c c' -> Sim B σ c' -> Q r c'.s) -> wpAny (model PG B.w) A (truthy u) Q E c.s
noncomputable def CallV (f : Value) (args : List D) (d : D) (B : Bs) (n : Nat) (σ σ' : Sto) : Prop :=
 ∀ (A : Around) (c : St) (vs : List Value), Ok B A n σ c -> RepAll c.G c.β vs args -> ∀ (E Q : Want Value), (∀ v c', Le [] c c' -> Sim B σ' c' -> Rep c'.G c'.β v d -> Q v c'.s) -> wpAny (model PG B.w) A (call f vs []) Q E c.s
noncomputable def Call (f : Addr) (args : List D) (d : D) (B : Bs) (n : Nat) (σ σ' : Sto) : Prop :=
 ∀ (A : Around) (c : St) (vs : List Value), Ok B A n σ c -> RepAll c.G c.β vs args -> ∀ (R : Result -> Shared -> Prop), (∀ v c', Le [] c c' -> Sim B σ' c' -> Rep c'.G c'.β v d -> R (.ok (.ret v)) c'.s) -> codeAny (model PG B.w) A (.call (.ref f) ⟨vs, []⟩) R c.s
inductive Fl where
 | next
 | ret (d : D)
structure Alone (A : Around) (env : Env) : Prop where
 alone : ∀ outer, A.frames = some outer -> (∀ e ∈ outer, ∀ b, e.frame = some b -> b ∈ mutA env -> b = env.locals)
 top : (∃ l, A.frames = some (env :: l)) /\ env.frame = some env.locals
noncomputable def Stores (env : Env) (ρ : Loc) : Prop := ∀ p ∈ ρ, env.kindOf p.1 = some .local \/ env.kindOf p.1 = some .cell
noncomputable def FlowRel (env : Env) (gl : Gl) (ρ : Loc) (c : St) (f : Flow) : Fl -> Prop
 | .next => f = .next /\ Frm env gl ρ c /\ Stores env ρ
 | .ret d => ∃ v, f = .ret v /\ Rep c.G c.β v d
noncomputable def Ex (ss : List Stmt) (fl : Fl) (B : Bs) (gl : Gl) (n : Nat) (ρ ρ' : Loc) (σ σ' : Sto) : Prop :=
 ∀ (A : Around) (env : Env) (c : St), Alone A env -> Stores env ρ -> Ok B A n σ c -> Frm env gl ρ c -> ∀ (E : Want Value) (Q : Want Flow), (∀ f c', Le (mutA env) c c' -> Sim B σ' c' -> FlowRel env gl ρ' c' f fl -> Q f c'.s) -> wpAny (model PG B.w) A (execs ss env) Q E c.s
section
variable {B : Bs} {gl : Gl} {n m : Nat} {ρ ρ' ρ'' : Loc} {σ σ' σ'' σ1 σ2 σ3 : Sto}
theorem Call.v {f : Addr} {args : List D} {d : D} (h : Call f args d B n σ σ') : CallV (.ref f) args d B n σ σ' :=
 fun A c vs ok r Z Z k => wpAny_call (h A c vs ok r _ fun v c' l s' rv => k v c' l s' rv)
theorem Ev.name {x : Str} {pos : Pos} {d : D} (h : VarIx ρ x d := by walk_at "v") : Ev (.Name x pos) d B gl n ρ σ σ := by
 intro A env c ok fr E Q k
 have hd := fr.dbg _ h.mem
 cases fr.vars x d h.mem with
 | loc h1 h2 h3 h4 => exact wpAny_Name (wpAny_loadName_local fr.fn h1 h2 h3 (k _ c (.refl _ _) ok.sim h4)) hd
 | cel h1 h2 h3 h4 => exact wpAny_Name (wpAny_loadName_cell fr.fn h1 h2 h3 (k _ c (.refl _ _) ok.sim h4)) hd
 | free h1 h2 h3 h4 h5 => exact wpAny_Name (wpAny_loadName_free fr.fn h1 h3 h4 (k _ c (.refl _ _) ok.sim h5) h2) hd
inductive Glb (w : World) (x : Str) (v : Value) : Prop
 | top : (x == ("__debug__" : Str)) = false -> nsIn (KK w) mainGlobals x = some (some v) -> Glb w x v
 | boot : (x == ("__debug__" : Str)) = false -> nsIn (KK w) mainGlobals x = some none -> bootBuiltins x = some v -> x ≠ "__name__" -> Glb w x v
theorem Ev.glob' {x : Str} {pos : Pos} {v : Value} {d : D} (g : Glb B.w x v) (hr : ∀ G : Gm, (∀ b o, B.hb.get? b = some o -> G b = some o) -> ∀ β, Rep G β v d) (hm : gl.lookup x = some .globalImplicit) : Ev (.Name x pos) d B gl n ρ σ σ := by
 intro A env c ok fr E Q k
 have hx : env.kindOf x = some .globalImplicit := by show env.scope.names.lookup x = _; rw [fr.gls]; exact hm
 have q := k v c (.refl _ _) ok.sim (hr _ ok.sim.base _)
 have top := ok.sim.top
 cases g with
 | top hd e => exact Name_function_global fr.fn hx (loadGlobal_global (by rw [fr.glb]; exact B.g.keeps top) (mg_of B.X B.g e) q) hd
 | boot hd e hv hn => exact Name_function_global fr.fn hx (loadGlobal_builtin (by rw [fr.glb]; exact B.g.keeps top) (mg_none_of B.X B.g e) (by rw [fr.blt]; exact B.b.keeps top) ((B.builtins x hn).trans hv) q) hd
theorem Ev.glob {x : Str} {pos : Pos} {v : Value} (g : Glb B.w x v) (hm : gl.lookup x = some .globalImplicit) : Ev (.Name x pos) (.raw v) B gl n ρ σ σ := Ev.glob' g (fun Z Z Z => .raw v) hm
theorem Ev.cint {i : Int} {k : Nat} {pos : Pos} : Ev (.Constant (.int i) k pos) (.int i) B gl n ρ σ σ :=
 fun Z Z c ok Z Z Z k => wpAny_Constant_int (k _ (c.tk _) (.tk _ _ _) (ok.sim.tk _) (.int _ _))
theorem Ev.cstr {x : Str} {k : Nat} {pos : Pos} : Ev (.Constant (.str x) k pos) (.str x) B gl n ρ σ σ :=
 fun Z Z c ok Z Z Z k => wpAny_Constant_str (k _ (c.tk _) (.tk _ _ _) (ok.sim.tk _) (.str _ _))
theorem Ev.cbytes {b : List UInt8} {k : Nat} {pos : Pos} : Ev (.Constant (.bytes b) k pos) (.bytes b) B gl n ρ σ σ :=
 fun Z Z c ok Z Z Z k Z Z Z => k _ (c.tk _) (.tk _ _ _) (ok.sim.tk _) (.bytes _ _)
theorem Ev.cnone {k : Nat} {pos : Pos} : Ev (.Constant .none k pos) .none B gl n ρ σ σ :=
 fun Z Z c ok Z Z Z k => wpAny_Constant_none (k _ c (.refl _ _) ok.sim .none)
theorem Ev.cbool {b : Bool} {k : Nat} {pos : Pos} : Ev (.Constant (.bool b) k pos) (.bool b) B gl n ρ σ σ :=
 fun Z Z c ok Z Z Z k => wpAny_Constant_bool (k _ c (.refl _ _) ok.sim (.bool b))
theorem Ev.bin {l r : Expr} {op : Operator} {pos : Pos} {a b d : D} (h1 : Ev l a B gl n ρ σ σ1) (h2 : Ev r b B gl n ρ σ1 σ2) (ho : Bin op a b d B n σ2) : Ev (.BinOp l op r pos) d B gl n ρ σ σ2 :=
 fun A env c ok fr E Q k => wpAny_BinOp (h1 A env c ok fr _ _ fun u c1 l1 s1 r1 => h2 A env c1 (ok.step l1 s1) (fr.step l1) _ _ fun v c2 l2 s2 r2 =>
  ho A c2 u v (ok.step (l1.trans l2) s2) (l2.rep r1) r2 _ _ fun v c3 l3 s3 r3 => k v c3 ((l1.trans l2).trans l3) s3 r3)
theorem Ev.cmp {l r : Expr} {op : CmpOp} {pos : Pos} {a b : D} {x : Bool} (h1 : Ev l a B gl n ρ σ σ1) (h2 : Ev r b B gl n ρ σ1 σ2) (ho : Cmp op a b x B n σ2) (hm : behindInMarks op r = false := by with_unfolding_all rfl) : Ev (.Compare l [op] [r] pos) (.bool x) B gl n ρ σ σ2 :=
 fun A env c ok fr E Q k => wpAny_Compare1 (h1 A env c ok fr _ _ fun u c1 l1 s1 r1 => h2 A env c1 (ok.step l1 s1) (fr.step l1) _ _ fun v c2 l2 s2 r2 =>
  ho A c2 u v (ok.step (l1.trans l2) s2) (l2.rep r1) r2 _ _ fun c3 l3 s3 => k _ c3 ((l1.trans l2).trans l3) s3 (.bool x)) hm
theorem EvT.cmp {l r : Expr} {op : CmpOp} {pos : Pos} {a b : D} {x : Bool} (h1 : Ev l a B gl n ρ σ σ1) (h2 : Ev r b B gl n ρ σ1 σ2) (ho : Cmp op a b x B n σ2) (hm : behindInMarks op r = false := by with_unfolding_all rfl) : EvT (.Compare l [op] [r] pos) x B gl n ρ σ σ2 :=
 fun A env c ok fr E Q k => wpAny_isTrue_Compare1 (h1 A env c ok fr _ _ fun u c1 l1 s1 r1 => h2 A env c1 (ok.step l1 s1) (fr.step l1) _ _ fun v c2 l2 s2 r2 =>
  ho A c2 u v (ok.step (l1.trans l2) s2) (l2.rep r1) r2 _ _ fun c3 l3 s3 => wpAny_truthy_bool (k c3 ((l1.trans l2).trans l3) s3)) hm
theorem EvT.not {x : Expr} {pos : Pos} {b : Bool} (h : EvT x b B gl n ρ σ σ1) : EvT (.UnaryOp .Not x pos) (!b) B gl n ρ σ σ1 :=
 fun A env c ok fr E Q k => wpAny_isTrue_Not (h A env c ok fr _ _ fun c1 l1 s1 => k c1 l1 s1)
theorem EvT.val {e : Expr} {a : D} {b : Bool} (h : Ev e a B gl n ρ σ σ1) (ht : Truth a b B σ1) (hw : ∀ env, isTrue e env (eval e env) = (do let v <- eval e env; standAt e.pos; holding [v] (truthy v)) := by intro _; rfl) : EvT e b B gl n ρ σ σ1 := by
 intro A env c ok fr E Q k
 rw [hw]
 refine wpAny_bind (h A env c ok fr _ _ fun v c1 l1 s1 r1 => wpAny_bind (wpAny_standAt (wpAny_holding ?_)))
 exact ht A c1 v n (ok.step l1 s1) r1 _ _ fun c2 l2 s2 => k c2 (l1.trans l2) s2
theorem EvT.and {a b : Expr} {pos : Pos} {x y : Bool} (h1 : EvT a x B gl n ρ σ σ1) (h2 : x = true -> EvT b y B gl n ρ σ1 σ2) (h3 : x = false -> σ1 = σ2) : EvT (.BoolOp .And [a, b] pos) (x && y) B gl n ρ σ σ2 := by
 intro A env c ok fr E Q k
 show wpAny _ A (allTrue .And [a, b] env) Q E c.s
 refine wpAny_bind (h1 A env c ok fr _ _ fun c1 l1 s1 => ?_)
 cases x with
 | false => obtain rfl := h3 rfl; exact wpAny_pure (k c1 l1 s1)
 | true =>
  show wpAny _ A (allTrue .And [b] env) Q E c1.s
  refine wpAny_bind (h2 rfl A env c1 (ok.step l1 s1) (fr.step l1) _ _ fun c2 l2 s2 => ?_)
  have q := k c2 (l1.trans l2) s2
  cases y with
  | false => exact wpAny_pure q
  | true => exact wpAny_pure q
theorem EvT.or {a b : Expr} {pos : Pos} {x y : Bool} (h1 : EvT a x B gl n ρ σ σ1) (h2 : x = false -> EvT b y B gl n ρ σ1 σ2) (h3 : x = true -> σ1 = σ2) : EvT (.BoolOp .Or [a, b] pos) (x || y) B gl n ρ σ σ2 := by
 intro A env c ok fr E Q k
 show wpAny _ A (allTrue .Or [a, b] env) Q E c.s
 refine wpAny_bind (h1 A env c ok fr _ _ fun c1 l1 s1 => ?_)
 cases x with
 | true => obtain rfl := h3 rfl; exact wpAny_pure (k c1 l1 s1)
 | false =>
  show wpAny _ A (allTrue .Or [b] env) Q E c1.s
  refine wpAny_bind (h2 rfl A env c1 (ok.step l1 s1) (fr.step l1) _ _ fun c2 l2 s2 => ?_)
  have q := k c2 (l1.trans l2) s2
  cases y with
  | false => exact wpAny_pure q
  | true => exact wpAny_pure q
theorem Ev.and {a b : Expr} {pos : Pos} {x y : Bool} (h1 : Ev a (.bool x) B gl n ρ σ σ1) (h2 : x = true -> Ev b (.bool y) B gl n ρ σ1 σ2) (h3 : x = false -> σ1 = σ2) : Ev (.BoolOp .And [a, b] pos) (.bool (x && y)) B gl n ρ σ σ2 := by
 intro A env c ok fr E Q k
 refine wpAny_And2 (h1 A env c ok fr _ _ fun v c1 l1 s1 r1 => ?_)
 cases r1
 refine wpAny_truthy_bool ?_
 cases x with
 | false => obtain rfl := h3 rfl; exact k _ c1 l1 s1 (.bool _)
 | true => exact h2 rfl A env c1 (ok.step l1 s1) (fr.step l1) _ _ fun v c2 l2 s2 r2 => k v c2 (l1.trans l2) s2 r2
theorem Ev.ifexp {t a b : Expr} {pos : Pos} {x : Bool} {d : D} (h : EvT t x B gl n ρ σ σ1) (h1 : x = true -> Ev a d B gl n ρ σ1 σ2) (h2 : x = false -> Ev b d B gl n ρ σ1 σ2) : Ev (.IfExp t a b pos) d B gl n ρ σ σ2 := by
 intro A env c ok fr E Q k
 refine wpAny_IfExp (h A env c ok fr _ _ fun c1 l1 s1 => ?_)
 cases x with
 | true => exact h1 rfl A env c1 (ok.step l1 s1) (fr.step l1) _ _ fun v c2 l2 s2 r2 => k v c2 (l1.trans l2) s2 r2
 | false => exact h2 rfl A env c1 (ok.step l1 s1) (fr.step l1) _ _ fun v c2 l2 s2 r2 => k v c2 (l1.trans l2) s2 r2
theorem Evs.nil : Evs [] [] B gl n ρ σ σ := fun Z Z c Z ok Z Z Z k => spliced_nil (k _ c (.refl _ _) ok.sim .nil)
theorem Evs.cons {e : Expr} {es : List Expr} {d : D} {ds : List D} (h : Ev e d B gl n ρ σ σ1) (hs : Evs es ds B gl n ρ σ1 σ2) (hn : ∀ env, starEach (e :: es) env = (false, eval e env) :: starEach es env := by intro _; rfl) : Evs (e :: es) (d :: ds) B gl n ρ σ σ2 := by
 intro A env c pos ok fr E Q k
 rw [hn]
 show wpAny _ A (spliced ((false, eval e env) :: backTo pos (starEach es env))) Q E c.s
 exact spliced_cons (h A env c ok fr _ _ fun v c1 l1 s1 r1 => hs A env c1 pos (ok.step l1 s1) (fr.step l1) _ _ fun vs c2 l2 s2 r2 => k _ c2 (l1.trans l2) s2 (.cons (l2.rep r1) r2))
theorem rep_tup {c : St} {vs : List Value} {ds : List D} (s : Sim B σ c) (r : RepAll c.G c.β vs ds) : Rep (c.put { cls := .type "tuple", data := .seq vs.toArray }).G c.β (.ref c.sz) (.tup ds) :=
 .tup (o := { cls := .type "tuple", data := .seq vs.toArray }) (n := 0) (by show (if c.sz = c.sz then _ else _) = _; rw [if_pos rfl]) rfl rfl ((Le.put [] s _).repAll r)
theorem rep_lst {c : St} {vs : List Value} {ds : List D} (s : Sim B σ c) (r : RepAll c.G c.β vs ds) : Rep (c.put { cls := .type "list", data := .seq vs.toArray }).G c.β (.ref c.sz) (.lst ds) :=
 .lst (o := { cls := .type "list", data := .seq vs.toArray }) (n := 0) (by show (if c.sz = c.sz then _ else _) = _; rw [if_pos rfl]) rfl rfl ((Le.put [] s _).repAll r)
theorem Ev.tuple {es : List Expr} {ds : List D} {k : Nat} {pos : Pos} (h : Evs es ds B gl n ρ σ σ1) (hz : ds.length <= 1000000 := by first | decide | (simp; done) | (simp; lia)) : Ev (.Tuple es k pos) (.tup ds) B gl n ρ σ σ1 := by
 intro A env c ok fr E Q k
 refine Tuple_ (h A env c pos ok fr _ _ fun vs c1 l1 s1 r1 => ?_)
 refine wpAny_newTuple ?_ (by rw [sizeLine_eq, r1.length]; lia)
 exact k _ (c1.put _) (l1.trans (.put _ s1 _)) (s1.put _) (rep_tup s1 r1)
theorem Ev.list {es : List Expr} {ds : List D} {pos : Pos} (h : Evs es ds B gl n ρ σ σ1) (hz : ds.length <= 1000000 := by first | decide | (simp; done) | (simp; lia)) : Ev (.List es pos) (.lst ds) B gl n ρ σ σ1 := by
 intro A env c ok fr E Q k
 refine List_ (h A env c pos ok fr _ _ fun vs c1 l1 s1 r1 => ?_)
 refine wpAny_newList ?_ (by rw [sizeLine_eq, r1.length]; lia)
 exact k _ (c1.put _) (l1.trans (.put _ s1 _)) (s1.put _) (rep_lst s1 r1)
theorem Ev.listM {es : List Expr} {ds : List D} {pos : Pos} (h : Evs es ds B gl n ρ σ σ1) (hz : ds.length <= 1000000 := by first | decide | (simp; done) | (simp; lia)) : Ev (.List es pos) (.obj σ1.length) B gl n ρ σ (σ1 ++ [.lst ds]) := by
 intro A env c ok fr E Q k
 refine List_ (h A env c pos ok fr _ _ fun vs c1 l1 s1 r1 => ?_)
 refine wpAny_newList ?_ (by rw [sizeLine_eq, r1.length]; lia)
 have l2 := Le.own [] c1 (listOf vs.toArray 0)
 refine k _ (c1.own (listOf vs.toArray 0)) (l1.trans l2) (s1.own _ _ ⟨vs, 0, Heap.get?_push_size _ rfl, l2.repAll r1⟩) (.obj ?_)
 show (c1.β ++ [c1.sz])[σ1.length]? = some c1.sz
 rw [<- s1.len, List.getElem?_append_right (Nat.le_refl _)]; simp
end
end
section
section
variable {M : Model} {A : Around} {E : Want Value} {s : Shared}
theorem evalArgs_any {f : Value} {args : List (Bool × Sem Value)} {Q : Args -> Shared -> Prop} (hst : args.any (fun x => x.1) = false) (h : wpAny M A (spliced args) (fun vs s' => Q ⟨vs, []⟩ s') E s) : wpAny M A (evalArgs f true args []) Q E s := by
 cases args with
 | nil =>
  unfold evalArgs
  show wpAny M A (spliced [] >>= _) Q E s
  refine wpAny_bind (wpAny_mono h (fun vs s' h' => ?_) fun Z Z x => x)
  refine wpAny_bind (wpAny_pure ?_)
  refine wpAny_holding ?_
  exact wpAny_bind (wpAny_pure (wpAny_bind (wpAny_pure (wpAny_pure h'))))
 | cons a r =>
  obtain ⟨b, x⟩ := a
  cases b with
  | true => simp at hst
  | false => exact evalArgs_plain h
theorem wp_ite {α : Type} {c : Prop} [Decidable c] {a b : Sem α} {Q : α -> Shared -> Prop} (h1 : wpAny M A a Q E s) (h2 : wpAny M A b Q E s) : wpAny M A (if c then a else b) Q E s := by
 by_cases q : c
 ·rw [if_pos q]; exact h1
 ·rw [if_neg q]; exact h2
theorem callWith_any {pos : Pos} {f : Value} {first : List Value} {args : List (Bool × Sem Value)} {Q : Want Value} (hst : args.any (fun x => x.1) = false)
  (h : wpAny M A (spliced args) (fun vs s' => ∃ k, wpAny M A (keeperOf f) (fun k' s'' => k' = k /\ s'' = s') E s' /\ wpAny M A (call f (first ++ vs) []) Q E s') E s) :
  wpAny M A (callWith pos f first args []) Q E s := by
 unfold callWith
 refine wpAny_bind (wpAny_holding (evalArgs_any hst (wpAny_mono h (fun vs s₁ h₁ => wpAny_bind (wpAny_standAt ?_)) fun Z Z x => x)))
 refine x1_2 h₁ fun k hk hc => ?_; clear h₁
 have tail : ∀ {t : Sem Value}, wpAny M A t Q E s₁ -> wpAny M A (t >>= fun r => holding [r] point >>= fun Z => pure r) Q E s₁ :=
  fun ht => wpAny_bind (wpAny_mono ht (fun r s₂ hr => wpAny_bind (wpAny_holding (wpAny_point (wpAny_pure hr)))) fun Z Z x => x)
 rw [show (args.any (fun x => x.1) || ([] : List (Option Str × Sem Value)).any (·.1.isNone)) = false by rw [hst]; rfl]
 refine wpAny_bind (wpAny_mono hk (fun k' s' e => ?_) fun Z Z x => x)
 refine x0_2 e fun Q1 Q2 => ?_; clear e; subst Q1; subst Q2
 cases k' with
 | machine => exact tail hc
 | frame => exact wp_ite (tail hc) (tail (Calls.wpAny_keep hc))
 | boundFrame => exact wp_ite (tail hc) (tail (Calls.wpAny_keep hc))
 | caller => exact tail (wpAny_operating hc)
end
noncomputable def Keeps' (f : Value) (B : Bs) : Prop := ∃ k, ∀ (A : Around) (E : Want Value) (s : Shared), (∀ b o, B.hb.get? b = some o -> s.heap.get? b = some o) -> wpAny (model PG B.w) A (keeperOf f) (fun k' s' => k' = k /\ s' = s) E s
theorem Keeps'.builtin {id : String} {B : Bs} : Keeps' (.builtin id) B := ⟨.machine, fun Z Z Z Z => wpAny_pure ⟨rfl, rfl⟩⟩
theorem Keeps'.type {t : String} {B : Bs} : Keeps' (.type t) B := ⟨.machine, fun Z Z Z Z => wpAny_pure ⟨rfl, rfl⟩⟩
theorem Keeps'.fn {f : Addr} {B : Bs} {oc od osl} {fd : FuncData} (ho : (KK B.w).lookup f = some ⟨oc, od, .func fd, osl⟩) : Keeps' (.ref f) B :=
 ⟨.frame, fun A E s k => by unfold keeperOf; exact wpAny_bind (wpAny_load (k _ _ (B.X _ _ ho)) (wpAny_pure ⟨rfl, rfl⟩))⟩
section
variable {B : Bs} {gl : Gl} {n m : Nat} {ρ ρ' ρ'' : Loc} {σ σ' σ'' σ1 σ2 σ3 : Sto}
theorem Ev.call {func : Expr} {args : List Expr} {pos : Pos} {f : Value} {ds : List D} {d : D} (hf : Ev func (.raw f) B gl n ρ σ σ) (hk : Keeps' f B) (ha : Evs args ds B gl n ρ σ σ1) (hc : CallV f ds d B n σ1 σ2)
  (he : ∀ env, eval (.Call func args [] pos) env = (do callWith pos (<- eval func env) [] (backTo pos (starEach args env)) []) := by intro _; rfl) (hst : ∀ env, (backTo pos (starEach args env)).any (fun x => x.1) = false := by intro _; rfl) :
  Ev (.Call func args [] pos) d B gl n ρ σ σ2 := by
 intro A env c ok fr E Q k
 rw [he]
 refine wpAny_bind (hf A env c ok fr _ _ fun v c1 l1 s1 r1 => ?_)
 cases r1
 refine x1_1 hk fun kp hkp => ?_; clear hk
 refine callWith_any (hst env) (ha A env c1 pos (ok.step l1 s1) (fr.step l1) _ _ fun vs c2 l2 s2 r2 => ⟨kp, hkp _ _ _ s2.top, ?_⟩)
 exact hc A c2 vs (ok.step (l1.trans l2) s2) r2 _ _ fun v c3 l3 s3 r3 => k v c3 ((l1.trans l2).trans l3) s3 r3
noncomputable def Meth (a : D) (name : Str) (f : Value) (B : Bs) (σ : Sto) : Prop :=
 ∀ (A : Around) (c : St) (u : Value) (n : Nat), Ok B A n σ c -> Rep c.G c.β u a -> ∀ (pl : Sem Bool) (E : Want Value) (Q : Want (Value × List Value)), Q (f, [u]) c.s -> wpAny (model PG B.w) A (getMethod u name pl) Q E c.s
theorem Ev.meth {o : Expr} {name : Str} {args : List Expr} {apos pos : Pos} {a : D} {f : Value} {ds : List D} {d : D} (ho : Ev o a B gl n ρ σ σ1) (hm : Meth a name f B σ1) (hk : Keeps' f B) (ha : Evs args ds B gl n ρ σ1 σ2) (hc : CallV f (a :: ds) d B n σ2 σ3)
  (he : ∀ env, attributeBase o name env (eval o env) = eval o env := by intro _; rfl) (hst : ∀ env, (backTo pos (starEach args env)).any (fun x => x.1) = false := by intro _; rfl)
  (hfew : ∀ env, methodCallForm (args.length + 0) (backTo pos (starEach args env)) [] = true := by intro _; rfl) (hpos : (apos.endLine == pos.line) = true := by decide) :
  Ev (.Call (.Attribute o name apos) args [] pos) d B gl n ρ σ σ3 := by
 intro A env c ok fr E Q k
 show wpAny _ A (do
  let ov <- attributeBase o name env (eval o env)
  standAt apos.atName
  methodCall o name apos pos env ov (args.length + 0) (backTo pos (starEach args env)) []) Q E c.s
 rw [he]
 refine wpAny_bind (ho A env c ok fr _ _ fun u c1 l1 s1 r1 => wpAny_bind (wpAny_standAt ?_))
 unfold methodCall
 rw [hfew]
 show wpAny _ A (holding [u] (calleeOf true o env u name) >>= _) Q E _
 refine wpAny_bind (wpAny_holding ?_)
 unfold calleeOf
 rw [if_pos rfl]
 refine hm A c1 u n (ok.step l1 s1) r1 _ _ _ ?_
 show wpAny _ A (methodCallPos true o env apos pos >>= _) Q E _
 unfold methodCallPos
 rw [if_pos (by simp [hpos])]
 refine wpAny_bind (wpAny_pure ?_)
 refine x1_1 hk fun kp hkp => ?_; clear hk
 refine callWith_any (hst env) (ha A env c1 pos (ok.step l1 s1) (fr.step l1) _ _ fun vs c2 l2 s2 r2 => ⟨kp, hkp _ _ _ s2.top, ?_⟩)
 exact hc A c2 (u :: vs) (ok.step (l1.trans l2) s2) (.cons (l2.rep r1) r2) _ _ fun v c3 l3 s3 r3 => k v c3 ((l1.trans l2).trans l3) s3 r3
end
theorem bindL_other {kf : Str -> Option NameKind} {x : Str} {v : Value} : ∀ {r : List (Str × Value)} {m : Str -> Option Value}, x ∉ r.map (fun x => x.1) -> m x = some v -> bindL kf r m x = some v
 | [], _, _, h => h
 | (z, w) :: r, m, hx, h => by
  rw [bindL]
  simp only [List.map_cons, List.mem_cons, not_or] at hx
  refine bindL_other hx.2 ?_
  split
  ·show (if x = z then some w else m x) = some v
   rw [if_neg hx.1]; exact h
  ·exact h
theorem bindL_get {kf : Str -> Option NameKind} {x : Str} {v : Value} : ∀ {binds : List (Str × Value)} {m : Str -> Option Value}, (binds.map (fun x => x.1)).Nodup -> (x, v) ∈ binds -> kf x = some .local -> bindL kf binds m x = some v
 | (y, u) :: r, m, hn, hm, hk => by
  rw [bindL]
  rw [List.map_cons, List.nodup_cons] at hn
  rcases List.mem_cons.mp hm with e | hm
  ·cases e
   rw [if_pos hk]
   exact bindL_other hn.1 (if_pos rfl)
  ·exact bindL_get hn.2 hm hk
theorem bindC_other {kf : Str -> Option NameKind} {x : Str} {v : Value} : ∀ {r : List (Str × Value)} {m : Str -> Option Value}, x ∉ r.map (fun x => x.1) -> m x = some v -> bindC kf r m x = some v
 | [], _, _, h => h
 | (z, w) :: r, m, hx, h => by
  rw [bindC]
  simp only [List.map_cons, List.mem_cons, not_or] at hx
  refine bindC_other hx.2 ?_
  split
  ·exact h
  ·show (if x = z then some w else m x) = some v
   rw [if_neg hx.1]; exact h
theorem bindC_get {kf : Str -> Option NameKind} {x : Str} {v : Value} : ∀ {binds : List (Str × Value)} {m : Str -> Option Value}, (binds.map (fun x => x.1)).Nodup -> (x, v) ∈ binds -> kf x ≠ some .local -> bindC kf binds m x = some v
 | (y, u) :: r, m, hn, hm, hk => by
  rw [bindC]
  rw [List.map_cons, List.nodup_cons] at hn
  rcases List.mem_cons.mp hm with e | hm
  ·cases e
   rw [if_neg hk]
   exact bindC_other hn.1 (if_pos rfl)
  ·exact bindC_get hn.2 hm hk
structure FnOk (w : World) (f : Addr) (fd : FuncData) (body : List Stmt) (names : List Str) (gl : Gl) (vars : List Str) : Prop where
 here : ∃ oc od osl, (KK w).lookup f = some ⟨oc, od, .func fd, osl⟩
 body : fd.body = .stmts body
 clo : fd.closure = []
 glb : fd.globals = mainGlobals
 blt : fd.builtins = builtinsNs
 code : codeIn (KK w) fd.code fd.qualname = true
 bind : ∀ vs, vs.length = names.length -> bindArgs fd ⟨vs, []⟩ = pure (names.zip vs)
 nd : (names ++ vars).Nodup
 kinds : ((names ++ vars).all fun x => (fd.scope.names.lookup x == some .local || fd.scope.names.lookup x == some .cell) && !(x == ("__debug__" : Str))) = true
 gls : fd.scope.names = gl
 co : fd.scope.isCoroutine = false
 gen : fd.scope.isGenerator = false
 fn : fd.scope.kind = .function
 cnd : ((cellsFrom 0 fd.scope.names []).map (fun x => x.1)).Nodup
noncomputable def locs0 : List Str -> List D -> List Str -> Loc
 | x :: xs, d :: ds, vars => (x, some d) :: locs0 xs ds vars
 | [], _, vars | _ :: _, [], vars => vars.map fun x => (x, none)
theorem locsE : (∀ ds vars, locs0 [] ds vars = vars.map fun x => (x, none)) /\ ∀ x xs d ds vars, locs0 (x :: xs) (d :: ds) vars = (x, some d) :: locs0 xs ds vars := ⟨fun Z Z => rfl, fun Z Z Z Z Z => rfl⟩
theorem locs0_keys {names vars : List Str} {args : List D} (h : args.length = names.length) : (locs0 names args vars).map (fun x => x.1) = names ++ vars := by
 induction names generalizing args with
 | nil => rw [locsE.1, List.map_map]; exact List.map_id vars
 | cons x xs ih =>
  cases args with
  | nil => cases h
  | cons d ds => exact congrArg _ (ih (Nat.succ.inj h))
theorem locs0_get {names vars : List Str} {args : List D} {x : Str} {d : D} (h : (x, some d) ∈ locs0 names args vars) : ∃ i : Nat, names[i]? = some x /\ args[i]? = some d := by
 induction names generalizing args with
 | nil => obtain ⟨_, _, e⟩ := List.mem_map.mp h; cases e
 | cons y r ih =>
  cases args with
  | nil => obtain ⟨_, _, e⟩ := List.mem_map.mp h; cases e
  | cons a as =>
   rcases List.mem_cons.mp h with e | h
   ·cases e; exact ⟨0, rfl, rfl⟩
   ·refine x1_2 (ih h) fun i h1 h2 => ?_
    exact ⟨i + 1, h1, h2⟩
noncomputable def resOf : Fl -> D
 | .next => .none
 | .ret d => d
theorem Call.fn {B : Bs} {f : Addr} {fd : FuncData} {body : List Stmt} {names vars : List Str} {gl : Gl} {args : List D} {d : D} {n : Nat} {σ σ' σj : Sto} {fl : Fl} {ρ' : Loc}
  (K : FnOk B.w f fd body names gl vars) (ha : args.length = names.length) (h : Ex body fl B gl n (locs0 names args vars) ρ' σ (σ' ++ σj)) (hd : resOf fl = d) (hl : σ.length <= σ'.length) (hlow : d.low σ'.length = true) (hs : Sto.low σ.length σ -> Sto.low σ'.length σ') :
  Call f args d B (n + 1) σ σ' := by
 intro A c vs ok ra R k
 refine x3_1 K.here fun oc od osl ho => ?_
 have hlen : vs.length = names.length := ra.length.trans ha
 have hkind : ∀ x ∈ names ++ vars, (fd.scope.names.lookup x = some .local \/ fd.scope.names.lookup x = some .cell) /\ (x == ("__debug__" : Str)) = false := fun x hx => by
  have := List.all_eq_true.mp K.kinds x hx
  rw [Bool.and_eq_true, Bool.or_eq_true, beq_iff_eq, beq_iff_eq, Bool.not_eq_true'] at this
  exact this
 have hz : (names.zip vs).map (fun x => x.1) = names := List.map_fst_zip (Nat.le_of_eq hlen.symm)
 refine codeAny_call_cells (fd := fd) (body := body) (binds := names.zip vs) (by show A.depth < 1000; have := ok.dep; lia) (ok.sim.K _ _ ho) rfl ok.sim.lim (codeRec_of ok.sim.K K.code) K.body (K.bind vs hlen) K.clo ?_ (fun s₁ x => ?_) K.co K.gen K.fn
 ·intro x hx
  have hm : x.1 ∈ names := by rw [<- hz]; exact List.mem_map_of_mem hx
  rcases (hkind x.1 (List.mem_append_left _ hm)).1 with e | e
  ·exact .inl e
  ·exact .inr ⟨e, cellsFrom_some _ _ _ (.inl e)⟩
 ·refine x2_1 x.toInCall.same fun h₁ tk Q => ?_; subst Q
  have hkeep := x.toInCall.keep
  have hL : c.sz < h₁.objs.size := x.toInCall.ns.lt
  let env := callEnvC fd c.sz f
  let c1 : St := ⟨c.G, c.β, { c.s with heap := h₁, toks := tk }⟩
  have l1 : Le [] c c1 := ⟨fun Z Z h => h, fun Z h Z Z => h, ⟨[], by simp [c1], fun Z h => nomatch h⟩, fun b o h Z Z => ⟨o, hkeep b o h, .refl o⟩, Nat.le_of_lt hL, rfl⟩
  have s1 : Sim B σ c1 := by
   refine ⟨ok.sim.base, fun b o h => hkeep b o (ok.sim.sub b o h), ok.sim.len, ok.sim.nodup, ok.sim.mods, fun a ha => Nat.lt_trans (ok.sim.low a ha) hL, ok.sim.off, fun i a y e1 e2 => (ok.sim.cells i a y e1 e2).mono (fun Z Z h => h) (fun Z Z h => h) (fun b o h => hkeep b o (ok.sim.sub b o h)) fun o h => hkeep _ o h⟩
  have hmut : ∀ b ∈ mutA env, c.sz <= b := fun b hb => by
   cases hb with
   | head => exact Nat.le_refl _
   | tail _ hb =>
    refine x1_2 (List.mem_map.mp hb) fun p hp Q => ?_; subst Q
    exact Nat.le_of_lt (x.above p.1 p.2 hp)
  have lk : ∀ y, env.kindOf y = some .cell -> ∃ a, env.cells.lookup y = some a := fun y hy => Option.isSome_iff_exists.mp (cellsFrom_some _ _ _ (.inl hy))
  have hkeys := locs0_keys (vars := vars) ha
  have hst : Stores env (locs0 names args vars) := fun p hp => (hkind p.1 (by rw [<- hkeys]; exact List.mem_map_of_mem hp)).1
  have F1 : Frm env gl (locs0 names args vars) c1 := by
   refine ⟨K.fn, K.glb, K.blt, K.gls, by rw [hkeys]; exact K.nd, fun p hp => (hkind p.1 (by rw [<- hkeys]; exact List.mem_map_of_mem hp)).2, ⟨_, x.toInCall.ns⟩, fun y dy hy => ?_, fun y hy => ?_, x.apart, fun p hp => Nat.ne_of_gt (x.above p.1 p.2 hp), fun b hb => ⟨ok.sim.gnone (hmut b hb), fun hm => absurd (ok.sim.low b hm) (Nat.not_lt.mpr (hmut b hb)), ?_⟩⟩
   ·refine x1_2 (locs0_get hy) fun i e1 e2 => ?_
    refine x1_2 (ra.get e2) fun v e3 rv => ?_
    have hm : (y, v) ∈ names.zip vs := List.mem_iff_getElem?.mpr ⟨i, by rw [List.getElem?_zip_eq_some]; exact ⟨e1, e3⟩⟩
    have hnd : ((names.zip vs).map (fun x => x.1)).Nodup := by rw [hz]; exact (List.nodup_append.mp K.nd).1
    rcases (hkind y (List.mem_append_left _ (List.mem_of_getElem? e1))).1 with e | e
    ·exact .loc e x.toInCall.ns (bindL_get hnd hm e) (l1.rep rv)
    ·refine x1_1 (lk y e) fun a ha' => ?_
     refine .cel e ha' ?_ (l1.rep rv)
     have := x.cell y a ha'
     rwa [bindC_get hnd hm (by show fd.scope.names.lookup y ≠ _; rw [e]; decide)] at this
   ·refine x1_1 (lk y hy) fun a ha' => ?_
    exact ⟨a, _, ha', x.cell y a ha'⟩
   ·cases hb with
    | head => exact hL
    | tail _ hb =>
     refine x1_2 (List.mem_map.mp hb) fun p hp Q => ?_; subst Q
     have hnd := cellsFrom_names fd.scope.names 0 (c.sz + 1) [] [] rfl ▸ K.cnd
     exact (x.cell p.1 p.2 (lookup_of_mem_nodup hnd hp)).lt
  have ok1 : Ok B (A.deeper env) n σ c1 := by
   refine x1_3 ((ok.step l1 s1).stk) fun outer e1 e2 e3 => ?_
   refine ⟨ok.hnd, by show A.depth + 1 + n <= 990; have := ok.dep; lia, by show A.units + 3 + 10 * n <= 9800; have := ok.uni; lia, ⟨env :: outer, Around.frames_deeper e1, ?_, ?_⟩, s1⟩
   ·refine x3_3 x.toInCall.ns fun oL es ep q1 q2 Z => ?_
    refine ⟨by show fd.scope.kind ≠ _; rw [K.fn]; decide, ⟨c.sz, oL, rfl, ?_, q1, fun vs e => by rw [q2] at e; cases e⟩, e2⟩
    cases q : B.hb.get? c.sz with
    | none => rfl
    | some o => exact absurd (Heap.lt_size (ok.sim.top _ _ q)) (Nat.lt_irrefl _)
   ·intro b hb
    rw [List.filterMap_cons] at hb
    rcases List.mem_cons.mp hb with rfl | hb
    ·refine x3_3 x.toInCall.ns fun oL es ep q1 q2 Z => ?_
     exact ⟨(F1.off c.sz (.head _)).2.1, (F1.off c.sz (.head _)).1, oL, q1, es, ep, q2⟩
    ·exact e3 b hb
  have al : Alone (A.deeper env) env := by
   refine ⟨?_, let ⟨outer, e1, _, _⟩ := ok.stk; ⟨outer, Around.frames_deeper e1⟩, rfl⟩
   intro outer' e e' he b hb hm
   refine x1_3 ok.stk fun outer e1 e2 e3 => ?_
   have : some outer' = some (env :: outer) := by rw [<- e]; exact Around.frames_deeper e1
   cases this
   rcases List.mem_cons.mp he with rfl | he
   ·cases hb; rfl
   ·have : b ∈ outer.filterMap (·.frame) := List.mem_filterMap.mpr ⟨e', he, hb⟩
    obtain ⟨_, o, q, _⟩ := e2.mem this
    exact absurd (Heap.lt_size q) (Nat.not_lt.mpr (hmut b hm))
  refine h (A.deeper env) env c1 al hst ok1 F1 _ _ fun fl' c2 l2 s2 fr2 => ?_
  have hlow' := s2.low_at
  have hlen2 := s2.len
  have s3 := Sim.drop s2 (hs ok.sim.low_at)
  have l12 : Le [] c c2 := ((l1.weaken (fun Z h => nomatch h)).trans l2).weaken_new fun a ha => .inr (hmut a ha)
  have l3 : Le [] c ⟨c2.G, c2.β.take σ'.length, c2.s⟩ := l12.cut (by rw [ok.sim.len]; exact hl)
  cases fl with
  | next =>
   refine x0_2 fr2 fun Q Z => ?_; clear fr2; subst Q
   cases hd
   exact k _ ⟨c2.G, c2.β.take σ'.length, c2.s⟩ l3 s3 .none
  | ret d' =>
   refine x1_2 fr2 fun v Q rv => ?_; clear fr2; subst Q
   cases hd
   exact k _ ⟨c2.G, c2.β.take σ'.length, c2.s⟩ l3 s3 (rv.cut hlow)
end
section
theorem runs_size {M : Model} {Γ : Ctx} {p : Pos} {t : Sem Fin} {fs : List Frame} {s : Shared} {e : End} {s' : Shared} (h : Runs M Γ p t fs s e s') : s.heap.objs.size <= s'.heap.objs.size := by
 induction h with
 | update _ _ ih => rw [Heap.size_after_update] at ih; exact ih
 | alloc _ ih => rw [Heap.size_push] at ih; exact Nat.le_of_succ_le ih
 | call _ _ ih1 ih2 => exact Nat.le_trans ih1 ih2
 | resumeFresh _ _ _ _ ih1 ih2 => exact Nat.le_trans ih1 ih2
 | resumeSuspended _ _ _ _ ih1 ih2 => exact Nat.le_trans ih1 ih2
 | segRet _ _ ih1 ih2 => exact Nat.le_trans ih1 ih2
 | segGen _ _ ih1 ih2 => exact Nat.le_trans ih1 ih2
 | segSuspGen _ _ _ _ ih1 ih2 => exact Nat.le_trans ih1 ih2
 | _ => first | assumption | exact Nat.le_refl _
theorem wakes_size {M : Model} {Γ : Ctx} {p : Pos} {g : Nat} {r : Resume} {s : Shared} {res : GenResult} {s' : Shared} (h : Wakes M Γ p g r s res s') : s.heap.objs.size <= s'.heap.objs.size := by
 have eqv : ∀ {x : Shared}, s' = x -> x.heap = s.heap -> s.heap.objs.size <= s'.heap.objs.size := fun e q => by rw [e, q]; exact Nat.le_refl _
 have go : ∀ {s₁ : Shared} {Γ' p' t fs e} {x : GenState}, Runs M Γ' p' t fs (s.setGen g .running) e s₁ -> s' = s₁.setGen g x -> s.heap.objs.size <= s'.heap.objs.size := fun {s₁ _ _ _ _ _ _} h e => by rw [e]; exact (show s.heap.objs.size <= s₁.heap.objs.size from runs_size (s := s.setGen g .running) h)
 unfold Wakes at h
 revert h
 cases s.gens[g]? with
 | none => exact False.elim
 | some st =>
  cases st with
  | fresh c =>
   cases r with
   | send v =>
    cases v with
    | none => exact fun h => h.elim fun Z h => h.elim fun Z h => go h.1 h.2.2.2
    | _ => exact fun h => eqv h.2 rfl
   | throw x => exact fun h => eqv h.2 rfl
  | suspended => exact fun h => h.elim fun Z h => h.elim fun Z h => go h.1 h.2.2.2
  | _ => exact fun h => eqv h.2 rfl
theorem wp_size {α : Type} {M : Model} {Γ : Ctx} (t : Sem α) {Q : α -> Pos -> Shared -> Prop} {E : Value -> Pos -> Shared -> Prop} {p : Pos} {s : Shared} (h : Sem.wp M Γ t Q E p s) :
  Sem.wp M Γ t (fun a p' s' => Q a p' s' /\ s.heap.objs.size <= s'.heap.objs.size) (fun a p' s' => E a p' s' /\ s.heap.objs.size <= s'.heap.objs.size) p s := by
 have gen : ∀ (n : Nat), n <= s.heap.objs.size -> Sem.wp M Γ t (fun a p' s' => Q a p' s' /\ n <= s'.heap.objs.size) (fun a p' s' => E a p' s' /\ n <= s'.heap.objs.size) p s := by
  induction t generalizing p s with
  | pure a => intro n hn; exact ⟨h, hn⟩
  | raise a => intro n hn; exact ⟨h, hn⟩
  | load a q k ih => intro n hn; obtain ⟨o, h1, h2⟩ := h; exact ⟨o, h1, ih o h2 n hn⟩
  | update a q f k ih => intro n hn; exact ⟨h.1, ih () h.2 n (by rw [Heap.size_after_update]; exact hn)⟩
  | alloc o k ih => intro n hn; exact ih _ h n (by rw [Heap.size_push]; exact Nat.le_succ_of_le hn)
  | choose src m k ih => intro n hn; exact ⟨h.1, ih _ h.2 n hn⟩
  | call c hd g l k ih =>
   intro n hn
   obtain ⟨r, s', h1, h2⟩ := h
   exact ⟨r, s', h1, ih r h2 n (Nat.le_trans hn (runs_size h1))⟩
  | genState g k ih => intro n hn; obtain ⟨o, h1, h2⟩ := h; exact ⟨o, h1, ih _ h2 n hn⟩
  | resume g r l k ih => intro n hn; obtain ⟨res, s', h1, h2⟩ := h; exact ⟨res, s', h1, ih _ h2 n (Nat.le_trans hn (wakes_size h1))⟩
  | unsupported => exact h.elim
  | finish => exact h.elim
  | register => exact h.elim
  | yield => exact h.elim
  | fork => exact h.elim
  | await => exact h.elim
  | rule tag k ih => intro n hn; exact ih () h n hn
  | «at» q k ih => intro n hn; exact ih () h n hn
  | loadIfAlive a k ih => intro n hn; exact ih _ h n hn
  | point l k ih => intro n hn; exact ih () h n hn
  | fresh k ih => intro n hn; exact ih _ h n hn
  | ask k ih => intro n hn; exact ih _ h n hn
  | os q l k ih => intro n hn; exact ih _ h n hn
  | handled own k ih => intro n hn; exact ih _ h n hn
  | newGen c k ih => intro n hn; exact ih _ h n hn
  | stack k ih => intro n hn; exact ih _ h n hn
  | thread k ih => intro n hn; exact ih _ h n hn
 exact gen _ (Nat.le_refl _)
theorem wpAny_size {α : Type} {M : Model} {A : Around} {t : Sem α} {Q : α -> Shared -> Prop} {E : Value -> Shared -> Prop} {s : Shared} (h : wpAny M A t (fun a s' => s.heap.objs.size <= s'.heap.objs.size -> Q a s') (fun a s' => s.heap.objs.size <= s'.heap.objs.size -> E a s') s) : wpAny M A t Q E s :=
 fun Γ p hΓ => Sem.wp_mono M Γ t (fun a p' s' h' => h'.1 h'.2) (fun a p' s' h' => h'.1 h'.2) p s (wp_size t (h Γ p hΓ))
end
section
theorem ns_unique {h : Heap} {a : Addr} {m m' : Str -> Option Value} (x : h.Ns a m) (y : h.Ns a m') : m = m' := by
 refine x3_4 x fun o es ep h1 h2 Z h3 => ?_; clear x
 refine x3_4 y fun o' es' ep' g1 g2 Z g3 => ?_; clear y
 rw [h1] at g1; cases g1
 rw [h2] at g2; cases g2
 exact funext fun n => (h3 n).symm.trans (g3 n)
section
variable {B : Bs} {σ σ' : Sto} {n : Nat} {gl : Gl} {ρ ρ' : Loc} {A : Around} {env : Env} {c : St}
theorem Ok.frame {c' : St} (ok : Ok B A n σ c) (al : Alone A env) (l : Le (mutA env) c c') (s : Sim B σ' c') (hn : ∃ m, c'.h.Ns env.locals m) : Ok B A n σ' c' :=
 ok.mono l (fun e outer h1 h2 b h3 h4 => by
  rw [al.alone outer h1 e h2 b h3 h4]
  refine x4_3 hn fun m o es ep q1 q2 Z => ?_; clear hn
  exact ⟨o, q1, es, ep, q2⟩) s
theorem le_sameBut {M : List Addr} {L : Addr} {h' : Heap} {t : Nat} (hs : Heap.SameBut L c.h h') (hM : L ∈ M) : Le M c ⟨c.G, c.β, { c.s with heap := h', toks := t }⟩ :=
 ⟨fun Z Z h => h, fun Z h Z Z => h, ⟨[], by simp, fun Z h => nomatch h⟩, fun b o h Z hb => ⟨o, by rw [<- h]; exact hs.2 b fun e => hb (e ▸ hM), .refl o⟩, Nat.le_of_eq hs.1.symm, rfl⟩
theorem sim_sameBut {L : Addr} {h' : Heap} {t : Nat} (s : Sim B σ c) (hs : Heap.SameBut L c.h h') (h1 : c.G L = none) (h2 : L ∉ c.β) : Sim B σ ⟨c.G, c.β, { c.s with heap := h', toks := t }⟩ := by
 have hG : ∀ b o, c.G b = some o -> h'.get? b = some o := fun b o h => (hs.2 b fun e => by rw [e, h1] at h; cases h).trans (s.sub b o h)
 exact ⟨s.base, hG, s.len, s.nodup, s.mods, fun a ha => Nat.lt_of_lt_of_le (s.low a ha) (Nat.le_of_eq hs.1.symm), s.off, fun i a y e1 e2 => (s.cells i a y e1 e2).mono (fun Z Z h => h) (fun Z Z h => h) hG fun o h => (hs.2 a fun e => h2 (e ▸ List.mem_of_getElem? e1)).trans h⟩
noncomputable def StoresM (env : Env) (M : List Addr) (x : Str) : Prop := (env.kindOf x = some .local /\ env.locals ∈ M) \/ (env.kindOf x = some .cell /\ ∀ a, env.cells.lookup x = some a -> a ∈ M)
theorem Stores.m {p : Str × Option D} (st : Stores env ρ) (h : p ∈ ρ) : StoresM env (mutA env) p.1 := (st p h).imp (fun h => ⟨h, .head _⟩) fun h => ⟨h, fun Z e => mem_mut_cell e⟩
theorem store_gen {M : List Addr} {x : Str} {v : Value} {d : D} {E : Want Value} {Q : Want Unit} (fr : Frm env gl ρ c) (s : Sim B σ c) (st : StoresM env M x) (up : VarUp ρ x d ρ') (r : Rep c.G c.β v d)
  (k : ∀ c', Le M c c' -> Sim B σ c' -> Frm env gl ρ' c' -> Q () c'.s) : wpAny (model PG B.w) A (storeName env x v) Q E c.s := by
 have hnd : (ρ'.map (fun x => x.1)).Nodup := by rw [up.keys]; exact fr.nd
 have hdbg : ∀ p ∈ ρ', (p.1 == ("__debug__" : Str)) = false := fun p hp => by
  have : p.1 ∈ ρ.map (fun x => x.1) := by rw [<- up.keys]; exact List.mem_map_of_mem hp
  refine x1_2 (List.mem_map.mp this) fun q hq e => ?_
  rw [<- e]; exact fr.dbg q hq
 rcases st with ⟨hx, hM⟩ | ⟨hx, hM⟩
 ·refine x1_1 fr.ns fun m hm => ?_
  have o1 := fr.off env.locals (.head _)
  refine wpAny_storeName_local hx hm (fun h' hn hs => ?_) (by rw [fr.fn]; rfl)
  have l := le_sameBut (M := M) (c := c) (t := c.s.toks + 1) hs hM
  refine k ⟨c.G, c.β, { c.s with heap := h', toks := c.s.toks + 1 }⟩ l (sim_sameBut s hs o1.1 o1.2.1) ?_
  have ce : ∀ {y : Str} {a : Addr} {w : Option Value}, env.cells.lookup y = some a -> c.h.IsCell a w -> h'.IsCell a w := fun {y a w} e h => h.sameBut hs (fr.ncl (y, a) (mem_of_lookup e))
  refine ⟨fr.fn, fr.glb, fr.blt, fr.gls, hnd, hdbg, ⟨_, hn⟩, fun y e he => ?_, fun y hy => ?_, fr.apart, fr.ncl, fun b hb => ?_⟩
  ·rcases up.old fr.nd he with ⟨rfl, e2⟩ | ⟨hy, he⟩
   ·cases e2
    exact .loc hx hn (if_pos rfl) r
   ·cases fr.vars y e he with
    | loc h1 h2 h3 h4 =>
     rw [ns_unique hm h2] at hn
     refine .loc h1 hn ?_ h4
     show (if y = x then _ else _) = _
     rw [if_neg hy]; exact h3
    | cel h1 h2 h3 h4 => exact .cel h1 h2 (ce h2 h3) h4
    | free h1 h2 h3 h4 h5 => exact .free h1 h2 h3 (ce h3 h4) h5
  ·refine x2_2 (fr.cel y hy) fun a w h1 h2 => ?_
   exact ⟨a, w, h1, ce h1 h2⟩
  ·refine x0_3 (fr.off b hb) fun h1 h2 h3 => ?_
   exact ⟨h1, h2, Nat.lt_of_lt_of_le h3 l.size⟩
 ·refine x2_2 (fr.cel x hx) fun a w ha hw => ?_
  have hma : a ∈ mutA env := mem_mut_cell ha
  have o1 := fr.off a hma
  refine wpAny_storeName_cell fr.fn hx ha hw (fun h' hc hs => ?_)
  have l : Le M c ⟨c.G, c.β, { c.s with heap := h' }⟩ := le_sameBut (c := c) (t := c.s.toks) hs (hM a ha)
  have hne : env.locals ≠ a := fun e => fr.ncl (x, a) (mem_of_lookup ha) e.symm
  refine k ⟨c.G, c.β, { c.s with heap := h' }⟩ l (sim_sameBut (t := c.s.toks) s hs o1.1 o1.2.1) ?_
  have ce : ∀ {y : Str} {b : Addr} {u : Option Value}, y ≠ x -> env.cells.lookup y = some b -> c.h.IsCell b u -> h'.IsCell b u := fun {y b u} hy e h => h.sameBut hs fun q => hy (name_of_addr fr.apart (mem_of_lookup e) (q ▸ mem_of_lookup ha))
  refine ⟨fr.fn, fr.glb, fr.blt, fr.gls, hnd, hdbg, let ⟨m, hm⟩ := fr.ns; ⟨m, hm.sameBut hs hne⟩, fun y e he => ?_, fun y hy => ?_, fr.apart, fr.ncl, fun b hb => ?_⟩
  ·rcases up.old fr.nd he with ⟨rfl, e2⟩ | ⟨hy, he⟩
   ·cases e2
    exact .cel hx ha hc r
   ·cases fr.vars y e he with
    | loc h1 h2 h3 h4 => exact .loc h1 (h2.sameBut hs hne) h3 h4
    | cel h1 h2 h3 h4 => exact .cel h1 h2 (ce hy h2 h3) h4
    | free h1 h2 h3 h4 h5 => exact .free h1 h2 h3 (ce hy h3 h4) h5
  ·by_cases hyx : y = x
   ·subst hyx; exact ⟨a, _, ha, hc⟩
   ·refine x2_2 (fr.cel y hy) fun b u h1 h2 => ?_
    exact ⟨b, u, h1, ce hyx h1 h2⟩
  ·refine x0_3 (fr.off b hb) fun h1 h2 h3 => ?_
   exact ⟨h1, h2, Nat.lt_of_lt_of_le h3 l.size⟩
theorem store_ok {x : Str} {v : Value} {d : D} {E : Want Value} {Q : Want Unit} (fr : Frm env gl ρ c) (s : Sim B σ c) (st : Stores env ρ) (up : VarUp ρ x d ρ') (r : Rep c.G c.β v d)
  (k : ∀ c', Le (mutA env) c c' -> Sim B σ c' -> Frm env gl ρ' c' -> Q () c'.s) : wpAny (model PG B.w) A (storeName env x v) Q E c.s :=
 let ⟨_, ho0⟩ := up.here
 store_gen fr s (st.m ho0) up r k
theorem Stores.up {x : Str} {d : D} (st : Stores env ρ) (up : VarUp ρ x d ρ') : Stores env ρ' := fun p hp => by
 have : p.1 ∈ ρ.map (fun x => x.1) := by rw [<- up.keys]; exact List.mem_map_of_mem hp
 refine x1_2 (List.mem_map.mp this) fun q hq e => ?_
 rw [<- e]; exact st q hq
end
section
variable {B : Bs} {gl : Gl} {n m : Nat} {ρ ρ' ρ'' ρ1 : Loc} {σ σ' σ'' σ1 σ2 σ3 : Sto} {rest : List Stmt} {fl : Fl}
theorem Ex.nil : Ex [] .next B gl n ρ ρ σ σ := fun A env c al st ok fr E Q k => wpAny_execs_nil (k _ c (.refl _ _) ok.sim ⟨rfl, fr, st⟩)
theorem le_mut {env : Env} {c c' : St} (l : Le [] c c') : Le (mutA env) c c' := l.weaken fun Z h => nomatch h
noncomputable def St1 (s : Stmt) (B : Bs) (gl : Gl) (n : Nat) (ρ ρ' : Loc) (σ σ' : Sto) : Prop :=
 ∀ (A : Around) (env : Env) (c : St), Alone A env -> Stores env ρ -> Ok B A n σ c -> Frm env gl ρ c -> ∀ (E : Want Value) (Q : Want Flow), (∀ c', Le (mutA env) c c' -> Sim B σ' c' -> Frm env gl ρ' c' -> Stores env ρ' -> Q .next c'.s) -> wpAny (model PG B.w) A (exec s env) Q E c.s
theorem Ex.seq {s : Stmt} (h : St1 s B gl n ρ ρ1 σ σ1) (hr : Ex rest fl B gl n ρ1 ρ' σ1 σ') : Ex (s :: rest) fl B gl n ρ ρ' σ σ' :=
 fun A env c al st ok fr E Q k => wpAny_execs_cons (h A env c al st ok fr _ _ fun c1 l1 s1 fr1 st1 =>
  hr A env c1 al st1 (ok.frame al l1 s1 fr1.ns) fr1 _ _ fun f c2 l2 s2 fr2 => k f c2 (l1.trans l2) s2 fr2)
theorem Ex.ret {e : Expr} {pos : Pos} {d : D} (h : Ev e d B gl n ρ σ σ') : Ex (.Return (some e) pos :: rest) (.ret d) B gl n ρ ρ σ σ' :=
 fun A env c al st ok fr E Q k => wpAny_execs_cons (wpAny_Return_some (h A env c ok fr _ _ fun v c1 l1 s1 r1 => k _ c1 (le_mut l1) s1 ⟨v, rfl, r1⟩))
theorem Ex.retNone {pos : Pos} : Ex (.Return none pos :: rest) (.ret .none) B gl n ρ ρ σ σ :=
 fun A env c al st ok fr E Q k => wpAny_execs_cons (wpAny_Return_none (k _ c (.refl _ _) ok.sim ⟨_, rfl, .none⟩))
theorem wp_append {a b : List Stmt} {M : Model} {Γ : Ctx} {env : Env} {E : Value -> Pos -> Shared -> Prop} {Q : Flow -> Pos -> Shared -> Prop} {p : Pos} {s : Shared} :
  Sem.wp M Γ (execs (a ++ b) env) Q E p s = Sem.wp M Γ (execs a env) (fun f p' s' => match f with | .next => Sem.wp M Γ (execs b env) Q E p' s' | f => Q f p' s') E p s := by
 induction a generalizing p s with
 | nil => rfl
 | cons st a ih =>
  rw [List.cons_append, execs_cons, execs_cons, Sem.wp_bind', Sem.wp_bind']
  congr 1
  funext f p' s'
  cases f with
  | next => exact ih
  | brk => rfl
  | cont => rfl
  | ret v => rfl
theorem Ex.ifs {test : Expr} {body orelse : List Stmt} {pos : Pos} {b : Bool} (h : EvT test b B gl n ρ σ σ1) (hr : Ex ((if b then body else orelse) ++ rest) fl B gl n ρ ρ' σ1 σ') : Ex (.If test body orelse pos :: rest) fl B gl n ρ ρ' σ σ' := by
 intro A env c al st ok fr E Q k Γ p hΓ
 rw [execs_cons, Sem.wp_bind', exec_If, Sem.wp_bind', Sem.wp_cmd_standAt, Sem.wp_bind']
 refine Sem.wp_mono _ Γ _ (fun b' p' s' q => ?_) (fun Z Z Z q => q) _ _ (h A env c ok fr E (fun b' s' => b' = b /\ ∀ p', Sem.wp (model PG B.w) Γ (execs ((if b then body else orelse) ++ rest) env) (fun a Z s' => Q a s') (fun e Z s' => E e s') p' s') (fun c1 l1 s1 => ⟨rfl, fun p' => ?_⟩) Γ _ hΓ)
 ·refine x0_2 q fun Q q => ?_; subst Q
  have q := q p'
  rw [wp_append] at q
  cases b' with
  | true =>
   refine Sem.wp_mono _ Γ _ (fun f p'' s'' r => ?_) (fun Z Z Z r => r) _ _ q
   cases f <;> first | exact r | (rw [Sem.wp_pure']; exact r)
  | false =>
   refine Sem.wp_mono _ Γ _ (fun f p'' s'' r => ?_) (fun Z Z Z r => r) _ _ q
   cases f <;> first | exact r | (rw [Sem.wp_pure']; exact r)
 ·exact hr A env c1 al st (ok.step l1 s1) (fr.step l1) E Q (fun f c2 l2 s2 fr2 => k f c2 ((le_mut l1).trans l2) s2 fr2) Γ p' hΓ
theorem Ex.ifT {test : Expr} {body orelse : List Stmt} {pos : Pos} (h : EvT test true B gl n ρ σ σ1) (hr : Ex (body ++ rest) fl B gl n ρ ρ' σ1 σ') : Ex (.If test body orelse pos :: rest) fl B gl n ρ ρ' σ σ' := Ex.ifs h hr
theorem Ex.ifF {test : Expr} {body orelse : List Stmt} {pos : Pos} (h : EvT test false B gl n ρ σ σ1) (hr : Ex (orelse ++ rest) fl B gl n ρ ρ' σ1 σ') : Ex (.If test body orelse pos :: rest) fl B gl n ρ ρ' σ σ' := Ex.ifs h hr
theorem St1.assign {x : Str} {p pos : Pos} {value : Expr} {d : D} (h : Ev value d B gl n ρ σ σ') (up : VarUp ρ x d ρ') (hs : ∀ env, swapsWith value (some (.Name x p)) pos.line env = pure false := by intro _; rfl) :
  St1 (.Assign [.Name x p] value pos) B gl n ρ ρ' σ σ' := by
 intro A env c al st ok fr E Q k
 refine wpAny_Assign_Name (h A env c ok fr _ _ fun v c1 l1 s1 r1 => ?_) (hs env)
 exact store_ok (fr.step l1) s1 st up r1 fun c2 l2 s2 fr2 => k c2 ((le_mut l1).trans l2) s2 fr2 (st.up up)
theorem not_interactive {env : Env} (h : env.scope.kind = .function) : interactive env = false := by unfold interactive; rw [h]; rfl
theorem St1.expr {e : Expr} {pos : Pos} {d : D} (h : Ev e d B gl n ρ σ σ') (hs : ∀ env, swapsWith e none pos.line env = pure false := by intro _; rfl) : St1 (.Expr e pos) B gl n ρ ρ σ σ' := by
 intro A env c al st ok fr E Q k
 exact wpAny_Expr_any (h A env c ok fr _ _ fun v c1 l1 s1 r1 => k c1 (le_mut l1) s1 (fr.step l1) st) (not_interactive fr.fn) (hs env)
theorem St1.augAdd {x : Str} {p pos : Pos} {value : Expr} {i j : Int} (hx : VarIx ρ x (.int i)) (h : Ev value (.int j) B gl n ρ σ σ') (up : VarUp ρ x (.int (i + j)) ρ') :
  St1 (.AugAssign (.Name x p) .Add value pos) B gl n ρ ρ' σ σ' := by
 intro A env c al st ok fr E Q k
 have ld : ∀ (Q : Want Value), (∀ t, Q (.int i t) c.s) -> wpAny (model PG B.w) A (loadName env x) Q E c.s := by
  intro Q hq
  cases fr.vars x _ hx.mem with
  | loc h1 h2 h3 h4 => cases h4; exact wpAny_loadName_local fr.fn h1 h2 h3 (hq _)
  | cel h1 h2 h3 h4 => cases h4; exact wpAny_loadName_cell fr.fn h1 h2 h3 (hq _)
  | free h1 h2 h3 h4 h5 => cases h5; exact wpAny_loadName_free fr.fn h1 h3 h4 (hq _) h2
 refine wpAny_AugAssign_Name (ld _ fun t => ?_)
 refine h A env c ok fr _ _ fun v c1 l1 s1 r1 => ?_
 cases r1
 refine wpAny_iadd_int ?_
 exact store_ok (c := c1.tk (c1.s.toks + 1)) ((fr.step l1).step (.tk _ _ _)) (s1.tk _) st up (.int _ _) fun c2 l2 s2 fr2 => k c2 (((le_mut l1).trans (.tk _ _ _)).trans l2) s2 fr2 (st.up up)
inductive VarUps : Loc -> List Str -> List D -> Loc -> Prop
 | nil {ρ : Loc} : VarUps ρ [] [] ρ
 | cons {ρ ρ1 ρ' : Loc} {x : Str} {xs : List Str} {d : D} {ds : List D} : VarUp ρ x d ρ1 -> VarUps ρ1 xs ds ρ' -> VarUps ρ (x :: xs) (d :: ds) ρ'
theorem VarUp.comm {ρ ρ1 ρ2 : Loc} {x y : Str} {d e : D} (hne : x ≠ y) (h : VarUp ρ x d ρ1) (k : VarUp ρ1 y e ρ2) : ∃ ρ3, VarUp ρ y e ρ3 /\ VarUp ρ3 x d ρ2 := by
 induction h generalizing ρ2 with
 | head =>
  cases k with
  | head => exact absurd rfl hne
  | tail k => exact ⟨_, .tail k, .head⟩
 | tail h ih =>
  cases k with
  | head => exact ⟨_, .head, .tail h⟩
  | tail k => obtain ⟨ρ3, a, b⟩ := ih hne k; exact ⟨_, .tail a, .tail b⟩
theorem VarUps.push {ρ ρ1 ρ' : Loc} {x : Str} {xs : List Str} {d : D} {ds : List D} (hn : x ∉ xs) (h : VarUp ρ x d ρ1) (k : VarUps ρ1 xs ds ρ') : ∃ ρ2, VarUps ρ xs ds ρ2 /\ VarUp ρ2 x d ρ' := by
 induction k generalizing ρ with
 | nil => exact ⟨ρ, .nil, h⟩
 | cons k ks ih =>
  simp only [List.mem_cons, not_or] at hn
  refine x1_2 (h.comm hn.1 k) fun ρ3 a b => ?_
  refine x1_2 (ih hn.2 b) fun ρ2 c e => ?_
  exact ⟨ρ2, .cons a c, e⟩
theorem VarUps.snoc {ρ ρ1 ρ' : Loc} {x : Str} {xs : List Str} {d : D} {ds : List D} (h : VarUps ρ xs ds ρ1) (k : VarUp ρ1 x d ρ') : VarUps ρ (xs ++ [x]) (ds ++ [d]) ρ' := by
 induction h with
 | nil => exact .cons k .nil
 | cons a _ ih => exact .cons a (ih k)
theorem VarUps.rev {ρ ρ' : Loc} {xs : List Str} {ds : List D} (hn : xs.Nodup) (h : VarUps ρ xs ds ρ') : VarUps ρ xs.reverse ds.reverse ρ' := by
 induction h with
 | nil => exact .nil
 | cons a k ih =>
  rw [List.nodup_cons] at hn
  rw [List.reverse_cons, List.reverse_cons]
  have k' := ih hn.2
  refine x1_2 (VarUps.push (by simpa using hn.1) a k') fun ρ2 b e => ?_
  exact b.snoc e
theorem stores_gen {M : List Addr} {env : Env} {A : Around} {xs : List Str} {vs : List Value} {ds : List D} {ρ ρ' : Loc} {c : St} {E : Want Value} {Q : Want Unit} {ts : List (Value -> Sem Unit)} (fr : Frm env gl ρ c) (s : Sim B σ c) (stm : ∀ x ∈ xs, StoresM env M x) (up : VarUps ρ xs ds ρ') (r : RepAll c.G c.β vs ds)
  (ht : ∀ (i : Nat) (x : Str) (v : Value) (c' : Shared) (E : Want Value) (Q : Want Unit), xs[i]? = some x -> ∃ t : Value -> Sem Unit, ts[i]? = some t /\ (wpAny (model PG B.w) A (storeName env x v) Q E c' -> wpAny (model PG B.w) A (t v) Q E c'))
  (k : ∀ c', Le M c c' -> Sim B σ c' -> Frm env gl ρ' c' -> Q () c'.s) : wpAny (model PG B.w) A (assignInOrder ts vs) Q E c.s := by
 induction up generalizing vs c Q ts with
 | nil =>
  cases r
  have q := k c (.refl _ _) s fr
  cases ts with
  | nil => exact wpAny_pure q
  | cons t ts => exact wpAny_pure q
 | @cons ρ ρ1 ρ' x xs d ds up ups ih =>
  cases r with
  | @cons v vs r rs =>
   cases ts with
   | nil => obtain ⟨t, e, _⟩ := ht 0 x v c.s E Q rfl; simp at e
   | cons t' ts =>
    refine wpAny_assignInOrder_more ?_
    refine x1_2 (ht 0 x v c.s E (fun Z s' => wpAny (model PG B.w) A (assignInOrder ts vs) Q E s') rfl) fun t e ht0 => ?_
    simp only [List.getElem?_cons_zero, Option.some.injEq] at e
    subst e
    refine ht0 (store_gen fr s (stm _ (.head _)) up r fun c1 l1 s1 fr1 => ?_)
    refine ih fr1 s1 (fun y hy => stm y (.tail _ hy)) (l1.repAll rs) (fun i y w c' E' Q' h => ?_) fun c2 l2 s2 fr2 => k c2 (l1.trans l2) s2 fr2
    obtain ⟨t2, e2, h2⟩ := ht (i + 1) y w c' E' Q' (by simpa using h)
    exact ⟨t2, by simpa using e2, h2⟩
theorem VarUps.here {ρ ρ' : Loc} {xs : List Str} {ds : List D} (h : VarUps ρ xs ds ρ') : ∀ x ∈ xs, ∃ p ∈ ρ, p.1 = x := by
 induction h with
 | nil => intro x hx; cases hx
 | cons u us ih =>
  intro x hx
  rcases List.mem_cons.mp hx with rfl | hx
  ·obtain ⟨o, ho⟩ := u.here; exact ⟨_, ho, rfl⟩
  ·refine x1_2 (ih x hx) fun p hp e => ?_
   have : p.1 ∈ (_ : Loc).map (fun x => x.1) := List.mem_map_of_mem hp
   rw [u.keys] at this
   refine x1_2 (List.mem_map.mp this) fun q hq e2 => ?_
   exact ⟨q, hq, e2.trans e⟩
theorem Stores.ups {env : Env} {ρ ρ' : Loc} {xs : List Str} {ds : List D} (st : Stores env ρ) (h : VarUps ρ xs ds ρ') : Stores env ρ' := by
 induction h with
 | nil => exact st
 | cons u us ih => exact ih (st.up u)
theorem stores_ok {env : Env} {A : Around} {xs : List Str} {vs : List Value} {ds : List D} {ρ ρ' : Loc} {c : St} {E : Want Value} {Q : Want Unit} {ts : List (Value -> Sem Unit)} (fr : Frm env gl ρ c) (s : Sim B σ c) (st : Stores env ρ) (up : VarUps ρ xs ds ρ') (r : RepAll c.G c.β vs ds)
  (ht : ∀ (i : Nat) (x : Str) (v : Value) (c' : Shared) (E : Want Value) (Q : Want Unit), xs[i]? = some x -> ∃ t : Value -> Sem Unit, ts[i]? = some t /\ (wpAny (model PG B.w) A (storeName env x v) Q E c' -> wpAny (model PG B.w) A (t v) Q E c'))
  (k : ∀ c', Le (mutA env) c c' -> Sim B σ c' -> Frm env gl ρ' c' -> Stores env ρ' -> Q () c'.s) : wpAny (model PG B.w) A (assignInOrder ts vs) Q E c.s :=
 stores_gen fr s (fun x hx => by obtain ⟨p, hp, rfl⟩ := up.here x hx; exact st.m hp) up r ht fun c' l s fr => k c' l s fr (st.ups up)
theorem rep_isTuple {c : St} {v : Value} {ds : List D} (s : Sim B σ c) (r : Rep c.G c.β v (.tup ds)) : ∃ a vs, v = .ref a /\ c.h.IsTuple a vs.toArray /\ RepAll c.G c.β vs ds := by
 cases r with | tup h1 h2 h3 h4 => exact ⟨_, _, rfl, ⟨_, s.sub _ _ h1, h2, _, h3⟩, h4⟩
theorem le_ext {M : List Addr} {c : St} {h' : Heap} {t : Nat} (he : ∀ b o, c.h.get? b = some o -> h'.get? b = some o) (hz : c.sz <= h'.objs.size) : Le M c ⟨c.G, c.β, { c.s with heap := h', toks := t }⟩ :=
 ⟨fun Z Z h => h, fun Z h Z Z => h, ⟨[], by simp, fun Z h => nomatch h⟩, fun b o h Z Z => ⟨o, he b o h, .refl o⟩, hz, rfl⟩
theorem sim_ext {c : St} {h' : Heap} {t : Nat} (s : Sim B σ c) (he : ∀ b o, c.h.get? b = some o -> h'.get? b = some o) (hz : c.sz <= h'.objs.size) : Sim B σ ⟨c.G, c.β, { c.s with heap := h', toks := t }⟩ :=
 ⟨s.base, fun b o h => he b o (s.sub b o h), s.len, s.nodup, s.mods, fun a ha => Nat.lt_of_lt_of_le (s.low a ha) hz, s.off, fun i a y e1 e2 => (s.cells i a y e1 e2).mono (fun Z Z h => h) (fun Z Z h => h) (fun b o h => he b o (s.sub b o h)) fun o h => he _ o h⟩
theorem extBut_all {h h' : Heap} (x : Heap.ExtBut h.objs.size h h') : ∀ b o, h.get? b = some o -> h'.get? b = some o := fun b o e => x b o (Nat.ne_of_lt (Heap.lt_size e)) e
noncomputable def nameOf : Expr -> Option Str
 | .Name x _ => some x
 | _ => none
noncomputable def namesOf : List Expr -> List Str
 | [] => []
 | e :: r => match nameOf e with
  | some x => x :: namesOf r
  | none => []
theorem namesE : namesOf [] = [] /\ ∀ x q r, namesOf (.Name x q :: r) = x :: namesOf r := ⟨rfl, fun Z Z Z => rfl⟩
theorem names_inv {e : Expr} {r : List Expr} (h : (namesOf (e :: r)).length = (e :: r).length) : (∃ x q, e = .Name x q) /\ (namesOf r).length = r.length := by
 cases e with
 | Name x q => exact ⟨⟨x, q, rfl⟩, Nat.succ.inj h⟩
 | _ => cases h
theorem names_shape {es : List Expr} (hl : (namesOf es).length = es.length) {i : Nat} {x : Str} (hi : (namesOf es)[i]? = some x) : ∃ q, es[i]? = some (Expr.Name x q) := by
 induction es generalizing i with
 | nil => cases hi
 | cons e es ih =>
  obtain ⟨⟨y, q, rfl⟩, hl'⟩ := names_inv hl
  cases i with
  | zero => cases hi; exact ⟨q, rfl⟩
  | succ i => exact ih hl' hi
theorem names_each {es : List Expr} {env : Env} (hl : (namesOf es).length = es.length) : assignEach es env = es.map fun e => (false, PySem.assign e env) := by
 induction es with
 | nil => rfl
 | cons e es ih =>
  obtain ⟨⟨y, q, rfl⟩, hl'⟩ := names_inv hl
  exact congrArg _ (ih hl')
theorem St1.unpack {elts : List Expr} {k : Nat} {p pos : Pos} {value : Expr} {ds : List D} (h : Ev value (.tup ds) B gl n ρ σ σ') (up : VarUps ρ (namesOf elts) ds ρ') (hl : (namesOf elts).length = elts.length := by rfl) (hd : elts.length = ds.length := by rfl) (hnd : (namesOf elts).Nodup := by decide)
  (hw : ∀ env : Env, env.scope.kind = .function -> swappedStores [.Tuple elts k p] value env = pure none \/ swappedStores [.Tuple elts k p] value env = pure (some (namesOf elts)) := by intro _ _; exact .inl rfl)
  (hs : ∀ env, swapsWithSole [.Tuple elts k p] value pos.line env = pure false := by intro _; rfl) :
  St1 (.Assign [.Tuple elts k p] value pos) B gl n ρ ρ' σ σ' := by
 intro A env c al st ok fr E Q kq
 have hnone : ((elts.map fun e => (false, PySem.assign e env)).findIdx? (fun x => x.1)) = none := by
  rw [List.findIdx?_eq_none_iff]; intro x hx2; obtain ⟨e, _, rfl⟩ := List.mem_map.mp hx2; rfl
 rcases hw env fr.fn with hw | hw
 ·refine PyProof.Rows.Assign_Tuple (h A env c ok fr _ _ fun v c1 l1 s1 r1 => ?_) (hs env) hw
  refine x2_3 (rep_isTuple s1 r1) fun a vs Q ht rv => ?_; subst Q
  have hlen : vs.length = elts.length := by rw [rv.length, hd]
  show wpAny _ A (do standAt p; PySem.unpack (.ref a) (assignEach elts env)) _ _ _
  refine wpAny_bind (wpAny_standAt ?_)
  unfold PySem.unpack
  rw [names_each hl, hnone]
  have hlen' : (elts.map fun e => (false, PySem.assign e env)).length = vs.toArray.size := by simp [hlen]
  rw [hlen']
  refine wpAny_bind (wpAny_holding (wpAny_size ?_))
  refine wpAny_unpackItems_tuple ok.hnd ht fun h' hex hz => ?_
  have hall := extBut_all hex
  have l2 : Le [] c1 ⟨c1.G, c1.β, { c1.s with heap := h' }⟩ := le_ext (t := c1.s.toks) hall hz
  have s2 : Sim B σ' ⟨c1.G, c1.β, { c1.s with heap := h' }⟩ := sim_ext (t := c1.s.toks) s1 hall hz
  refine stores_ok (c := ⟨c1.G, c1.β, { c1.s with heap := h' }⟩) ((fr.step l1).step l2) s2 st up (l2.repAll rv) (fun i x v c' E' Q' hi => ?_) fun c3 l3 s3 fr3 => kq c3 ((le_mut (l1.trans l2)).trans l3) s3 fr3
  refine x1_1 (names_shape hl hi) fun q hq => ?_
  exact ⟨fun v => PySem.assign (.Name x q) env v, by simp [hq], fun hh => wpAny_assign_Name hh⟩
 ·refine PyProof.Rows.Assign_Tuple_swapped (h A env c ok fr _ _ fun v c1 l1 s1 r1 => ?_) (hs env) hw
  refine x2_3 (rep_isTuple s1 r1) fun a vs Q ht rv => ?_; subst Q
  have hlen : vs.length = elts.length := by rw [rv.length, hd]
  have hlen' : (namesOf elts).length = vs.toArray.size := by simp [hlen, hl]
  rw [hlen']
  refine wpAny_size ?_
  refine wpAny_unpackItems_tuple ok.hnd ht fun h' hex hz => ?_
  have hall := extBut_all hex
  have l2 : Le [] c1 ⟨c1.G, c1.β, { c1.s with heap := h' }⟩ := le_ext (t := c1.s.toks) hall hz
  have s2 : Sim B σ' ⟨c1.G, c1.β, { c1.s with heap := h' }⟩ := sim_ext (t := c1.s.toks) s1 hall hz
  refine stores_ok (c := ⟨c1.G, c1.β, { c1.s with heap := h' }⟩) ((fr.step l1).step l2) s2 st (up.rev hnd) ?_ (fun i x v c' E' Q' hi => ?_) fun c3 l3 s3 fr3 => ?_
  ·show RepAll _ _ (vs.toArray.toList.reverse) _
   exact (l2.repAll rv).reverse
  ·exact ⟨fun v => bindName env x v, by rw [List.getElem?_map, hi]; rfl, fun hh => wpAny_bindName hh⟩
  ·exact kq c3 ((le_mut (l1.trans l2)).trans l3) s3 fr3
theorem or_ite {α : Type} {c : Prop} [Decidable c] {a b x y : α} (h : a = x) (k : ¬c -> b = x \/ b = y) : (if c then a else b) = x \/ (if c then a else b) = y := by
 by_cases q : c
 ·rw [if_pos q]; exact .inl h
 ·rw [if_neg q]; exact k q
theorem or_ite' {α : Type} {c : Prop} [Decidable c] {a b x y : α} (h : a = x) (k : b = y) : (if c then a else b) = x \/ (if c then a else b) = y := by
 by_cases q : c
 ·rw [if_pos q]; exact .inl h
 ·rw [if_neg q]; exact .inr k
theorem swapped_or {ts vs : List Expr} {k k' : Nat} {p p' : Pos} (hl : (namesOf ts).length = ts.length) (hc : vs.all (constantsAlone 8) = false) (env : Env) (hk : env.scope.kind = .function) :
  swappedStores [.Tuple ts k p] (.Tuple vs k' p') env = pure none \/ swappedStores [.Tuple ts k p] (.Tuple vs k' p') env = pure (some (namesOf ts)) := by
 have fm : ∀ (f : Expr -> Option Str), (∀ x q, f (.Name x q) = some x \/ f (.Name x q) = none) -> ∀ {es : List Expr}, (namesOf es).length = es.length -> (es.filterMap f).length = es.length -> es.filterMap f = namesOf es := by
  intro f hf es
  induction es with
  | nil => intro _ _; rfl
  | cons e es ih =>
   intro h1 h2
   obtain ⟨⟨x, q, rfl⟩, h1'⟩ := names_inv h1
   rcases hf x q with e | e
   ·rw [List.filterMap_cons, e] at h2 ⊢
    rw [ih h1' (Nat.succ.inj h2)]; rfl
   ·rw [List.filterMap_cons, e] at h2
    exact absurd (h2 ▸ List.length_filterMap_le f es) (Nat.not_succ_le_self _)
 refine or_ite rfl fun Z => or_ite rfl fun Z => or_ite rfl fun hne => or_ite rfl fun Z => .inr ?_
 have hne := bne_eq_false_iff_eq.mp (Bool.or_eq_false_iff.mp (Bool.eq_false_iff.mpr hne)).1
 refine (if_neg (by rw [hc]; decide)).trans (congrArg (fun l => (pure (some l) : Sem (Option (List Str)))) (fm _ (fun x q => ?_) hl hne))
 exact or_ite' rfl rfl
end
end
section
structure Priv (I : Addr) (c : St) : Prop where
 g : c.G I = none
 b : I ∉ c.β
 low : I < c.sz
section
variable {B : Bs} {σ σ' : Sto} {c c' : St} {I : Addr} {A : Around} {E : Want Value} {M : List Addr} {d : D} {ds : List D}
theorem Priv.le (x : Priv I c) (l : Le M c c') : Priv I c' := ⟨l.gn I x.g x.low x.b, l.notin x.low x.b, Nat.lt_of_lt_of_le x.low l.size⟩
theorem Priv.push (s : Sim B σ c) (o : Obj) : Priv c.sz ⟨c.G, c.β, { c.s with heap := c.s.heap.push o }⟩ :=
 ⟨s.gnone (Nat.le_refl _), fun h => absurd (s.low _ h) (Nat.lt_irrefl _), by show c.sz < (c.s.heap.push o).objs.size; rw [Heap.size_push]; exact Nat.lt_succ_self _⟩
theorem le_push (M : List Addr) (c : St) (o : Obj) : Le M c ⟨c.G, c.β, { c.s with heap := c.s.heap.push o }⟩ :=
 le_ext (t := c.s.toks) (fun Z Z h => Heap.get?_push_of_some _ h) (by rw [Heap.size_push]; exact Nat.le_succ _)
theorem sim_push (s : Sim B σ c) (o : Obj) : Sim B σ ⟨c.G, c.β, { c.s with heap := c.s.heap.push o }⟩ :=
 sim_ext (t := c.s.toks) s (fun Z Z h => Heap.get?_push_of_some _ h) (by rw [Heap.size_push]; exact Nat.le_succ _)
theorem le_extBut {h' : Heap} {t : Nat} (he : Heap.ExtBut I c.h h') (hz : c.sz <= h'.objs.size) (hM : I ∈ M) : Le M c ⟨c.G, c.β, { c.s with heap := h', toks := t }⟩ :=
 ⟨fun Z Z h => h, fun Z h Z Z => h, ⟨[], by simp, fun Z h => nomatch h⟩, fun b o h Z hb => ⟨o, he b o (fun e => hb (e ▸ hM)) h, .refl o⟩, hz, rfl⟩
theorem sim_extBut {h' : Heap} {t : Nat} (s : Sim B σ c) (he : Heap.ExtBut I c.h h') (hz : c.sz <= h'.objs.size) (h1 : c.G I = none) (h2 : I ∉ c.β) : Sim B σ ⟨c.G, c.β, { c.s with heap := h', toks := t }⟩ := by
 have hG : ∀ b o, c.G b = some o -> h'.get? b = some o := fun b o h => he b o (fun e => by rw [e, h1] at h; cases h) (s.sub b o h)
 exact ⟨s.base, hG, s.len, s.nodup, s.mods, fun a ha => Nat.lt_of_lt_of_le (s.low a ha) hz, s.off, fun i a y e1 e2 => (s.cells i a y e1 e2).mono (fun Z Z h => h) (fun Z Z h => h) hG fun o h => he a o (fun e => h2 (e ▸ List.mem_of_getElem? e1)) h⟩
inductive ItAt (I : Addr) (c : St) : List D -> Prop
 | tup {a : Addr} {o : Obj} {vs : List Value} {n i : Nat} {ds : List D} : c.h.IsTupleIter I a i -> c.G a = some o -> o.cls = .type "tuple" -> o.data = .seq vs.toArray n -> RepAll c.G c.β (vs.drop i) ds -> ItAt I c ds
 | lst {a : Addr} {o : Obj} {vs : List Value} {n i : Nat} {ds : List D} : c.h.IsListIter I a i -> c.G a = some o -> o.cls = .type "list" -> o.data = .seq vs.toArray n -> RepAll c.G c.β (vs.drop i) ds -> ItAt I c ds
 | byt {b : List UInt8} {t : Tok} {i : Nat} {ds : List D} : KBw.IsBytesIter c.h I b.toArray t i -> ds = ((b.drop i).map fun x => D.int x.toNat) -> ItAt I c ds
 | rng {x left step : Int} {ds : List D} : IsRangeIter c.h I x left step -> ds = ((List.range left.toNat).map fun (k : Nat) => D.int (x + step * (k : Int))) -> ItAt I c ds
theorem kept_data {o o' : Obj} (k : Kept o o') (h : ¬ IsDict o) : o' = o := by
 rcases k with h' | ⟨h', _⟩
 ·exact h'
 ·exact absurd h' h
theorem ItAt.le (x : ItAt I c ds) (p : Priv I c) (l : Le M c c') (hM : I ∉ M) : ItAt I c' ds := by
 have kp : ∀ {o : Obj}, c.h.get? I = some o -> ¬ IsDict o -> c'.h.get? I = some o := fun {o} h1 h2 => by
  refine x1_2 (l.keep I o h1 p.b hM) fun o' e k => ?_
  rw [e, kept_data k h2]
 cases x with
 | tup h1 h2 h3 h4 h5 => obtain ⟨o, e1, e2, e3⟩ := h1; exact .tup ⟨o, kp e1 (by rintro ⟨es, ep, q⟩; simp_all), e2, e3⟩ (l.g _ _ h2) h3 h4 (l.repAll h5)
 | lst h1 h2 h3 h4 h5 => obtain ⟨o, e1, e2, e3⟩ := h1; exact .lst ⟨o, kp e1 (by rintro ⟨es, ep, q⟩; simp_all), e2, e3⟩ (l.g _ _ h2) h3 h4 (l.repAll h5)
 | byt h1 h2 => obtain ⟨o, e1, e2, e3⟩ := h1; exact .byt ⟨o, kp e1 (by rintro ⟨es, ep, q⟩; simp_all), e2, e3⟩ h2
 | rng h1 h2 => exact .rng (kp h1 (by rintro ⟨es, ep, q⟩; cases q)) h2
theorem drop_cons {α : Type} {l : List α} {i : Nat} {x : α} {r : List α} (h : l.drop i = x :: r) : l[i]? = some x /\ l.drop (i + 1) = r := by
 have h1 : (l.drop i)[0]? = some x := by rw [h]; rfl
 rw [List.getElem?_drop] at h1
 refine ⟨h1, ?_⟩
 rw [<- List.drop_drop, h]; rfl
theorem it_next {Q : Want (Option Value)} (p : Priv I c) (s : Sim B σ c) (h : ItAt I c (d :: ds)) (k : ∀ v c', Le [I] c c' -> Sim B σ c' -> ItAt I c' ds -> Rep c'.G c'.β v d -> Q (some v) c'.s) :
  wpAny (model PG B.w) A (pyNext (.ref I)) Q E c.s := by
 cases h with
 | @tup a o vs n i _ h1 h2 h3 h4 h5 =>
  cases h6 : vs.drop i with
  | nil => rw [h6] at h5; cases h5
  | cons x r =>
   refine x0_2 (drop_cons h6) fun e1 e2 => ?_
   rw [h6] at h5
   cases h5 with | cons r1 r2 =>
   refine wpAny_pyNext_tuple_item h1 ⟨o, s.sub _ _ h2, h3, _, h4⟩ (by simpa using e1) fun h' hi hs => ?_
   exact k x ⟨c.G, c.β, { c.s with heap := h' }⟩ (le_sameBut (t := c.s.toks) hs (.head _)) (sim_sameBut (t := c.s.toks) s hs p.g p.b) (.tup hi h2 h3 h4 (by rw [e2]; exact r2)) r1
 | @lst a o vs n i _ h1 h2 h3 h4 h5 =>
  cases h6 : vs.drop i with
  | nil => rw [h6] at h5; cases h5
  | cons x r =>
   refine x0_2 (drop_cons h6) fun e1 e2 => ?_
   rw [h6] at h5
   cases h5 with | cons r1 r2 =>
   refine wpAny_pyNext_list_item h1 ⟨o, s.sub _ _ h2, h3, _, h4⟩ (by simpa using e1) fun h' hi hs => ?_
   exact k x ⟨c.G, c.β, { c.s with heap := h' }⟩ (le_sameBut (t := c.s.toks) hs (.head _)) (sim_sameBut (t := c.s.toks) s hs p.g p.b) (.lst hi h2 h3 h4 (by rw [e2]; exact r2)) r1
 | @byt b t i _ h1 h2 =>
  cases h6 : b.drop i with
  | nil => rw [h6] at h2; cases h2
  | cons x r =>
   refine x0_2 (drop_cons h6) fun e1 e2 => ?_
   rw [h6, List.map_cons] at h2
   cases h2
   refine KBw.next_item h1 (c := x) (by simpa using e1) fun h' hi hs => ?_
   exact k _ ⟨c.G, c.β, { c.s with heap := h', toks := c.s.toks + 1 }⟩ (le_sameBut hs (.head _)) (sim_sameBut s hs p.g p.b) (.byt hi (by rw [e2])) (.int _ _)
 | @rng x left step _ h1 h2 =>
  cases h6 : left.toNat with
  | zero => rw [h6] at h2; cases h2
  | succ m =>
   rw [h6, List.range_succ_eq_map, List.map_cons, List.map_map] at h2
   cases h2
   refine wpAny_pyNext_range_item h1 (by lia) fun h' hi hs => ?_
   refine k _ ⟨c.G, c.β, { c.s with heap := h', toks := c.s.toks + 1 }⟩ (le_sameBut hs (.head _)) (sim_sameBut s hs p.g p.b) (.rng hi ?_) ?_
   ·rw [show (left - 1).toNat = m by lia]
    refine List.map_congr_left fun k Z => ?_
    show D.int (x + step * ((k + 1 : Nat) : Int)) = _
    rw [Int.natCast_add, Int.mul_add, Int.natCast_one, Int.mul_one]
    congr 1; lia
   ·rw [show x + step * ((0 : Nat) : Int) = x by simp]; exact .int _ _
theorem it_end {Q : Want (Option Value)} (hh : A.handled = none) (p : Priv I c) (s : Sim B σ c) (h : ItAt I c []) (k : ∀ c', Le [I] c c' -> Sim B σ c' -> Q none c'.s) :
  wpAny (model PG B.w) A (pyNext (.ref I)) Q E c.s := by
 refine wpAny_size ?_
 have fin : ∀ h', Heap.ExtBut I c.s.heap h' -> (c.s.heap.objs.size <= ({ c.s with heap := h' } : Shared).heap.objs.size -> Q none { c.s with heap := h' }) := fun h' he hz =>
  k ⟨c.G, c.β, { c.s with heap := h' }⟩ (le_extBut (t := c.s.toks) he hz (.head _)) (sim_extBut (t := c.s.toks) s he hz p.g p.b)
 cases h with
 | @tup a o vs n i _ h1 h2 h3 h4 h5 =>
  have h6 : vs.drop i = [] := by cases h7 : vs.drop i with | nil => rfl | cons x r => rw [h7] at h5; cases h5
  exact wpAny_pyNext_tuple_end hh h1 ⟨o, s.sub _ _ h2, h3, _, h4⟩ (by have := List.drop_eq_nil_iff.mp h6; simpa using this) fin
 | @lst a o vs n i _ h1 h2 h3 h4 h5 =>
  have h6 : vs.drop i = [] := by cases h7 : vs.drop i with | nil => rfl | cons x r => rw [h7] at h5; cases h5
  exact wpAny_pyNext_list_end hh h1 ⟨o, s.sub _ _ h2, h3, _, h4⟩ (by have := List.drop_eq_nil_iff.mp h6; simpa using this) fin
 | @byt b t i _ h1 h2 =>
  have h6 : b.drop i = [] := by cases h7 : b.drop i with | nil => rfl | cons x r => rw [h7] at h2; cases h2
  exact KBw.next_end hh h1 (by have := List.drop_eq_nil_iff.mp h6; simpa using this) fin
 | @rng x left step _ h1 h2 =>
  have h6 : left.toNat = 0 := by cases h7 : left.toNat with | zero => rfl | succ m => rw [h7, List.range_succ_eq_map] at h2; cases h2
  exact wpAny_pyNext_range_end hh h1 (by lia) fin
theorem it_self {Q : Want Value} (h : ItAt I c ds) (k : Q (.ref I) c.s) : wpAny (model PG B.w) A (pyIter (.ref I)) Q E c.s := by
 cases h with
 | tup h1 => exact wpAny_pyIter_tupleiter h1 k
 | lst h1 => exact wpAny_pyIter_listiter h1 k
 | byt h1 => exact KBw.pyIter_self h1 k
 | rng h1 => exact wpAny_pyIter_rangeiter h1 k
theorem go_other {t : Expr} {v : Value} {o : Obj} {T : String} {Q : Want Unit} (h1 : c.s.heap.get? I = some o) (h2 : o.cls = .type T)
  (h3 : ["enumerate", "zip", "dict_itemiterator", "dict_reverseitemiterator", "odict_iterator", "itertools.zip_longest", "itertools.pairwise"].contains T = false) (k : Q () c.s) :
  wpAny (model PG B.w) A (letOwnedTupleGo t (.ref I) v) Q E c.s := by
 have main : wpAny (model PG B.w) A (do
  let (.ref r, .ref a) := ((Value.ref I, v) : Value × Value) | return
  let o <- load r
  match o.cls, o.data with
  | .type n, .fields vs =>
   if ["enumerate", "zip", "dict_itemiterator", "dict_reverseitemiterator", "odict_iterator", "itertools.zip_longest", "itertools.pairwise"].contains n && vs[0]? == some (rawInt a) then
    rule "for.unpacks-the-owned-tuple"
    updateField r 0 .none
  | _, _ => pure ()) Q E c.s := by
  cases v with
  | ref a =>
   refine wpAny_bind (wpAny_load h1 ?_)
   rw [h2]
   cases o.data with
   | fields vs =>
    show wpAny _ A (if (["enumerate", "zip", "dict_itemiterator", "dict_reverseitemiterator", "odict_iterator", "itertools.zip_longest", "itertools.pairwise"].contains T && vs[0]? == some (rawInt a)) = true then _ else _) Q E c.s
    rw [h3, Bool.false_and, if_neg (by decide)]
    exact wpAny_pure k
   | _ => exact wpAny_pure k
  | _ => exact wpAny_pure k
 unfold letOwnedTupleGo
 cases t <;> first | exact main | exact wpAny_pure k
theorem it_go {t : Expr} {v : Value} {Q : Want Unit} (h : ItAt I c ds) (k : Q () c.s) : wpAny (model PG B.w) A (letOwnedTupleGo t (.ref I) v) Q E c.s := by
 cases h with
 | tup h1 => obtain ⟨o, e1, e2, e3⟩ := h1; exact go_other e1 e2 (by decide) k
 | lst h1 => obtain ⟨o, e1, e2, e3⟩ := h1; exact go_other e1 e2 (by decide) k
 | byt h1 => obtain ⟨o, e1, e2, e3⟩ := h1; exact go_other e1 e2 (by decide) k
 | rng h1 => exact go_other h1 rfl (by decide) k
end
end
section
noncomputable def Tgt (t : Expr) (d : D) (B : Bs) (gl : Gl) (ρ ρ' : Loc) : Prop :=
 ∀ (A : Around) (env : Env) (c : St) (v : Value) (σ : Sto), A.handled = none -> Stores env ρ -> Sim B σ c -> Frm env gl ρ c -> Rep c.G c.β v d -> ∀ (E : Want Value) (Q : Want Unit), (∀ c', Le (mutA env) c c' -> Sim B σ c' -> Frm env gl ρ' c' -> Stores env ρ' -> Q () c'.s) ->
  wpAny (model PG B.w) A (PySem.assign t env v) Q E c.s
noncomputable def EvI (e : Expr) (ds : List D) (B : Bs) (gl : Gl) (n : Nat) (ρ : Loc) (σ σ' : Sto) : Prop :=
 ∀ (A : Around) (env : Env) (c : St), Ok B A n σ c -> Frm env gl ρ c -> ∀ (E Q : Want Value), (∀ I c', Le [] c c' -> Sim B σ' c' -> Priv I c' -> c.sz <= I -> ItAt I c' ds -> Q (.ref I) c'.s) ->
  wpAny (model PG B.w) A (eval e env) (fun x s₁ => wpAny (model PG B.w) A (pyIter x) Q E s₁) E c.s
inductive Its : D -> List D -> Prop
 | tup {ds : List D} : Its (.tup ds) ds
 | lst {ds : List D} : Its (.lst ds) ds
 | byt {b : List UInt8} : Its (.bytes b) (b.map fun x => .int x.toNat)
noncomputable def StX (s : Stmt) (fl : Fl) (B : Bs) (gl : Gl) (n : Nat) (ρ ρ' : Loc) (σ σ' : Sto) : Prop :=
 ∀ (A : Around) (env : Env) (c : St), Alone A env -> Stores env ρ -> Ok B A n σ c -> Frm env gl ρ c -> ∀ (E : Want Value) (Q : Want Flow), (∀ f c', Le (mutA env) c c' -> Sim B σ' c' -> FlowRel env gl ρ' c' f fl -> Q f c'.s) -> wpAny (model PG B.w) A (exec s env) Q E c.s
section
variable {B : Bs} {gl : Gl} {n m : Nat} {ρ ρ' ρ'' ρ1 ρ2 : Loc} {σ σ' σ'' σ1 σ2 σ3 : Sto} {rest : List Stmt} {fl : Fl}
theorem St1.of {s : Stmt} (h : StX s .next B gl n ρ ρ' σ σ') : St1 s B gl n ρ ρ' σ σ' := fun A env c al st ok fr E Q k =>
 h A env c al st ok fr E Q fun f c' l s r => by obtain ⟨rfl, a, b⟩ := r; exact k c' l s a b
theorem Ex.last {s : Stmt} {d : D} (h : StX s (.ret d) B gl n ρ ρ' σ σ') : Ex (s :: rest) (.ret d) B gl n ρ ρ' σ σ' := fun A env c al st ok fr E Q k =>
 wpAny_execs_cons (h A env c al st ok fr E _ fun f c' l s r => by
  refine x1_2 r fun v Q r' => ?_; clear r; subst Q
  exact k _ c' l s ⟨v, rfl, r'⟩)
theorem tgt_tup {M : List Addr} {elts : List Expr} {k : Nat} {p : Pos} {ds : List D} {A : Around} {env : Env} {c : St} {v : Value} (hh : A.handled = none) (up : VarUps ρ (namesOf elts) ds ρ') (stm : ∀ x ∈ namesOf elts, StoresM env M x) (hl : (namesOf elts).length = elts.length) (hd : elts.length = ds.length)
  (s1 : Sim B σ c) (fr : Frm env gl ρ c) (r1 : Rep c.G c.β v (.tup ds)) {E : Want Value} {Q : Want Unit} (kq : ∀ c', Le M c c' -> Sim B σ c' -> Frm env gl ρ' c' -> Q () c'.s) : wpAny (model PG B.w) A (PySem.assign (.Tuple elts k p) env v) Q E c.s := by
 have hnone : ((elts.map fun e => (false, PySem.assign e env)).findIdx? (fun x => x.1)) = none := by
  rw [List.findIdx?_eq_none_iff]; intro x hx2; obtain ⟨e, _, rfl⟩ := List.mem_map.mp hx2; rfl
 refine x2_3 (rep_isTuple s1 r1) fun a vs Q ht rv => ?_; subst Q
 have hlen : vs.length = elts.length := by rw [rv.length, hd]
 show wpAny _ A (do standAt p; PySem.unpack (.ref a) (assignEach elts env)) _ _ _
 refine wpAny_bind (wpAny_standAt ?_)
 unfold PySem.unpack
 rw [names_each hl, hnone]
 have hlen' : (elts.map fun e => (false, PySem.assign e env)).length = vs.toArray.size := by simp [hlen]
 rw [hlen']
 refine wpAny_bind (wpAny_holding (wpAny_size ?_))
 refine wpAny_unpackItems_tuple hh ht fun h' hex hz => ?_
 have hall := extBut_all hex
 have l2 : Le [] c ⟨c.G, c.β, { c.s with heap := h' }⟩ := le_ext (t := c.s.toks) hall hz
 have s2 : Sim B σ ⟨c.G, c.β, { c.s with heap := h' }⟩ := sim_ext (t := c.s.toks) s1 hall hz
 refine stores_gen (c := ⟨c.G, c.β, { c.s with heap := h' }⟩) (fr.step l2) s2 stm up (l2.repAll rv) (fun i x v c' E' Q' hi => ?_) fun c3 l3 s3 fr3 => kq c3 ((l2.weaken fun Z h => nomatch h).trans l3) s3 fr3
 refine x1_1 (names_shape hl hi) fun q hq => ?_
 exact ⟨fun v => PySem.assign (.Name x q) env v, by simp [hq], fun hh => wpAny_assign_Name hh⟩
theorem Tgt.name {x : Str} {p : Pos} {d : D} (up : VarUp ρ x d ρ') : Tgt (.Name x p) d B gl ρ ρ' := fun A env c v σ hh st s fr r E Q k =>
 wpAny_assign_Name (store_ok fr s st up r fun c' l s' fr' => k c' l s' fr' (st.up up))
theorem Tgt.tup {elts : List Expr} {k : Nat} {p : Pos} {ds : List D} (up : VarUps ρ (namesOf elts) ds ρ') (hl : (namesOf elts).length = elts.length := by rfl) (hd : elts.length = ds.length := by rfl) : Tgt (.Tuple elts k p) (.tup ds) B gl ρ ρ' :=
 fun A env c v σ hh st s1 fr r1 E Q kq => tgt_tup hh up (fun x hx => by obtain ⟨p, hp, rfl⟩ := up.here x hx; exact st.m hp) hl hd s1 fr r1 fun c' l s fr => kq c' l s fr (st.ups up)
noncomputable def TgtL (t : Expr) (d : D) (B : Bs) (gl : Gl) (ρ ρ' : Loc) : Prop :=
 ∀ (A : Around) (env : Env) (c : St) (v : Value) (σ : Sto), A.handled = none -> Sim B σ c -> Frm env gl ρ c -> Rep c.G c.β v d -> ∀ (E : Want Value) (Q : Want Unit), (∀ c', Le [env.locals] c c' -> Sim B σ c' -> Frm env gl ρ' c' -> Q () c'.s) ->
  wpAny (model PG B.w) A (PySem.assign t env v) Q E c.s
theorem kind_gl {env : Env} {c : St} {x : Str} {k : NameKind} (fr : Frm env gl ρ c) (h : gl.lookup x = some k) : env.kindOf x = some k := by
 show env.scope.names.lookup x = _
 rw [fr.gls]; exact h
theorem TgtL.name {x : Str} {p : Pos} {d : D} (up : VarUp ρ x d ρ') (hx : gl.lookup x = some .local := by rfl) : TgtL (.Name x p) d B gl ρ ρ' := fun A env c v σ hh s fr r E Q k =>
 wpAny_assign_Name (store_gen fr s (.inl ⟨kind_gl fr hx, .head _⟩) up r k)
theorem TgtL.tup {elts : List Expr} {k : Nat} {p : Pos} {ds : List D} (up : VarUps ρ (namesOf elts) ds ρ') (hl : (namesOf elts).length = elts.length := by rfl) (hd : elts.length = ds.length := by rfl) (hx : ∀ x ∈ namesOf elts, gl.lookup x = some .local := by decide) : TgtL (.Tuple elts k p) (.tup ds) B gl ρ ρ' :=
 fun A env c v σ hh s1 fr r1 E Q kq => tgt_tup hh up (fun x h => .inl ⟨kind_gl fr (hx x h), .head _⟩) hl hd s1 fr r1 kq
theorem it_of {A : Around} {c : St} {d : D} {ds : List D} {v : Value} {E Q : Want Value} (s : Sim B σ c) (h : Its d ds) (r : Rep c.G c.β v d)
  (k : ∀ I c', Le [] c c' -> Sim B σ c' -> Priv I c' -> c.sz <= I -> ItAt I c' ds -> Q (.ref I) c'.s) : wpAny (model PG B.w) A (pyIter v) Q E c.s := by
 cases h with
 | tup =>
  cases r with
  | @tup a o vs n h1 h2 h3 h4 =>
  refine wpAny_pyIter_tuple ⟨o, s.sub _ _ h1, h2, _, h3⟩ ?_
  have l := le_push [] c { cls := .type "tuple_iterator", data := .fields #[.ref a, .int 0 0] }
  exact k c.sz _ l (sim_push s _) (.push s _) (Nat.le_refl _) (.tup (i := 0) ⟨_, Heap.get?_push_size _ rfl, rfl, rfl⟩ h1 h2 h3 h4)
 | lst =>
  cases r with
  | @lst a o vs n h1 h2 h3 h4 =>
  refine wpAny_pyIter_list ⟨o, s.sub _ _ h1, h2, _, h3⟩ ?_
  have l := le_push [] c { cls := .type "list_iterator", data := .fields #[.ref a, .int 0 0] }
  exact k c.sz _ l (sim_push s _) (.push s _) (Nat.le_refl _) (.lst (i := 0) ⟨_, Heap.get?_push_size _ rfl, rfl, rfl⟩ h1 h2 h3 h4)
 | @byt b =>
  cases r with
  | bytes _ t =>
  refine KBw.pyIter_bytes ?_
  have l := le_push [] c { cls := .type "bytes_iterator", data := .fields #[.bytes b.toArray t, .int 0 0] }
  exact k c.sz _ l (sim_push s _) (.push s _) (Nat.le_refl _) (.byt (i := 0) ⟨_, Heap.get?_push_size _ rfl, rfl, rfl⟩ rfl)
theorem EvI.val {e : Expr} {d : D} {ds : List D} (h : Ev e d B gl n ρ σ σ') (hi : Its d ds) : EvI e ds B gl n ρ σ σ' := fun A env c ok fr E Q k =>
 h A env c ok fr E _ fun v c1 l1 s1 r1 => it_of s1 hi r1 fun I c2 l2 s2 p hI it => k I c2 (l1.trans l2) s2 p (Nat.le_trans l1.size hI) it
inductive ForL (t : Expr) (body : List Stmt) (B : Bs) (gl : Gl) (n : Nat) : List D -> Fl -> Loc -> Loc -> Sto -> Sto -> Prop
 | nil {ρ : Loc} {σ : Sto} : ForL t body B gl n [] .next ρ ρ σ σ
 | step {d : D} {ds : List D} {fl : Fl} {ρ ρ1 ρ2 ρ' : Loc} {σ σ1 σ' : Sto} : Tgt t d B gl ρ ρ1 -> Ex body .next B gl n ρ1 ρ2 σ σ1 -> ForL t body B gl n ds fl ρ2 ρ' σ1 σ' -> ForL t body B gl n (d :: ds) fl ρ ρ' σ σ'
 | ret {d r : D} {ds : List D} {ρ ρ1 ρ' : Loc} {σ σ' : Sto} : Tgt t d B gl ρ ρ1 -> Ex body (.ret r) B gl n ρ1 ρ' σ σ' -> ForL t body B gl n (d :: ds) (.ret r) ρ ρ' σ σ'
theorem al_ne {A : Around} {env : Env} {I : Addr} (h : I ∉ mutA env) : ∀ b ∈ mutA env, b ∉ [I] := fun b hb hm => h (by rw [List.mem_singleton] at hm; exact hm ▸ hb)
inductive ForI (t : Expr) (body : List Stmt) (B : Bs) (gl : Gl) (n : Nat) (env : Env) (fl : Fl) (ρ' : Loc) (σ' : Sto) (I : Addr) (c1 : St) : Nat -> Shared -> Prop
 | mk {c2 : St} {ds : List D} {ρ1 : Loc} {σ2 : Sto} : Le (I :: mutA env) c1 c2 -> Sim B σ2 c2 -> Frm env gl ρ1 c2 -> Stores env ρ1 -> Priv I c2 -> ItAt I c2 ds -> ForL t body B gl n ds fl ρ1 ρ' σ2 σ' -> ForI t body B gl n env fl ρ' σ' I c1 ds.length c2.s
theorem StX.for_ {t iter : Expr} {body : List Stmt} {pos : Pos} {ds : List D} (hi : EvI iter ds B gl n ρ σ σ1) (hf : ForL t body B gl n ds fl ρ ρ' σ1 σ') (hs : ∀ env x, foldedSetIterable iter env x = pure x := by intro _ _; rfl) :
  StX (.For t iter body [] pos) fl B gl n ρ ρ' σ σ' := by
 intro A env c al st ok fr E Q k
 refine wpAny_For (hi A env c ok fr _ _ fun I c1 l1 s1 p1 hI it1 => ?_) (hs env)
 have hIm : I ∉ mutA env := fun hm => absurd (fr.off I hm).2.2 (Nat.not_lt.mpr hI)
 refine codeAny_forLoop_any (ForI t body B gl n env fl ρ' σ' I c1) ?_ ds.length (.mk (.refl _ _) s1 (fr.step l1) st p1 it1 hf)
 rintro m _ @⟨c2, ds, ρ1, σ2, l2, s2, fr2, st2, p2, it2, hf⟩
 have up : ∀ {c3 : St} {M : List Addr}, (∀ a ∈ M, a ∈ I :: mutA env) -> Le M c2 c3 -> Le (I :: mutA env) c1 c3 := fun hM l => l2.trans (l.weaken hM)
 have out : ∀ {c3 : St}, Le (I :: mutA env) c1 c3 -> Le (mutA env) c c3 := fun l => ((l1.weaken fun Z h => nomatch h).trans l).weaken_new fun a ha => by
  rcases List.mem_cons.mp ha with rfl | ha
  ·exact .inr hI
  ·exact .inl ha
 have one : ∀ a ∈ [I], a ∈ I :: mutA env := fun a ha => by rw [List.mem_singleton.mp ha]; exact .head _
 cases hf with
 | nil =>
  refine it_end ok.hnd p2 s2 it2 fun c3 l3 s3 => wpAny_execs_nil ?_
  exact k _ c3 (out (up one l3)) s3 ⟨rfl, fr2.mono l3 (al_ne (A := A) hIm), st2⟩
 | @step d ds _ _ ρa ρb _ _ σa _ tg ex hf =>
  refine it_next p2 s2 it2 fun v c3 l3 s3 it3 r3 => it_go it3 ?_
  refine tg A env c3 v σ2 ok.hnd st2 s3 (fr2.mono l3 (al_ne (A := A) hIm)) r3 _ _ fun c4 l4 s4 fr4 st4 => ?_
  have l14 := (up one l3).trans (l4.weaken fun Z h => .tail I h)
  have ok4 : Ok B A n σ2 c4 := ok.frame al (out l14) s4 fr4.ns
  refine ex A env c4 al st4 ok4 fr4 _ _ fun f c5 l5 s5 fr5 => ?_
  obtain ⟨rfl, fr5, st5⟩ := fr5
  have l15 := l14.trans (l5.weaken fun Z h => .tail I h)
  exact ⟨ds.length, Nat.lt_succ_self _, .mk l15 s5 fr5 st5 (((p2.le l3).le l4).le l5) ((it3.le (p2.le l3) l4 hIm).le ((p2.le l3).le l4) l5 hIm) hf⟩
 | @ret d r ds _ ρa _ _ _ tg ex =>
  refine it_next p2 s2 it2 fun v c3 l3 s3 it3 r3 => it_go it3 ?_
  refine tg A env c3 v σ2 ok.hnd st2 s3 (fr2.mono l3 (al_ne (A := A) hIm)) r3 _ _ fun c4 l4 s4 fr4 st4 => ?_
  have l14 := (up one l3).trans (l4.weaken fun Z h => .tail I h)
  have ok4 : Ok B A n σ2 c4 := ok.frame al (out l14) s4 fr4.ns
  refine ex A env c4 al st4 ok4 fr4 _ _ fun f c5 l5 s5 fr5 => ?_
  refine x1_2 fr5 fun v5 Q r5 => ?_; clear fr5; subst Q
  have l15 := l14.trans (l5.weaken fun Z h => .tail I h)
  exact k _ c5 (out l15) s5 ⟨v5, rfl, r5⟩
inductive Wh (test : Expr) (body : List Stmt) (B : Bs) (gl : Gl) (n : Nat) : Nat -> Fl -> Loc -> Loc -> Sto -> Sto -> Prop
 | done {ρ : Loc} {σ σ' : Sto} : EvT test false B gl n ρ σ σ' -> Wh test body B gl n 0 .next ρ ρ σ σ'
 | step {k : Nat} {fl : Fl} {ρ ρ1 ρ' : Loc} {σ σ1 σ2 σ' : Sto} : EvT test true B gl n ρ σ σ1 -> Ex body .next B gl n ρ ρ1 σ1 σ2 -> Wh test body B gl n k fl ρ1 ρ' σ2 σ' -> Wh test body B gl n (k + 1) fl ρ ρ' σ σ'
 | ret {k : Nat} {r : D} {ρ ρ' : Loc} {σ σ1 σ' : Sto} : EvT test true B gl n ρ σ σ1 -> Ex body (.ret r) B gl n ρ ρ' σ1 σ' -> Wh test body B gl n k (.ret r) ρ ρ' σ σ'
inductive WhI (test : Expr) (body : List Stmt) (B : Bs) (gl : Gl) (n : Nat) (env : Env) (fl : Fl) (ρ' : Loc) (σ' : Sto) (c : St) (k : Nat) : Shared -> Prop
 | mk {c2 : St} {ρ1 : Loc} {σ1 : Sto} : Le (mutA env) c c2 -> Sim B σ1 c2 -> Frm env gl ρ1 c2 -> Stores env ρ1 -> Wh test body B gl n k fl ρ1 ρ' σ1 σ' -> WhI test body B gl n env fl ρ' σ' c k c2.s
theorem StX.while_ {test : Expr} {body : List Stmt} {pos : Pos} {k : Nat} (hw : Wh test body B gl n k fl ρ ρ' σ σ') : StX (.While test body [] pos) fl B gl n ρ ρ' σ σ' := by
 intro A env c al st ok fr E Q kq
 refine wpAny_While (codeAny_whileLoop (WhI test body B gl n env fl ρ' σ' c) ?_ k (.mk (.refl _ _) ok.sim fr st hw))
 rintro k _ @⟨c2, ρ1, σ1, l2, s2, fr2, st2, hw⟩
 have ok2 : Ok B A n σ1 c2 := ok.frame al l2 s2 fr2.ns
 cases hw with
 | done h =>
  refine h A env c2 ok2 fr2 _ _ fun c3 l3 s3 => ?_
  rw [if_neg (by decide)]
  exact wpAny_execs_nil (kq _ c3 (l2.trans (le_mut l3)) s3 ⟨rfl, fr2.step l3, st2⟩)
 | step h ex hw =>
  refine h A env c2 ok2 fr2 _ _ fun c3 l3 s3 => ?_
  rw [if_pos rfl]
  refine ex A env c3 al st2 (ok2.step l3 s3) (fr2.step l3) _ _ fun f c4 l4 s4 r4 => ?_
  refine x0_3 r4 fun Q fr4 st4 => ?_; clear r4; subst Q
  exact ⟨_, Nat.lt_succ_self _, .mk ((l2.trans (le_mut l3)).trans l4) s4 fr4 st4 hw⟩
 | ret h ex =>
  refine h A env c2 ok2 fr2 _ _ fun c3 l3 s3 => ?_
  rw [if_pos rfl]
  refine ex A env c3 al st2 (ok2.step l3 s3) (fr2.step l3) _ _ fun f c4 l4 s4 r4 => ?_
  refine x1_2 r4 fun v Q r => ?_; clear r4; subst Q
  exact kq _ c4 ((l2.trans (le_mut l3)).trans l4) s4 ⟨v, rfl, r⟩
end
end
section
noncomputable def Clos (scope : Scope) (caps : List Str) : Prop := ∀ env : Env, (∀ x ∈ caps, ∃ a, env.cells.lookup x = some a) ->
 ∃ cl, closureFor scope env = pure cl /\ (∀ x ∈ caps, cl.lookup x = env.cells.lookup x) /\ (∀ x, x ∉ caps -> cl.lookup x = none) /\ (∀ p ∈ cl, ∃ x, env.cells.lookup x = some p.2) /\ cl.Pairwise fun x y => x.2 ≠ y.2
theorem Clos.none {scope : Scope} (h : (scope.names.all fun x => x.2 != .free) = true) : Clos scope [] := by
 intro env _
 refine ⟨[], closureFor_none fun x hx => ?_, ?_, fun Z Z => rfl, ?_, List.Pairwise.nil⟩
 ·have := List.all_eq_true.mp h x hx; simpa using this
 ·intro x h; cases h
 ·intro x h; cases h
theorem Clos.one {scope : Scope} {x : Str} (h : (scope.names.filter fun x => x.2 == .free).map (fun x => x.1) = [x]) : Clos scope [x] := fun env hx => by
 refine x1_1 (hx x (.head _)) fun a ha => ?_
 refine ⟨[(x, a)], ?_, fun y hy => by rw [List.mem_singleton.mp hy, ha]; simp, fun y hy => ?_, fun p hp => ⟨x, by rw [List.mem_singleton.mp hp, ha]⟩, by simp⟩
 ·simp only [closureFor]
  have go : ∀ (names : List (Str × NameKind)) (cs : List (Str × Addr)), (names.filter fun x => x.2 == .free).map (fun x => x.1) = [x] ->
    (forIn names cs fun (x : Str × NameKind) (r : List (Str × Addr)) => (if (x.2 == NameKind.free) = true then do let a <- cellOf env x.1; pure (ForInStep.yield ((x.1, a) :: r)) else pure (ForInStep.yield r) : Sem (ForInStep (List (Str × Addr))))) = (pure ((x, a) :: cs) : Sem _) := by
   intro names
   induction names with
   | nil => intro _ h; simp at h
   | cons p r ih =>
    intro cs h
    obtain ⟨y, k⟩ := p
    by_cases hk : (k == NameKind.free) = true
    ·rw [List.filter_cons, if_pos hk, List.map_cons] at h
     obtain ⟨e, e2⟩ := List.cons.inj h
     dsimp only at e
     subst e
     rw [List.forIn_cons, if_pos hk]
     simp only [cellOf, ha]
     show (forIn r ((y, a) :: cs) _ : Sem _) = _
     refine forIn_yield_id _ fun z hz c => ?_
     have : (z.2 == NameKind.free) = false := by
      have := List.map_eq_nil_iff.mp e2
      rw [List.filter_eq_nil_iff] at this
      simpa using this z hz
     rw [if_neg (by rw [this]; decide)]
    ·rw [List.filter_cons, if_neg hk] at h
     rw [List.forIn_cons, if_neg hk]
     exact ih cs h
  have := go scope.names [] h
  refine Eq.trans ?_ (congrArg (fun m : Sem (List (Str × Addr)) => m >>= fun cs => pure cs) this)
  rfl
 ·have hne : (y == x) = false := by simpa using hy
  rw [List.lookup_cons, hne]; rfl
noncomputable def relabelN (gl : Gl) (names : List (Str × NameKind)) : Gl := names.map fun (n, k) => if (k == .free && gl.lookup n == some .cell) then (n, .cell) else (n, k)
theorem relabel_names {scope : Scope} {env : Env} {gl : Gl} (h1 : env.scope.kind = .function) (h2 : env.scope.names = gl) : (relabel scope env).names = relabelN gl scope.names := by
 unfold relabel relabelN
 refine List.map_congr_left fun p Z => ?_
 obtain ⟨n, k⟩ := p
 have e : env.kindOf n = gl.lookup n := by rw [<- h2]; rfl
 simp only [h1, e]
 simp
structure CompOk (scope : Scope) (tgts caps : List Str) (gl gl' : Gl) : Prop where
 fn : scope.kind = .function
 names : ∀ x ∈ scope.names, x.2 = .local -> scope.names.lookup x.1 = some .local
 nocell : ∀ x ∈ scope.names, x.2 ≠ .cell
 gls : relabelN gl scope.names = gl'
 tgt : ∀ x ∈ tgts, gl'.lookup x = some .local
 cap : ∀ x ∈ caps, gl'.lookup x = some .cell /\ gl.lookup x = some .cell
 only : ∀ x ∈ gl', x.2 = .cell -> x.1 ∈ caps
 nd : (tgts ++ caps).Nodup
 dbg : ∀ x ∈ tgts ++ caps, (x == ("__debug__" : Str)) = false
 clos : Clos scope caps
noncomputable def compLoc (tgts : List Str) (caps : List (Str × D)) : Loc := tgts.map (fun x => (x, none)) ++ caps.map fun p => (p.1, some p.2)
inductive Tests (B : Bs) (gl : Gl) (n : Nat) : List Expr -> Bool -> Loc -> Sto -> Sto -> Prop
 | nil {ρ : Loc} {σ : Sto} : Tests B gl n [] true ρ σ σ
 | one {e : Expr} {b : Bool} {ρ : Loc} {σ σ' : Sto} : EvT e b B gl n ρ σ σ' -> Tests B gl n [e] b ρ σ σ'
inductive CompL (t : Expr) (ifs : List Expr) (elt : Expr) (B : Bs) (gl : Gl) (n : Nat) : List D -> List D -> Loc -> Sto -> Sto -> Prop
 | nil {ρ : Loc} {σ : Sto} : CompL t ifs elt B gl n [] [] ρ σ σ
 | keep {d e : D} {ds es : List D} {ρ ρ1 : Loc} {σ σ1 σ2 σ' : Sto} : TgtL t d B gl ρ ρ1 -> Tests B gl n ifs true ρ1 σ σ1 -> Ev elt e B gl n ρ1 σ1 σ2 -> CompL t ifs elt B gl n ds es ρ1 σ2 σ' -> CompL t ifs elt B gl n (d :: ds) (e :: es) ρ σ σ'
 | skip {d : D} {ds es : List D} {ρ ρ1 : Loc} {σ σ1 σ' : Sto} : TgtL t d B gl ρ ρ1 -> Tests B gl n ifs false ρ1 σ σ1 -> CompL t ifs elt B gl n ds es ρ1 σ1 σ' -> CompL t ifs elt B gl n (d :: ds) es ρ σ σ'
section
variable {prog : Program} {w : World} {A : Around} {R : Result -> Shared -> Prop} {s : Shared}
theorem compLoop_any {elt target iter : Expr} {ifs : List Expr} {scope : Scope} {pos : Pos} {it acc : Value} {env : Env} (I : Nat -> Shared -> Prop)
  (turn : ∀ n s (E : Want Value), I n s -> wpAny (model prog w) A (pyNext it) (fun r s₁ => match r with
   | none => R (.ok .next) s₁
   | some v => wpAny (model prog w) A (letOwnedTupleGo target it v) (fun Z s₁' => wpAny (model prog w) A (PySem.assign target env v) (fun Z s₂ =>
     wpAny (model prog w) A (forIn ifs true fun c r => if r = true then do let ok <- isTrue c env (eval c env); pure (ForInStep.yield ok) else pure (ForInStep.yield r)) (fun ok s₃ =>
      if ok = true then wpAny (model prog w) A (eval elt env) (fun x s₄ =>
       wpAny (model prog w) A (call (.builtin "list.append") [acc, x]) (fun Z s₅ => ∃ m, m < n /\ I m s₅) E s₄) E s₃
      else ∃ m, m < n /\ I m s₃) E s₂) E s₁') E s₁) E s)
  (n : Nat) (h : I n s) : codeAny (model prog w) A (.compLoop (.ListComp elt [⟨target, iter, ifs, 0⟩] scope pos) 0 it acc env) R s := by
 refine codeAny_loop rfl I (fun n s hI => ?_) n h
 show wpAny _ A ((compTurn (.ListComp elt [⟨target, iter, ifs, 0⟩] scope pos) 0 it acc env).onRaise (fun x => do noteFrame x env; theTreesLotGoes x)) _ _ s
 refine wpAny_noted ?_
 rw [compTurn_list]
 refine wpAny_bind (wpAny_standAt (wpAny_bind (wpAny_mono (turn n s _ hI) (fun r s₁ h₁ => ?_) fun Z Z h' => h')))
 cases r with
 | none => exact wpAny_pure h₁
 | some v =>
  refine wpAny_bind (wpAny_mono h₁ (fun Z s₁' h₁' => ?_) fun Z Z h' => h')
  refine wpAny_bind (wpAny_mono h₁' (fun Z s₂ h₂ => wpAny_bind (wpAny_mono h₂ (fun ok s₃ h₃ => ?_) fun Z Z h' => h')) fun Z Z h' => h')
  cases ok with
  | false => exact wpAny_pure ⟨rfl, h₃⟩
  | true =>
   exact wpAny_bind (wpAny_bind (wpAny_mono h₃ (fun x s₄ h₄ => wpAny_bind (wpAny_mono h₄ (fun Z s₅ h₅ => wpAny_pure (wpAny_pure ⟨rfl, h₅⟩)) fun Z Z h' => h')) fun Z Z h' => h'))
end
section
variable {B : Bs} {gl gl' : Gl} {n m : Nat} {ρ ρ' : Loc} {σ σ' σ1 σ2 : Sto}
theorem tests_ok {ifs : List Expr} {b : Bool} {A : Around} {env : Env} {c : St} {E : Want Value} {Q : Want Bool} (ok : Ok B A n σ c) (fr : Frm env gl ρ c) (h : Tests B gl n ifs b ρ σ σ') (k : ∀ c', Le [] c c' -> Sim B σ' c' -> Q b c'.s) :
  wpAny (model PG B.w) A (forIn ifs true fun c r => if r = true then do let ok <- isTrue c env (eval c env); pure (ForInStep.yield ok) else pure (ForInStep.yield r)) Q E c.s := by
 cases h with
 | nil => exact wpAny_tests_nil (k c (.refl _ _) ok.sim)
 | one h => exact wpAny_tests_one (h A env c ok fr E Q k)
inductive CompI (t elt : Expr) (ifs : List Expr) (B : Bs) (gl : Gl) (n : Nat) (cenv : Env) (σ' : Sto) (I D : Addr) (c0 : St) (tot : List Pq.D) : Nat -> Shared -> Prop
 | mk {c2 : St} {ds es2 out2 : List Pq.D} {ρ1 : Loc} {σ2 : Sto} {vs2 : List Value} : Le [I, D, cenv.locals] c0 c2 -> Sim B σ2 c2 -> Frm cenv gl ρ1 c2 -> Priv I c2 -> Priv D c2 -> ItAt I c2 ds -> c2.h.IsList D vs2.toArray -> RepAll c2.G c2.β vs2 out2 ->
  out2 ++ es2 = tot -> out2.length + ds.length <= 1000000 -> CompL t ifs elt B gl n ds es2 ρ1 σ2 σ' -> CompI t elt ifs B gl n cenv σ' I D c0 tot ds.length c2.s
theorem comp_loop {t iter elt : Expr} {ifs : List Expr} {scope : Scope} {pos : Pos} {A : Around} {cenv : Env} {c0 c : St} {I D : Addr} {ds es out : List Pq.D} {vs : List Value} {R : Result -> Shared -> Prop} {σ₀ : Sto}
  (ok0 : Ok B A n σ₀ c0) (l0 : Le [I, D, cenv.locals] c0 c) (hN : c0.sz <= I /\ c0.sz <= D /\ c0.sz <= cenv.locals) (s : Sim B σ c) (fr : Frm cenv gl ρ c) (pI : Priv I c) (pD : Priv D c) (it : ItAt I c ds) (hl : c.h.IsList D vs.toArray) (rv : RepAll c.G c.β vs out)
  (hI : I ∉ mutA cenv) (hD : D ∉ mutA cenv) (hDI : D ≠ I) (h : CompL t ifs elt B gl n ds es ρ σ σ') (sz : out.length + ds.length <= 1000000)
  (k : ∀ c' vs', Le [I, D, cenv.locals] c0 c' -> Sim B σ' c' -> Priv D c' -> (∃ m, c'.h.Ns cenv.locals m) /\ Priv cenv.locals c' -> c'.h.IsList D vs'.toArray -> RepAll c'.G c'.β vs' (out ++ es) -> R (.ok .next) c'.s) :
  codeAny (model PG B.w) A (.compLoop (.ListComp elt [⟨t, iter, ifs, 0⟩] scope pos) 0 (.ref I) (.ref D) cenv) R c.s := by
 have hC : cenv.locals ∈ mutA cenv := .head _
 refine compLoop_any (CompI t elt ifs B gl n cenv σ' I D c0 (out ++ es)) ?_ ds.length (.mk l0 s fr pI pD it hl rv rfl sz h)
 rintro m _ E @⟨c2, ds, es2, out2, ρ1, σ2, vs2, l2, s2, fr2, p2, q2, it2, hl2, rv2, he, hz, h⟩
 have okOf : ∀ {c3 : St} {σ3 : Sto}, Le [I, D, cenv.locals] c0 c3 -> Sim B σ3 c3 -> Ok B A n σ3 c3 := fun l s => ok0.step (l.weaken_new fun a ha => by
  simp only [List.mem_cons, List.not_mem_nil, or_false] at ha
  rcases ha with rfl | rfl | rfl
  ·exact .inr hN.1
  ·exact .inr hN.2.1
  ·exact .inr hN.2.2) s
 have w1 : ∀ a ∈ [I], a ∈ [I, D, cenv.locals] := by simp
 have w2 : ∀ a ∈ [D], a ∈ [I, D, cenv.locals] := by simp
 have w3 : ∀ a ∈ [cenv.locals], a ∈ [I, D, cenv.locals] := by simp
 have list_le : ∀ {c3 c4 : St} {M : List Addr} {items : Array Value}, c3.h.IsList D items -> Priv D c3 -> D ∉ M -> Le M c3 c4 -> c4.h.IsList D items := fun {c3 c4 M items} h p hM l => by
  refine x1_3 h fun o e1 e2 e3 => ?_
  obtain ⟨o', e4, k⟩ := l.keep D o e1 p.b hM
  have := kept_data k (by rintro ⟨es, ep, q⟩; obtain ⟨m, e3⟩ := e3; rw [e3] at q; cases q)
  subst this
  exact ⟨_, e4, e2, e3⟩
 have hDI' : D ∉ [I] := by simpa using hDI
 have hIC : I ∉ [cenv.locals] := fun h => hI (by rw [List.mem_singleton.mp h]; exact hC)
 have hDC : D ∉ [cenv.locals] := fun h => hD (by rw [List.mem_singleton.mp h]; exact hC)
 have hID : I ∉ [D] := by simpa using Ne.symm hDI
 have app : ∀ {c5 : St} {σ5 : Sto} {x : Value} {d : Pq.D} {ds : List Pq.D} {es3 : List Pq.D} {ρ5 : Loc} (Q : Want Value), Le [I, D, cenv.locals] c0 c5 -> Sim B σ5 c5 -> Frm cenv gl ρ5 c5 -> Priv I c5 -> Priv D c5 -> ItAt I c5 ds -> c5.h.IsList D vs2.toArray -> RepAll c5.G c5.β vs2 out2 -> Rep c5.G c5.β x d -> out2.length <= 1000000 ->
   (∀ v c6, Le [I, D, cenv.locals] c0 c6 -> Sim B σ5 c6 -> Frm cenv gl ρ5 c6 -> Priv I c6 -> Priv D c6 -> ItAt I c6 ds -> c6.h.IsList D (vs2 ++ [x]).toArray -> RepAll c6.G c6.β (vs2 ++ [x]) (out2 ++ [d]) -> Q v c6.s) ->
   wpAny (model PG B.w) A (call (.builtin "list.append") [.ref D, x]) Q E c5.s := fun {c5 σ5 x d ds es3 ρ5} Q l5 s5 fr5 p5 q5 it5 hl5 rv5 r5 hz5 kq => by
  refine wpAny_list_append hl5 (fun h' hl' hs' => ?_) (by rw [sizeLine_eq, List.size_toArray, rv5.length]; lia)
  have l6 : Le [D] c5 ⟨c5.G, c5.β, { c5.s with heap := h' }⟩ := le_sameBut (t := c5.s.toks) hs' (.head _)
  refine kq _ ⟨c5.G, c5.β, { c5.s with heap := h' }⟩ (l5.trans (l6.weaken w2)) (sim_sameBut (t := c5.s.toks) s5 hs' q5.g q5.b) (fr5.mono l6 (al_ne (A := A) hD)) (p5.le l6) (q5.le l6) (it5.le p5 l6 hID) ?_ (rv5.append (.cons r5 .nil))
  simpa using hl'
 cases h with
 | nil =>
  refine it_end ok0.hnd p2 s2 it2 fun c3 l3 s3 => ?_
  have fr3 := fr2.mono l3 (al_ne (A := A) hI)
  refine k c3 vs2 (l2.trans (l3.weaken w1)) s3 (q2.le l3) ⟨fr3.ns, let ⟨x, y, z⟩ := fr3.off _ hC; ⟨x, y, z⟩⟩ (list_le hl2 q2 hDI' l3) ?_
  rw [<- he, List.append_nil]; exact l3.repAll rv2
 | @keep d e ds es3 _ ρa _ σa σb _ tg ts ev h =>
  refine it_next p2 s2 it2 fun v c3 l3 s3 it3 r3 => it_go it3 ?_
  refine tg A cenv c3 v σ2 ok0.hnd s3 (fr2.mono l3 (al_ne (A := A) hI)) r3 _ _ fun c4 l4 s4 fr4 => ?_
  have l04 := (l2.trans (l3.weaken w1)).trans (l4.weaken w3)
  refine tests_ok (okOf l04 s4) fr4 ts fun c5 l5 s5 => ?_
  have l05 := l04.trans (l5.weaken fun Z h => nomatch h)
  rw [if_pos rfl]
  refine ev A cenv c5 (okOf l05 s5) (fr4.step l5) _ _ fun x c6 l6 s6 r6 => ?_
  have l06 := l05.trans (l6.weaken fun Z h => nomatch h)
  have n0 : ∀ {a : Addr}, a ∉ ([] : List Addr) := fun h => nomatch h
  have p3 := p2.le l3
  have p4 := p3.le l4
  have p5 := p4.le l5
  have q3 := q2.le l3
  have q4 := q3.le l4
  have q5 := q4.le l5
  refine app (es3 := es3) _ l06 s6 ((fr4.step l5).step l6) (p5.le l6) (q5.le l6) (((it3.le p3 l4 hIC).le p4 l5 n0).le p5 l6 n0) (list_le (list_le (list_le (list_le hl2 q2 hDI' l3) q3 hDC l4) q4 n0 l5) q5 n0 l6) (l6.repAll (l5.repAll (l4.repAll (l3.repAll rv2)))) r6 (by lia) fun v7 c7 l7 s7 fr7 p7 q7 it7 hl7 rv7 => ?_
  exact ⟨ds.length, Nat.lt_succ_self _, .mk l7 s7 fr7 p7 q7 it7 hl7 rv7 (by rw [<- he]; simp) (by rw [List.length_append, List.length_singleton]; rw [List.length_cons] at hz; lia) h⟩
 | @skip d ds _ _ ρa _ σa _ tg ts h =>
  refine it_next p2 s2 it2 fun v c3 l3 s3 it3 r3 => it_go it3 ?_
  refine tg A cenv c3 v σ2 ok0.hnd s3 (fr2.mono l3 (al_ne (A := A) hI)) r3 _ _ fun c4 l4 s4 fr4 => ?_
  have l04 := (l2.trans (l3.weaken w1)).trans (l4.weaken w3)
  refine tests_ok (okOf l04 s4) fr4 ts fun c5 l5 s5 => ?_
  have l05 := l04.trans (l5.weaken fun Z h => nomatch h)
  rw [if_neg (by decide)]
  have n0 : ∀ {a : Addr}, a ∉ ([] : List Addr) := fun h => nomatch h
  have p3 := p2.le l3
  have p4 := p3.le l4
  have q3 := q2.le l3
  have q4 := q3.le l4
  exact ⟨ds.length, Nat.lt_succ_self _, .mk l05 s5 (fr4.step l5) (p4.le l5) (q4.le l5) ((it3.le p3 l4 hIC).le p4 l5 n0) (list_le (list_le (list_le hl2 q2 hDI' l3) q3 hDC l4) q4 n0 l5) (l5.repAll (l4.repAll (l3.repAll rv2))) he (by rw [List.length_cons] at hz; lia) h⟩
inductive Caps (ρ : Loc) : List (Str × D) -> Prop
 | nil : Caps ρ []
 | cons {x : Str} {d : D} {r : List (Str × D)} : VarIx ρ x d -> Caps ρ r -> Caps ρ ((x, d) :: r)
theorem Caps.mem {ρ : Loc} {caps : List (Str × D)} (h : Caps ρ caps) : ∀ p ∈ caps, VarIx ρ p.1 p.2 := by
 induction h with
 | nil => intro p hp; cases hp
 | cons h _ ih => intro p hp; rcases List.mem_cons.mp hp with rfl | hp; exact h; exact ih p hp
theorem compLoc_keys (tgts : List Str) (caps : List (Str × D)) : (compLoc tgts caps).map (fun x => x.1) = tgts ++ caps.map (fun x => x.1) := by
 unfold compLoc
 rw [List.map_append, List.map_map, List.map_map]
 congr 1
 conv => rhs; rw [<- List.map_id tgts]
 rfl
theorem comp_core {t iter elt : Expr} {ifs : List Expr} {scope : Scope} {pos p : Pos} {A : Around} {env : Env} {c : St} {ds es : List Pq.D} {tgts : List Str} {caps : List (Str × Pq.D)} {use : Option (Value -> Sem Unit)} {E Q : Want Value}
  (ok : Ok B A n σ c) (fr : Frm env gl ρ c) (hi : EvI iter ds B gl n ρ σ σ1) (K : CompOk scope tgts (caps.map (fun x => x.1)) gl gl') (hcap : Caps ρ caps) (h : CompL t ifs elt B gl' n ds es (compLoc tgts caps) σ1 σ') (sz : ds.length <= 1000000)
  (hs : ∀ x, foldedSetIterable iter env x = pure x)
  (k : ∀ D C c', Le [] c c' -> Sim B σ' c' -> Priv C c' -> c.sz <= C -> (∃ m, c'.h.Ns C m) -> Rep c'.G c'.β (.ref D) (.lst es) -> compPost (model PG B.w) A E use Q (.ref D) C (.ok .next) c'.s) :
  wpAny (model PG B.w) A (comprehension (.ListComp elt [⟨t, iter, ifs, 0⟩] scope pos) scope env p (newList []) false (eval iter env) use) Q E c.s := by
 have kinds : ∀ x, env.kindOf x = gl.lookup x := fun x => by rw [<- fr.gls]; rfl
 have ckinds : ∀ x, x ∈ caps.map (fun x => x.1) -> env.kindOf x = some .cell := fun x hx => (kinds x).trans (K.cap x hx).2
 obtain ⟨cl, hclos, hcl1, hcl2, hcl3, hcl4⟩ := K.clos env fun x hx => let ⟨a, _, h, _⟩ := fr.cel x (ckinds x hx); ⟨a, h⟩
 refine wpAny_comprehension_free (g := ⟨t, iter, ifs, 0⟩) (gs := []) rfl hs hclos K.fn K.names (hi A env c ok fr _ _ fun I c1 l1 s1 p1 hI it1 => ?_)
 let oD : Obj := { cls := .type "list", dict := none, data := .seq ([] : List Value).toArray }
 let oC : Obj := { cls := .type "dict", data := .dict #[] }
 let c2 : St := ⟨c1.G, c1.β, { c1.s with heap := c1.s.heap.push oD }⟩
 have l2 : Le [] c1 c2 := le_push [] c1 oD
 have s2 : Sim B σ1 c2 := sim_push s1 oD
 have pD : Priv c1.sz c2 := .push s1 oD
 refine wpAny_newObj_type (wpAny_newFunctionEnv K.nocell (by intro y hy; simp at hy) (fun h₁ hns hsb => ?_) K.fn)
 let c2' : St := ⟨c2.G, c2.β, { c2.s with heap := c2.s.heap.push oC }⟩
 let c3 : St := ⟨c2.G, c2.β, { c2.s with heap := h₁, toks := c2.s.toks + 0 }⟩
 have pC2 : Priv c2.sz c2' := .push s2 oC
 have l2' : Le [] c2 c2' := le_push [] c2 oC
 have l23 : Le [c2.sz] c2' c3 := le_sameBut (c := c2') (t := c2.s.toks + 0) hsb (.head _)
 have l3 : Le [] c2 c3 := ((l2'.weaken fun Z h => nomatch h).trans l23).weaken_new fun a ha => by rw [List.mem_singleton.mp ha]; exact .inr (Nat.le_refl _)
 have s3 : Sim B σ1 c3 := sim_sameBut (c := c2') (t := c2.s.toks + 0) (sim_push s2 oC) hsb pC2.g pC2.b
 have pC : Priv c2.sz c3 := pC2.le l23
 have pD3 : Priv c1.sz c3 := pD.le l3
 have pI3 : Priv I c3 := (p1.le l2).le l3
 have it3 : ItAt I c3 ds := (it1.le p1 l2 (fun h => nomatch h)).le (p1.le l2) l3 fun h => nomatch h
 have l13 : Le [] c c3 := (l1.trans l2).trans l3
 have frE : Frm env gl ρ c3 := fr.step l13
 have hz1 : c1.sz < c2.sz := by show c1.sz < (c1.s.heap.push oD).objs.size; rw [Heap.size_push]; exact Nat.lt_succ_self _
 have hz0 : c.sz <= c2.sz := (l1.trans l2).size
 have low : ∀ {x : Str} {a : Addr}, env.cells.lookup x = some a -> a < c.sz := fun h => (fr.off _ (mem_mut_cell h)).2.2
 let cenv := compEnvC scope cl c2.sz env
 have frC : Frm cenv gl' (compLoc tgts caps) c3 := by
  have g1 : cenv.scope.names = gl' := (relabel_names fr.fn fr.gls).trans K.gls
  refine ⟨K.fn, fr.glb, fr.blt, g1, by rw [compLoc_keys]; exact K.nd, fun q hq => ?_, ⟨_, hns⟩, fun x d hx => ?_, fun x hx => ?_, hcl4, fun q hq => ?_, fun b hb => ?_⟩
  ·exact K.dbg q.1 (by rw [<- compLoc_keys]; exact List.mem_map_of_mem hq)
  ·rcases List.mem_append.mp hx with hx | hx
   ·obtain ⟨_, _, e⟩ := List.mem_map.mp hx; cases e
   ·obtain ⟨⟨y, dy⟩, hy, e⟩ := List.mem_map.mp hx
    refine x0_2 (Prod.mk.inj e) fun e1 e2 => ?_
    dsimp only at e1
    cases e2
    subst e1
    have hm : y ∈ caps.map (fun x => x.1) := List.mem_map_of_mem hy
    have hk := ckinds y hm
    cases frE.vars y _ (hcap.mem _ hy).mem with
    | loc h1 => rw [hk] at h1; cases h1
    | cel h1 h2 h3 h4 => exact .cel (by show cenv.scope.names.lookup y = _; rw [g1]; exact (K.cap y hm).1) ((hcl1 y hm).trans h2) h3 h4
    | free h1 => rw [hk] at h1; cases h1
  ·have hm : x ∈ caps.map (fun x => x.1) := by
    have : gl'.lookup x = some .cell := by rw [<- g1]; exact hx
    exact K.only (x, .cell) (mem_of_lookup this) rfl
   refine x2_2 (frE.cel x (ckinds x hm)) fun a v e1 e2 => ?_
   exact ⟨a, v, (hcl1 x hm).trans e1, e2⟩
  ·refine x1_1 (hcl3 q hq) fun x e => ?_
   exact Nat.ne_of_lt (Nat.lt_of_lt_of_le (low e) hz0)
  ·cases hb with
   | head => exact ⟨pC.g, pC.b, pC.low⟩
   | tail _ hb =>
    refine x1_2 (List.mem_map.mp hb) fun q hq Q => ?_; subst Q
    refine x1_1 (hcl3 q hq) fun x e => ?_
    exact frE.off _ (mem_mut_cell e)
 have hmut : ∀ b ∈ mutA cenv, b = c2.sz \/ b < c.sz := fun b hb => by
  cases hb with
  | head => exact .inl rfl
  | tail _ hb =>
   refine x1_2 (List.mem_map.mp hb) fun q hq Q => ?_; subst Q
   refine x1_1 (hcl3 q hq) fun x e => ?_
   exact .inr (low e)
 have hIC : I ∉ mutA cenv := fun hm => (hmut I hm).elim (fun e => Nat.ne_of_lt (Nat.lt_trans p1.low hz1) e) fun hl => absurd hl (Nat.not_lt.mpr hI)
 have hDC : c1.sz ∉ mutA cenv := fun hm => (hmut _ hm).elim (fun e => Nat.ne_of_lt hz1 e) fun hl => absurd hl (Nat.not_lt.mpr l1.size)
 have hl3 : c3.h.IsList c1.sz ([] : List Value).toArray := by
  refine ⟨oD, ?_, rfl, 0, rfl⟩
  exact hsb.extBut _ _ (Nat.ne_of_lt hz1) (Heap.get?_push_of_some _ (Heap.get?_push_size _ rfl))
 have loop : codeAny (model PG B.w) A (.compLoop (.ListComp elt [⟨t, iter, ifs, 0⟩] scope pos) 0 (.ref I) (.ref c1.sz) cenv) (compPost (model PG B.w) A E use Q (.ref c1.sz) c2.sz) c3.s := by
  refine comp_loop (out := []) (vs := []) ok (l13.weaken fun Z h => nomatch h) ⟨hI, l1.size, hz0⟩ s3 frC pI3 pD3 it3 hl3 .nil hIC hDC (Nat.ne_of_gt p1.low) h (by simpa using sz) fun c4 vs4 l4 s4 p4 hn4 hl4 r4 => ?_
  obtain ⟨o4, e1, e2, m4, e3⟩ := hl4
  let c5 : St := ⟨fun b => if b = c1.sz then some o4 else c4.G b, c4.β, c4.s⟩
  have ne : ∀ {b : Addr} {o : Obj}, c4.G b = some o -> b ≠ c1.sz := fun {b o} h e => by rw [e, p4.g] at h; cases h
  have hG : ∀ b o, c4.G b = some o -> c5.G b = some o := fun b o h => by
   show (if b = c1.sz then some o4 else c4.G b) = some o
   rw [if_neg (ne h), h]
  have hsub : ∀ b o, c5.G b = some o -> c5.h.get? b = some o := fun b o h => by
   change (if b = c1.sz then some o4 else c4.G b) = some o at h
   split at h
   ·rename_i e; cases h; rw [e]; exact e1
   ·exact s4.sub b o h
  have s5 : Sim B σ' c5 := by
   refine ⟨fun b o h => hG b o (s4.base b o h), hsub, s4.len, s4.nodup, s4.mods, s4.low, fun i a x h1 h2 h3 => ?_, fun i a x h1 h2 => (s4.cells i a x h1 h2).mono hG (fun Z Z h => h) hsub fun Z h => h⟩
   show (if a = c1.sz then some o4 else c4.G a) = none
   rw [if_neg (fun e => p4.b (by rw [<- e]; exact List.mem_of_getElem? h1)), s4.off i a x h1 h2 h3]
  have l5 : Le [I, c1.sz, c2.sz] c c5 := by
   refine ⟨fun b o h => hG b o (l4.g b o h), fun b h hl hb => ?_, l4.b, l4.keep, l4.size, l4.rest⟩
   show (if b = c1.sz then some o4 else c4.G b) = none
   rw [if_neg (fun e => by rw [e] at hl; exact absurd hl (Nat.not_lt.mpr l1.size)), l4.gn b h hl hb]
  have l5' : Le [] c c5 := l5.weaken_new fun a ha => by
   simp only [List.mem_cons, List.not_mem_nil, or_false] at ha
   rcases ha with rfl | rfl | rfl
   ·exact .inr hI
   ·exact .inr l1.size
   ·exact .inr hz0
  have pC4 : Priv c2.sz c5 := by
   refine ⟨?_, hn4.2.b, hn4.2.low⟩
   show (if c2.sz = c1.sz then some o4 else c4.G c2.sz) = none
   rw [if_neg (Nat.ne_of_gt hz1)]
   exact hn4.2.g
  refine k c1.sz c2.sz c5 l5' s5 pC4 hz0 hn4.1 (.lst (o := o4) (by show (if c1.sz = c1.sz then _ else _) = _; rw [if_pos rfl]) e2 e3 ?_)
  have : RepAll c4.G c4.β vs4 es := by simpa using r4
  exact this.mono hG fun Z Z h => h
 exact codeAny_compStart_list loop (it_self it3 loop)
theorem Ev.comp {t iter elt : Expr} {ifs : List Expr} {scope : Scope} {pos : Pos} {ds es : List Pq.D} {tgts : List Str} {caps : List (Str × Pq.D)}
  (K : CompOk scope tgts (caps.map (fun x => x.1)) gl gl') (hi : EvI iter ds B gl n ρ σ σ1) (hcap : Caps ρ caps) (h : CompL t ifs elt B gl' n ds es (compLoc tgts caps) σ1 σ') (sz : ds.length <= 1000000)
  (hs : ∀ env x, foldedSetIterable iter env x = pure x := by intro _ _; rfl) : Ev (.ListComp elt [⟨t, iter, ifs, 0⟩] scope pos) (.lst es) B gl n ρ σ σ' := by
 intro A env c ok fr E Q k
 show wpAny _ A (comprehension (.ListComp elt [⟨t, iter, ifs, 0⟩] scope pos) scope env _ (newList []) false (eval iter env)) Q E c.s
 refine comp_core (use := none) ok fr hi K hcap h sz (hs env) fun D C c' l s p hC hn r => ?_
 refine x1_1 hn fun m hn => ?_
 refine ⟨m, hn, fun h' hs' => ?_⟩
 have l2 : Le [C] c' ⟨c'.G, c'.β, { c'.s with heap := h' }⟩ := le_sameBut (t := c'.s.toks) hs' (.head _)
 exact k _ ⟨c'.G, c'.β, { c'.s with heap := h' }⟩ (((l.weaken fun Z h => nomatch h).trans l2).weaken_new fun a ha => by rw [List.mem_singleton.mp ha]; exact .inr hC) (sim_sameBut (t := c'.s.toks) s hs' p.g p.b) (l2.rep r)
theorem St1.comp {t iter elt : Expr} {ifs : List Expr} {scope : Scope} {pos py spos : Pos} {y : Str} {ds es : List Pq.D} {tgts : List Str} {caps : List (Str × Pq.D)}
  (K : CompOk scope tgts (caps.map (fun x => x.1)) gl gl') (hi : EvI iter ds B gl n ρ σ σ1) (hcap : Caps ρ caps) (h : CompL t ifs elt B gl' n ds es (compLoc tgts caps) σ1 σ') (up : VarUp ρ y (.lst es) ρ') (sz : ds.length <= 1000000)
  (hy : gl.lookup y = some .local := by rfl) (hln : (py.line == pos.line) = true := by rfl) (hnm : (scope.names.any fun (n, k) => n == y && (k == .local || k == .cell)) = false := by rfl)
  (hs : ∀ env x, foldedSetIterable iter env x = pure x := by intro _ _; rfl) : St1 (.Assign [.Name y py] (.ListComp elt [⟨t, iter, ifs, 0⟩] scope pos) spos) B gl n ρ ρ' σ σ' := by
 intro A env c al st ok fr E Q k
 have hsw : swapsWith (.ListComp elt [⟨t, iter, ifs, 0⟩] scope pos) (some (.Name y py)) spos.line env = pure true := by
  have e1 : env.blockKind = .function := by unfold Env.blockKind; rw [fr.fn]; rfl
  have e2 : env.kindOf y = some .local := by unfold Env.kindOf; rw [fr.gls]; exact hy
  show (pure (env.blockKind == .function && env.kindOf y == some .local && py.line == pos.line && !(scope.names.any fun (n, k) => n == y && (k == .local || k == .cell))) : Sem Bool) = pure true
  rw [e1, e2, hln, hnm]
  rfl
 rw [exec_Assign_Name_used _ _ _ _ hsw]
 refine wpAny_bind (wpAny_standAt (wpAny_bind ?_))
 show wpAny _ A (do let _ <- comprehension (.ListComp elt [⟨t, iter, ifs, 0⟩] scope pos) scope env _ (newList []) false (eval iter env) (some (PySem.assign (.Name y py) env))) _ _ c.s
 refine wpAny_bind (wpAny_mono (comp_core (use := some (PySem.assign (.Name y py) env)) (Q := fun Z s' => Q .next s') ok fr hi K hcap h sz (hs env) fun D C c' l s p hC hn r => ?_) (fun Z s' hq => wpAny_pure (wpAny_pure hq)) fun Z Z e => e)
 show wpAny _ A (PySem.assign (.Name y py) env (.ref D)) _ _ c'.s
 refine wpAny_assign_Name (store_ok (fr.step l) s st up r fun c2 l2 s2 fr2 => ?_)
 have hCm : C ∉ mutA env := fun hm => absurd (fr.off C hm).2.2 (Nat.not_lt.mpr hC)
 refine x1_1 hn fun m hn => ?_
 have p2 := p.le l2
 have hn2 : c2.h.Ns C m := ns_kept hn fun o ho => l2.keep C o ho p.b hCm
 refine ⟨m, hn2, fun h' hs' => ?_⟩
 have l3 : Le [C] c2 ⟨c2.G, c2.β, { c2.s with heap := h' }⟩ := le_sameBut (t := c2.s.toks) hs' (.head _)
 refine k ⟨c2.G, c2.β, { c2.s with heap := h' }⟩ ?_ (sim_sameBut (t := c2.s.toks) s2 hs' p2.g p2.b) (fr2.mono l3 (al_ne (A := A) hCm)) (st.up up)
 refine Le.weaken_new (M := C :: mutA env) ((((le_mut l).trans l2).weaken fun Z h => .tail C h).trans (l3.weaken fun a ha => by rw [List.mem_singleton.mp ha]; exact .head _)) fun a ha => ?_
 rcases List.mem_cons.mp ha with rfl | ha
 ·exact .inr hC
 ·exact .inl ha
end
end
section
open PySem.SeqAt
noncomputable def EqD (k : Nat) (a b : D) (r : Bool) : Prop := ∀ (G : Gm) (β : List Addr) (s : Shared) (A : Around) (u v : Value), (∀ a o, G a = some o -> s.heap.get? a = some o) -> A.units + k < cLine -> Rep G β u a -> Rep G β v b -> EqAt A s u v r /\ (u = v -> r = true)
noncomputable def EqDs (k : Nat) (a b : List D) (r : Bool) : Prop := ∀ (G : Gm) (β : List Addr) (s : Shared) (A : Around) (u v : List Value), (∀ a o, G a = some o -> s.heap.get? a = some o) -> A.units + k < cLine -> RepAll G β u a -> RepAll G β v b ->
  (∃ e : Nat -> Bool, (∀ j (h1 : j < u.length) (h2 : j < v.length), EqAt A s u[j] v[j] (e j)) /\ r = ((List.range (min u.length v.length)).all e && u.length == v.length)) /\ (u = v -> r = true)
theorem EqD.le {k k' : Nat} {a b : D} {r : Bool} (hk : k <= k') (h : EqD k a b r) : EqD k' a b r := fun Z Z Z Z Z Z hs hu => h _ _ _ _ _ _ hs (Nat.lt_of_le_of_lt (Nat.add_le_add_left hk _) hu)
theorem unit0 {a k : Nat} (h : a + k < cLine) : a < cLine := Nat.lt_of_le_of_lt (Nat.le_add_right _ _) h
theorem slot_bytes_eq_refl : Slot "bytes" (cmpInfo .Eq).2.2 "bytes.__eq__" :=
 .of (owner := "bytes") (n := "__eq__") (by rw [typeLookup_type, builtinLookup_eq_fast]; kernel_rfl) (by decide +kernel) (by decide +kernel) (by decide +kernel)
  (by first | exact .inl (by decide +kernel) | exact .inr (by decide +kernel)) (by rw [isSubtype_type]; kernel_rfl)
theorem bytes_eq_declines_tuple (b : Array UInt8) (u : Tok) (l : Addr) (items : Array Value) (n : Nat) (dd : Option Addr) (sl : Array (Option Value)) :
  Meets (Builtin.«bytes.__eq__» ⟨[.bytes b u, .ref l], []⟩) (fun Z R s => s.heap.get? l = some { cls := .type "tuple", dict := dd, data := .seq items n, slots := sl } /\ R (.ok (.ret .notImplemented)) s) :=
 .of_wp fun prog w A R s h => by
  refine x0_2 h fun hl h => ?_
  show wpAny _ _ (isInstance (.ref l) (.type "bytes") >>= fun r => _) _ _ s
  refine wpAny_bind (wpAny_isInstance (T := "tuple") (b := false) ⟨_, hl, rfl⟩ F.sub_tuple_bytes ?_)
  exact wpAny_bind (wpAny_rule (wpAny_pure ⟨_, rfl, h⟩))
theorem tuple_eq_declines_bytes (l : Addr) (items : Array Value) (n : Nat) (dd : Option Addr) (sl : Array (Option Value)) (b : Array UInt8) (u : Tok) :
  Meets (Builtin.«tuple.__eq__» ⟨[.ref l, .bytes b u], []⟩) (fun Z R s => s.heap.get? l = some { cls := .type "tuple", dict := dd, data := .seq items n, slots := sl } /\ R (.ok (.ret .notImplemented)) s) :=
 .of_wp fun prog w A R s h => by obtain ⟨hp, g, d, tk, os⟩ := s; obtain ⟨hl, h⟩ := h; have f1 := F.sub_bytes_tuple; wp_walk using AutoSeq1.wpAny_loadPart' hl; exact ⟨_, rfl, h⟩
section
variable {A : Around} {s : Shared}
theorem rc_tuple_bytes {l : Addr} {items : Array Value} (b : Array UInt8) (u : Tok) (hl : s.heap.IsTuple l items) (hu : A.units < cLine) : RcAt A s (.ref l) (.bytes b u) false := fun prog w E Q h => by
 obtain ⟨⟨cls, dd, data, sl⟩, ho, hc, n, hd⟩ := id hl
 simp only at hc hd
 subst hc hd
 exact rc_eq_decline_or (k := false) ⟨_, ho, rfl⟩ (typeIs_bytes s b u) (by decide) F.sub_bytes_tuple F.slot_tuple_eq slot_bytes_eq_refl
  (fun Z hq => call_meets F.slot_tuple_eq ⟨_, ho, rfl⟩ F.entry_tuple_eq (F.args_tuple_eq_2 _ _) (tuple_eq_declines_bytes l items n dd sl b u) ⟨ho, hq⟩)
  (fun Z hq => call_meets slot_bytes_eq_refl (typeIs_bytes s b u) FB.entry_bytes_eq (FB.args_bytes_eq_2 _ _) (bytes_eq_declines_tuple b u l items n dd sl) ⟨ho, hq⟩)
  (fun Z hq => wpAny_of_eq (rfl : isSame (.ref l) (.bytes b u) = pure false) hq) (.inr hu) h
theorem rc_bytes_tuple {l : Addr} {items : Array Value} (b : Array UInt8) (u : Tok) (hl : s.heap.IsTuple l items) (hu : A.units < cLine) : RcAt A s (.bytes b u) (.ref l) false := fun prog w E Q h => by
 obtain ⟨⟨cls, dd, data, sl⟩, ho, hc, n, hd⟩ := id hl
 simp only at hc hd
 subst hc hd
 exact rc_eq_decline_or (k := false) (typeIs_bytes s b u) ⟨_, ho, rfl⟩ (by decide) F.sub_tuple_bytes FB.slot_bytes_eq F.slot_tuple_eq_refl
  (fun Z hq => call_meets FB.slot_bytes_eq (typeIs_bytes s b u) FB.entry_bytes_eq (FB.args_bytes_eq_2 _ _) (bytes_eq_declines_tuple b u l items n dd sl) ⟨ho, hq⟩)
  (fun Z hq => call_meets F.slot_tuple_eq_refl ⟨_, ho, rfl⟩ F.entry_tuple_eq (F.args_tuple_eq_2 _ _) (tuple_eq_declines_bytes l items n dd sl b u) ⟨ho, hq⟩)
  (fun Z hq => wpAny_of_eq (rfl : isSame (.bytes b u) (.ref l) = pure false) hq) (.inr hu) h
theorem eq_of_rc {a b : Value} {r : Bool} (hf : ∀ x t, a ≠ .float x t) (hne : a ≠ b) (h : RcAt A s a b r) : EqAt A s a b r := fun prog w E Q hq => by
 unfold eqBool
 refine wpAny_holding ?_
 refine wpAny_ite_split (fun hab => absurd (eq_of_beq hab) hne) (fun Z => ?_)
 cases a <;> first | exact wpAny_bind (h prog w E _ (wpAny_truthy_bool hq)) | exact absurd rfl (hf _ _)
theorem eq_bytes_bytes (a : Array UInt8) (t : Tok) (b : Array UInt8) (u : Tok) : EqAt A s (.bytes a t) (.bytes b u) (a.toList == b.toList) := by
 by_cases h : (Value.bytes a t) = .bytes b u
 ·injection h with h1 h2
  subst h1 h2
  have := EqAt.same (A := A) (s := s) (.bytes a t)
  simpa using this
 ·exact eq_of_rc nofun h fun prog w E Q hq => PySem.W.eq_bytes hq
end
section
variable {k : Nat} {i j : Int} {xs ys : List D} {r r' : Bool}
theorem EqD.nn : EqD k .none .none true := fun Z Z Z Z Z Z hs hu p q => by cases p; cases q; exact ⟨EqAt.same _, fun Z => rfl⟩
theorem EqD.nt : EqD k .none (.tup ys) false := fun Z Z Z Z Z Z hs hu p q => by cases p; cases q with | tup q1 q2 q3 q4 => exact ⟨EqAt.none_tuple ⟨_, hs _ _ q1, q2, _, q3⟩ (unit0 hu), fun h => nomatch h⟩
theorem EqD.tn : EqD k (.tup xs) .none false := fun Z Z Z Z Z Z hs hu p q => by cases q; cases p with | tup q1 q2 q3 q4 => exact ⟨EqAt.tuple_none ⟨_, hs _ _ q1, q2, _, q3⟩ (unit0 hu), fun h => nomatch h⟩
theorem EqD.ni : EqD k .none (.int i) false := fun Z Z Z Z Z Z hs hu p q => by cases p; cases q; exact ⟨EqAt.none_int _ _, fun h => nomatch h⟩
theorem EqD.in_ : EqD k (.int i) .none false := fun Z Z Z Z Z Z hs hu p q => by cases q; cases p; exact ⟨EqAt.int_none _ _, fun h => nomatch h⟩
theorem EqD.ii : EqD k (.int i) (.int j) (i == j) := fun Z Z Z Z Z Z hs hu p q => by cases p; cases q; exact ⟨EqAt.int_int _ _ _ _, fun h => by injection h with h _; exact beq_iff_eq.mpr h⟩
theorem EqD.it : EqD k (.int i) (.tup ys) false := fun Z Z Z Z Z Z hs hu p q => by cases p; cases q with | tup q1 q2 q3 q4 => exact ⟨EqAt.int_tuple _ _ ⟨_, hs _ _ q1, q2, _, q3⟩ (unit0 hu), fun h => nomatch h⟩
theorem EqD.ti : EqD k (.tup xs) (.int i) false := fun Z Z Z Z Z Z hs hu p q => by cases q; cases p with | tup q1 q2 q3 q4 => exact ⟨EqAt.tuple_int _ _ ⟨_, hs _ _ q1, q2, _, q3⟩ (unit0 hu), fun h => nomatch h⟩
theorem EqD.bb {i j : Bool} : EqD k (.bool i) (.bool j) (i == j) := fun Z Z Z Z Z Z hs hu p q => by cases p; cases q; exact ⟨EqAt.bool_bool _ _, fun h => by injection h with h; exact beq_iff_eq.mpr h⟩
theorem EqD.ss {i j : Str} : EqD k (.str i) (.str j) (i == j) := fun Z Z Z Z Z Z hs hu p q => by cases p; cases q; exact ⟨EqAt.str_str _ _ _ _, fun h => by injection h with h _; exact beq_iff_eq.mpr h⟩
theorem EqD.yy {i j : List UInt8} : EqD k (.bytes i) (.bytes j) (i == j) := fun Z Z Z Z Z Z hs hu p q => by
 cases p; cases q
 refine ⟨eq_bytes_bytes _ _ _ _, fun h => ?_⟩
 injection h with h _
 exact beq_iff_eq.mpr (congrArg Array.toList h)
theorem EqD.yt {i : List UInt8} : EqD k (.bytes i) (.tup ys) false := fun Z Z Z Z Z Z hs hu p q => by cases p; cases q with | tup q1 q2 q3 q4 => exact ⟨eq_of_rc nofun nofun (rc_bytes_tuple _ _ ⟨_, hs _ _ q1, q2, _, q3⟩ (unit0 hu)), fun h => nomatch h⟩
theorem EqD.ty {i : List UInt8} : EqD k (.tup xs) (.bytes i) false := fun Z Z Z Z Z Z hs hu p q => by cases q; cases p with | tup q1 q2 q3 q4 => exact ⟨eq_of_rc nofun nofun (rc_tuple_bytes _ _ ⟨_, hs _ _ q1, q2, _, q3⟩ (unit0 hu)), fun h => nomatch h⟩
theorem EqD.tt (h : EqDs k xs ys r) : EqD (k + 1) (.tup xs) (.tup ys) r := fun G β s A u v hs hu p q => by
 cases p with | @tup a1 o1 vs1 n1 p1 p2 p3 p4 =>
 cases q with | @tup a2 o2 vs2 n2 q1 q2 q3 q4 =>
 obtain ⟨⟨e, he, hr⟩, same⟩ := h _ _ _ A.in1 _ _ hs (by show A.units + 1 + k < cLine; rw [Nat.add_assoc, Nat.add_comm 1]; exact hu) p4 q4
 have sm : Value.ref a1 = Value.ref a2 -> r = true := fun hv => by
  injection hv with hv
  subst hv
  rw [p1] at q1
  injection q1 with q1
  rw [<- q1, p3] at q3
  injection q3 with q3
  exact same (congrArg Array.toList q3)
 refine ⟨?_, sm⟩
 by_cases hab : Value.ref a1 = Value.ref a2
 ·rw [sm hab, hab]
  exact EqAt.same _
 ·refine eq_of_rc nofun hab ?_
  rw [hr]
  have := RcAt.tuples (e := e) (A := A) (s := s) ⟨_, hs _ _ p1, p2, _, p3⟩ ⟨_, hs _ _ q1, q2, _, q3⟩ (unit0 hu) (fun j h1 h2 => by
   simpa using he j (by simpa using h1) (by simpa using h2))
  simpa using this
theorem EqDs.nil : EqDs k [] [] true := fun Z Z Z Z Z Z hs hu p q => by cases p; cases q; exact ⟨⟨fun Z => true, fun j h1 => absurd h1 (Nat.not_lt_zero _), rfl⟩, fun Z => rfl⟩
theorem EqDs.nc {y : D} : EqDs k [] (y :: ys) false := fun Z Z Z Z Z Z hs hu p q => by cases p; cases q; exact ⟨⟨fun Z => true, fun j h1 => absurd h1 (Nat.not_lt_zero _), rfl⟩, fun h => nomatch h⟩
theorem EqDs.cn {x : D} : EqDs k (x :: xs) [] false := fun Z Z Z Z Z Z hs hu p q => by cases q; cases p; exact ⟨⟨fun Z => true, fun j h1 h2 => absurd h2 (Nat.not_lt_zero _), by simp⟩, fun h => nomatch h⟩
theorem EqDs.cons {x y : D} (h : EqD k x y r) (t : EqDs k xs ys r') : EqDs k (x :: xs) (y :: ys) (r && r') := fun Z Z Z Z Z Z hs hu p q => by
 cases p with | cons p1 p2 =>
 cases q with | cons q1 q2 =>
 refine x0_2 (h _ _ _ _ _ _ hs hu p1 q1) fun h1 h2 => ?_
 obtain ⟨⟨e, he, hr⟩, h3⟩ := t _ _ _ _ _ _ hs hu p2 q2
 refine ⟨⟨fun j => match j with | 0 => r | j + 1 => e j, fun j k1 k2 => ?_, ?_⟩, fun hv => ?_⟩
 ·cases j with
  | zero => exact h1
  | succ j => exact he j (Nat.lt_of_succ_lt_succ k1) (Nat.lt_of_succ_lt_succ k2)
 ·rw [hr, List.length_cons, List.length_cons, Nat.succ_min_succ, List.range_succ_eq_map, List.all_cons, List.all_map, Bool.and_assoc]
  congr 2
  simp
 ·injection hv with a b
  rw [h2 a, h3 b]; rfl
end
section
variable {B : Bs} {n : Nat} {σ : Sto}
theorem units_ok {A : Around} {c : St} {k : Nat} (ok : Ok B A n σ c) (hk : k <= 90) : A.units + k < cLine := by
 have := ok.uni
 show A.units + k < 9900
 lia
theorem Cmp.eqT {xs ys : List D} {r : Bool} {k : Nat} (h : EqDs k xs ys r) (hk : k <= 10 * n + 80 := by lia) : Cmp .Eq (.tup xs) (.tup ys) r B n σ := by
 intro A c u v ok p q E Q kq
 have hu : A.units + (k + 1) < cLine := by have := ok.uni; show _ < 9900; lia
 cases p with
 | tup p1 p2 p3 p4 =>
  cases q with
  | tup q1 q2 q3 q4 =>
   obtain ⟨⟨e, he, hr⟩, -⟩ := h _ _ _ A.in1 _ _ ok.sim.sub (by have : A.in1.units = A.units + 1 := rfl; lia) p4 q4
   have := RcAt.tuples (e := e) (A := A) (s := c.s) ⟨_, ok.sim.sub _ _ p1, p2, _, p3⟩ ⟨_, ok.sim.sub _ _ q1, q2, _, q3⟩ (by lia) (fun j h1 h2 => by
    simpa using he j (by simpa using h1) (by simpa using h2))
   refine this PG B.w E Q ?_
   have := kq c (.refl _ _) ok.sim
   rw [hr] at this
   simpa using this
theorem Cmp.neT {xs ys : List D} {r : Bool} {k : Nat} (h : EqDs k xs ys r) (hk : k <= 10 * n + 80 := by lia) : Cmp .NotEq (.tup xs) (.tup ys) (!r) B n σ := by
 intro A c u v ok p q E Q kq
 have hu : A.units + (k + 1) < cLine := by have := ok.uni; show _ < 9900; lia
 cases p with
 | tup p1 p2 p3 p4 =>
  cases q with
  | tup q1 q2 q3 q4 =>
   obtain ⟨⟨e, he, hr⟩, -⟩ := h _ _ _ A.in1 _ _ ok.sim.sub (by have : A.in1.units = A.units + 1 := rfl; lia) p4 q4
   have := RcNeAt.tuples (e := e) (A := A) (s := c.s) ⟨_, ok.sim.sub _ _ p1, p2, _, p3⟩ ⟨_, ok.sim.sub _ _ q1, q2, _, q3⟩ (by lia) (fun j h1 h2 => by
    simpa using he j (by simpa using h1) (by simpa using h2))
   refine this PG B.w E Q ?_
   have := kq c (.refl _ _) ok.sim
   rw [hr] at this
   simpa using this
theorem Cmp.neNT {ys : List D} : Cmp .NotEq .none (.tup ys) true B n σ := fun A c u v ok p q E Q kq => by
 cases p; cases q with | tup q1 q2 q3 q4 =>
 exact RcNeAt.none_tuple ⟨_, ok.sim.sub _ _ q1, q2, _, q3⟩ (units_ok (k := 0) ok (by lia)) PG B.w E Q (kq c (.refl _ _) ok.sim)
theorem Cmp.neTN {ys : List D} : Cmp .NotEq (.tup ys) .none true B n σ := fun A c u v ok p q E Q kq => by
 cases q; cases p with | tup q1 q2 q3 q4 =>
 exact RcNeAt.tuple_none ⟨_, ok.sim.sub _ _ q1, q2, _, q3⟩ (units_ok (k := 0) ok (by lia)) PG B.w E Q (kq c (.refl _ _) ok.sim)
theorem Cmp.eqNT {ys : List D} : Cmp .Eq .none (.tup ys) false B n σ := fun A c u v ok p q E Q kq => by
 cases p; cases q with | tup q1 q2 q3 q4 =>
 exact RcAt.none_tuple ⟨_, ok.sim.sub _ _ q1, q2, _, q3⟩ (units_ok (k := 0) ok (by lia)) PG B.w E Q (kq c (.refl _ _) ok.sim)
theorem Cmp.eqTN {ys : List D} : Cmp .Eq (.tup ys) .none false B n σ := fun A c u v ok p q E Q kq => by
 cases q; cases p with | tup q1 q2 q3 q4 =>
 exact RcAt.tuple_none ⟨_, ok.sim.sub _ _ q1, q2, _, q3⟩ (units_ok (k := 0) ok (by lia)) PG B.w E Q (kq c (.refl _ _) ok.sim)
theorem Cmp.eqNN : Cmp .Eq .none .none true B n σ := fun A c u v ok p q E Q kq => by
 cases p; cases q
 exact RcAt.none_none PG B.w E Q (kq c (.refl _ _) ok.sim)
theorem Cmp.neNN : Cmp .NotEq .none .none false B n σ := fun A c u v ok p q E Q kq => by
 cases p; cases q
 exact EqNone.ne_none_none (kq c (.refl _ _) ok.sim)
theorem Cmp.neL {xs ys : List D} {r : Bool} {k : Nat} (h : EqDs k xs ys r) (hk : k <= 10 * n + 80 := by lia) : Cmp .NotEq (.lst xs) (.lst ys) (!r) B n σ := by
 intro A c u v ok p q E Q kq
 have hu : A.units + (k + 1) < cLine := by have := ok.uni; show _ < 9900; lia
 cases p with
 | @lst a1 o1 vs1 n1 p1 p2 p3 p4 =>
  cases q with
  | @lst a2 o2 vs2 n2 q1 q2 q3 q4 =>
   obtain ⟨⟨e, he, hr⟩, -⟩ := h _ _ _ A.in1 _ _ ok.sim.sub (by have : A.in1.units = A.units + 1 := rfl; lia) p4 q4
   have kq' := kq c (.refl _ _) ok.sim
   by_cases hz : vs1.length = vs2.length
   ·have := RcNeAt.lists (e := e) (A := A) (s := c.s) ⟨_, ok.sim.sub _ _ p1, p2, _, p3⟩ ⟨_, ok.sim.sub _ _ q1, q2, _, q3⟩ (by simpa using hz) (by lia) (fun j h1 h2 => by
     simpa using he j (by simpa using h1) (by simpa using h2))
    refine this PG B.w E Q ?_
    rw [hr, hz] at kq'
    simpa [hz] using kq'
   ·refine RcNeAt.lists_lengths (A := A) (s := c.s) ⟨_, ok.sim.sub _ _ p1, p2, _, p3⟩ ⟨_, ok.sim.sub _ _ q1, q2, _, q3⟩ (by simpa using hz) (by lia) PG B.w E Q ?_
    have e2 : (vs1.length == vs2.length) = false := by simpa using hz
    rw [hr, e2, Bool.and_false] at kq'
    exact kq'
theorem Cmp.eqL {xs ys : List D} {r : Bool} {k : Nat} (h : EqDs k xs ys r) (hk : k <= 10 * n + 80 := by lia) : Cmp .Eq (.lst xs) (.lst ys) r B n σ := by
 intro A c u v ok p q E Q kq
 have hu : A.units + (k + 1) < cLine := by have := ok.uni; show _ < 9900; lia
 cases p with
 | @lst a1 o1 vs1 n1 p1 p2 p3 p4 =>
  cases q with
  | @lst a2 o2 vs2 n2 q1 q2 q3 q4 =>
   obtain ⟨⟨e, he, hr⟩, -⟩ := h _ _ _ A.in1 _ _ ok.sim.sub (by have : A.in1.units = A.units + 1 := rfl; lia) p4 q4
   have kq' := kq c (.refl _ _) ok.sim
   by_cases hz : vs1.length = vs2.length
   ·have := RcAt.lists (e := e) (A := A) (s := c.s) ⟨_, ok.sim.sub _ _ p1, p2, _, p3⟩ ⟨_, ok.sim.sub _ _ q1, q2, _, q3⟩ (by simpa using hz) (by lia) (fun j h1 h2 => by
     simpa using he j (by simpa using h1) (by simpa using h2))
    refine this PG B.w E Q ?_
    rw [hr, hz] at kq'
    simpa [hz] using kq'
   ·refine RcAt.lists_lengths (A := A) (s := c.s) ⟨_, ok.sim.sub _ _ p1, p2, _, p3⟩ ⟨_, ok.sim.sub _ _ q1, q2, _, q3⟩ (by simpa using hz) (by lia) PG B.w E Q ?_
    have e2 : (vs1.length == vs2.length) = false := by simpa using hz
    rw [hr, e2, Bool.and_false] at kq'
    exact kq'
end
end
section
section
variable {B : Bs} {gl : Gl} {n m : Nat} {ρ ρ' : Loc} {σ σ' σ1 σ2 σ3 : Sto} {i j : Int}
theorem kt {c : St} {v : Value} {d : D} {t : Nat} {Q : Want Value} (s : Sim B σ c) (r : Rep c.G c.β v d) (k : ∀ v c', Le [] c c' -> Sim B σ c' -> Rep c'.G c'.β v d -> Q v c'.s) : Q v { c.s with toks := t } :=
 k v (c.tk t) (.tk _ _ _) (s.tk t) r
theorem Bin.add : Bin .Add (.int i) (.int j) (.int (i + j)) B n σ := fun A c u v ok p q E Q k => by
 cases p; cases q; exact PyProof.Rows.add_int (kt ok.sim (.int _ _) k)
theorem Bin.sub : Bin .Sub (.int i) (.int j) (.int (i - j)) B n σ := fun A c u v ok p q E Q k => by
 cases p; cases q; exact PyProof.Rows.sub_int (kt ok.sim (.int _ _) k)
theorem Bin.mul (h : i.natAbs < 2 ^ 64 \/ j.natAbs < 2 ^ 64) : Bin .Mult (.int i) (.int j) (.int (i * j)) B n σ := fun A c u v ok p q E Q k => by
 cases p; cases q
 exact PyProof.Rows.mul_int (kt ok.sim (.int _ _) k) (h.elim (fun h => .of_left (PyProof.Rows.intBits_le h)) fun h => .of_right (PyProof.Rows.intBits_le h))
theorem Bin.mod (h : j ≠ 0) : Bin .Mod (.int i) (.int j) (.int (i.fmod j)) B n σ := fun A c u v ok p q E Q k => by
 cases p; cases q; exact PyProof.Rows.mod_int h (kt ok.sim (.int _ _) k)
theorem Bin.floordiv (h : j ≠ 0) (hp : Builtin.divisionGoesByPylong i j = false) : Bin .FloorDiv (.int i) (.int j) (.int (i.fdiv j)) B n σ := fun A c u v ok p q E Q k => by
 cases p; cases q; exact PyProof.Rows.floordiv_int h (kt ok.sim (.int _ _) k) (.inl hp)
theorem Bin.rshift (h : 0 <= j) : Bin .RShift (.int i) (.int j) (.int (i.fdiv (2 ^ j.toNat))) B n σ := fun A c u v ok p q E Q k => by
 cases p; cases q; exact PyProof.Rows.rshift_int h (kt ok.sim (.int _ _) k)
theorem Bin.lshift (h : 0 <= j) (h2 : j <= 1000000) (h3 : i.natAbs < 2 ^ 64) : Bin .LShift (.int i) (.int j) (.int (i * 2 ^ j.toNat)) B n σ := fun A c u v ok p q E Q k => by
 cases p; cases q; exact PyProof.Rows.lshift_int_small h h2 h3 (kt ok.sim (.int _ _) k)
theorem Bin.pow (h : 0 <= j) (h2 : j <= 1000000) (h3 : i.natAbs < 2 ^ 64) : Bin .Pow (.int i) (.int j) (.int (i ^ j.toNat)) B n σ := fun A c u v ok p q E Q k => by
 cases p; cases q; exact PyProof.Rows.pow_int_small h h2 h3 (kt ok.sim (.int _ _) k)
theorem Bin.band : Bin .BitAnd (.int i) (.int j) (.int (Builtin.bitAnd i j)) B n σ := fun A c u v ok p q E Q k => by
 cases p; cases q; exact PyProof.Rows.and_int (kt ok.sim (.int _ _) k)
theorem Cmp.lt : Cmp .Lt (.int i) (.int j) (decide (i < j)) B n σ := fun A c u v ok p q E Q k => by
 cases p; cases q; exact PyProof.Rows.lt_int (k c (.refl _ _) ok.sim)
theorem Cmp.gt : Cmp .Gt (.int i) (.int j) (decide (j < i)) B n σ := fun A c u v ok p q E Q k => by
 cases p; cases q; exact PyProof.Rows.gt_int (k c (.refl _ _) ok.sim)
theorem Cmp.eqI : Cmp .Eq (.int i) (.int j) (i == j) B n σ := fun A c u v ok p q E Q k => by
 cases p; cases q; exact PyProof.Rows.eq_int (k c (.refl _ _) ok.sim)
theorem Cmp.neI : Cmp .NotEq (.int i) (.int j) (i != j) B n σ := fun A c u v ok p q E Q k => by
 cases p; cases q; exact PyProof.Rows.ne_int (k c (.refl _ _) ok.sim)
theorem Cmp.eqY {x y : List UInt8} : Cmp .Eq (.bytes x) (.bytes y) (x == y) B n σ := fun A c u v ok p q E Q k => by
 cases p; cases q; exact PySem.W.eq_bytes (k c (.refl _ _) ok.sim)
theorem Cmp.neY {x y : List UInt8} : Cmp .NotEq (.bytes x) (.bytes y) (x != y) B n σ := fun A c u v ok p q E Q k => by
 cases p; cases q; exact PySem.W.ne_bytes (k c (.refl _ _) ok.sim)
theorem Cmp.eqS {x y : Str} : Cmp .Eq (.str x) (.str y) (x == y) B n σ := fun A c u v ok p q E Q k => by
 cases p; cases q; exact PySem.SeqAt.RcAt.str_str _ _ _ _ PG B.w E Q (k c (.refl _ _) ok.sim)
noncomputable def D.isNone : D -> Bool
 | .none => true
 | _ => false
theorem rep_none {G : Gm} {β : List Addr} {v : Value} {d : D} (r : Rep G β v d) (hr : ∀ w, d ≠ .raw w) : (v == .none) = d.isNone := by
 cases d <;> cases r <;> first | rfl | (exact absurd rfl (hr _))
theorem Cmp.isN {d : D} (hr : ∀ w, d ≠ .raw w := by intro _ h; cases h) : Cmp .Is d .none d.isNone B n σ := fun A c u v ok p q E Q k => by
 cases q
 have := k c (.refl _ _) ok.sim
 rw [<- rep_none p hr] at this
 exact PySem.is_none this
theorem Cmp.isNotN {d : D} (hr : ∀ w, d ≠ .raw w := by intro _ h; cases h) : Cmp .IsNot d .none (!d.isNone) B n σ := fun A c u v ok p q E Q k => by
 cases q
 have := k c (.refl _ _) ok.sim
 rw [<- rep_none p hr] at this
 exact PySem.isNot_none this
theorem Truth.bool {b : Bool} : Truth (.bool b) b B σ := fun A c u n ok p E Q k => by
 cases p; exact wpAny_truthy_bool (k c (.refl _ _) ok.sim)
theorem Truth.int : Truth (.int i) (i != 0) B σ := fun A c u n ok p E Q k => by
 cases p; exact PyProof.Rows.truthy_int (k c (.refl _ _) ok.sim)
theorem Truth.tup {ds : List D} (h : ds.length <= 1000000) : Truth (.tup ds) (!ds.isEmpty) B σ := fun A c u n ok p E Q k => by
 cases p with
 | @tup a o vs _ p1 p2 p3 p4 =>
  have hl := p4.length
  have e : vs.toArray.isEmpty = ds.isEmpty := by cases vs <;> cases ds <;> simp at hl ⊢
  refine PyProof.Rows.truthy_tuple (ht := ⟨_, ok.sim.sub _ _ p1, p2, _, p3⟩) (by rw [List.size_toArray, hl]; lia) ?_
  rw [e]
  exact k (c.tk _) (.tk _ _ _) (ok.sim.tk _)
theorem Truth.lst {ds : List D} (h : ds.length <= 1000000) : Truth (.lst ds) (!ds.isEmpty) B σ := fun A c u n ok p E Q k => by
 cases p with
 | @lst a o vs _ p1 p2 p3 p4 =>
  have hl := p4.length
  have e : vs.toArray.isEmpty = ds.isEmpty := by cases vs <;> cases ds <;> simp at hl ⊢
  refine PySem.wpAny_truthy_list (hl := ⟨_, ok.sim.sub _ _ p1, p2, _, p3⟩) (by rw [List.size_toArray, hl]; lia) ?_
  rw [e]
  exact k (c.tk _) (.tk _ _ _) (ok.sim.tk _)
end
end
section
section
variable {B : Bs} {gl : Gl} {n m : Nat} {ρ ρ' : Loc} {σ σ' σ1 σ2 σ3 : Sto} {i j : Int}
theorem newT {c : St} {vs : List Value} {ds : List D} {Q : Want Value} (s : Sim B σ c) (r : RepAll c.G c.β vs ds) (k : ∀ v c', Le [] c c' -> Sim B σ c' -> Rep c'.G c'.β v (.tup ds) -> Q v c'.s) :
  Q (.ref c.s.heap.objs.size) { c.s with heap := c.s.heap.push { cls := .type "tuple", data := .seq vs.toArray } } :=
 k _ (c.put _) (.put _ s _) (s.put _) (rep_tup s r)
theorem newL {c : St} {vs : List Value} {ds : List D} {Q : Want Value} (s : Sim B σ c) (r : RepAll c.G c.β vs ds) (k : ∀ v c', Le [] c c' -> Sim B σ c' -> Rep c'.G c'.β v (.lst ds) -> Q v c'.s) :
  Q (.ref c.s.heap.objs.size) { c.s with heap := c.s.heap.push { cls := .type "list", data := .seq vs.toArray } } :=
 k _ (c.put _) (.put _ s _) (s.put _) (rep_lst s r)
theorem Bin.addT {xs ys : List D} (hz : xs.length + ys.length <= 1000000) : Bin .Add (.tup xs) (.tup ys) (.tup (xs ++ ys)) B n σ := fun A c u v ok p q E Q k => by
 cases p with
 | @tup a1 o1 vs1 n1 p1 p2 p3 p4 =>
  cases q with
  | @tup a2 o2 vs2 n2 q1 q2 q3 q4 =>
   have h1 := ok.sim.sub _ _ p1
   have h2 := ok.sim.sub _ _ q1
   have kk := fun w r => k w c (.refl _ _) ok.sim r
   obtain ⟨cls, dd, data, sl⟩ := o1
   obtain ⟨cls2, dd2, data2, sl2⟩ := o2
   simp only at p2 p3 q2 q3
   subst p2 p3 q2 q3
   have e : vs1.toArray ++ vs2.toArray = (vs1 ++ vs2).toArray := by simp
   by_cases hv : vs1 = []
   ·refine concat_meets ⟨_, h1, rfl⟩ ⟨_, h2, rfl⟩ noFill_tuple_add seq_tuple_add PySem.F.slot_tuple_add PySem.F.entry_tuple_add (PySem.F.args_tuple_add_2 _ _)
     (tuple_addW0 a1 a2 vs1.toArray vs2.toArray n1 n2 dd dd2 sl sl2 (by simp [hv])) ⟨h1, h2, ?_⟩
    subst hv
    obtain rfl := p4.nilV
    exact kk _ (.tup q1 rfl rfl q4)
   ·by_cases hw : vs2 = []
    ·refine concat_meets ⟨_, h1, rfl⟩ ⟨_, h2, rfl⟩ noFill_tuple_add seq_tuple_add PySem.F.slot_tuple_add PySem.F.entry_tuple_add (PySem.F.args_tuple_add_2 _ _)
      (tuple_addW1 a1 a2 vs1.toArray vs2.toArray n1 n2 dd dd2 sl sl2 (by simpa using hv) (by simp [hw])) ⟨h1, h2, ?_⟩
     subst hw
     obtain rfl := q4.nilV
     rw [List.append_nil] at kk
     exact kk _ (.tup p1 rfl rfl p4)
    ·refine concat_meets ⟨_, h1, rfl⟩ ⟨_, h2, rfl⟩ noFill_tuple_add seq_tuple_add PySem.F.slot_tuple_add PySem.F.entry_tuple_add (PySem.F.args_tuple_add_2 _ _)
      (tuple_addW2 a1 a2 vs1.toArray vs2.toArray n1 n2 dd dd2 sl sl2 (by simpa using hv) (by simpa using hw) (by rw [List.size_toArray, List.size_toArray, p4.length, q4.length, sizeLine_eq]; lia)) ⟨h1, h2, ?_⟩
     rw [e]
     exact newT ok.sim (p4.append q4) k
theorem Bin.addL {xs ys : List D} (hz : xs.length + ys.length <= 1000000) : Bin .Add (.lst xs) (.lst ys) (.lst (xs ++ ys)) B n σ := fun A c u v ok p q E Q k => by
 cases p with
 | @lst a1 o1 vs1 n1 p1 p2 p3 p4 =>
  cases q with
  | @lst a2 o2 vs2 n2 q1 q2 q3 q4 =>
   have h1 := ok.sim.sub _ _ p1
   have h2 := ok.sim.sub _ _ q1
   obtain ⟨cls, dd, data, sl⟩ := o1
   obtain ⟨cls2, dd2, data2, sl2⟩ := o2
   simp only at p2 p3 q2 q3
   subst p2 p3 q2 q3
   have e : vs1.toArray ++ vs2.toArray = (vs1 ++ vs2).toArray := by simp
   refine concat_meets ⟨_, h1, rfl⟩ ⟨_, h2, rfl⟩ noFill_list_add seq_list_add PySem.F.slot_list_add PySem.F.entry_list_add (PySem.F.args_list_add_2 _ _)
    (list_addW a1 a2 vs1.toArray vs2.toArray n1 n2 dd dd2 sl sl2 (by rw [List.size_toArray, List.size_toArray, p4.length, q4.length, sizeLine_eq]; lia)) ⟨h1, h2, ?_⟩
   rw [e]
   exact newL ok.sim (p4.append q4) k
theorem Bin.addY {x y : List UInt8} (hz : x.length + y.length <= 1000000) : Bin .Add (.bytes x) (.bytes y) (.bytes (x ++ y)) B n σ := fun A c u v ok p q E Q k => by
 cases p; cases q
 exact bytes_add_K (d := x ++ y) (by simpa using by lia) rfl fun t' k' => kt ok.sim (.bytes _ _) k
theorem Bin.mulL {x : D} (h0 : 0 <= j) (h1 : j <= 100000) : Bin .Mult (.lst [x]) (.int j) (.lst (List.replicate j.toNat x)) B n σ := fun A c u v ok p q E Q k => by
 cases q
 cases p with
 | @lst a1 o1 vs1 n1 p1 p2 p3 p4 =>
  have ho := ok.sim.sub _ _ p1
  obtain ⟨cls, dd, data, sl⟩ := o1
  simp only at p2 p3
  subst p2 p3
  have hl1 : vs1.length = 1 := p4.length
  refine wpAny_binaryOp_repeat_ref (T := "list") (U := "int") (by decide) ⟨_, ho, rfl⟩ (fun s' => typeIs_int s' j _) noFill_list_mul F.fills_int_mul F.slot_int_rmul repeat_list F.slot_int_index.lookup
   (call_meets F.slot_int_rmul (typeIs_int c.s j _) F.entry_int_rmul (F.args_int_rmul_2 _ _) (lm_int_rmul_list_any j _ a1 vs1.toArray n1 dd sl)
    ⟨ho, rfl, ⟨_, ho, rfl⟩, call_meets F.slot_list_mul ⟨_, ho, rfl⟩ F.entry_list_mul (F.args_list_mul_2 _ _)
     (lm_list_mul_any a1 vs1.toArray n1 dd sl j _ (by simp [Builtin.List.listFitsIndex]; lia) (by rw [List.size_toArray, hl1]; lia) (by rw [List.size_toArray, hl1]; simp [Builtin.List.listTooLong, sizeLine]; lia))
     ⟨ho, ?_⟩⟩)
  rw [listMul_foldl_if]
  have e : (List.replicate j.toNat vs1.toArray.toList).flatten.toArray = (List.replicate j.toNat vs1.toArray.toList).flatten.toArray := rfl
  cases p4 with
  | cons r1 r2 =>
   cases r2
   refine newL ok.sim ?_ k
   have : ∀ m : Nat, RepAll c.G c.β (List.replicate m [_]).flatten (List.replicate m x) := fun m => by
    induction m with
    | zero => exact .nil
    | succ m ih => rw [List.replicate_succ, List.replicate_succ, List.flatten_cons]; exact .cons r1 ih
   exact this _
end
end
section
theorem noFill_tuple_mul : fillsNumberSlot (.type "tuple") "mul" = pure false :=
 PySem.fillsNumberSlot_seq (id := "tuple.__mul__") (r := some (.builtin "tuple.__rmul__")) F.slot_tuple_mul.lookup (by decide +kernel) F.slot_tuple_rmul.lookup (by decide +kernel)
theorem repeat_tuple : seqRepeat? (.type "tuple") = pure (some (.builtin "tuple.__mul__")) := by
 unfold seqRepeat?
 rw [PySem.seqSlot_of (T := "tuple") (name := "__mul__") (id := "tuple.__mul__") F.slot_tuple_mul.lookup (by decide +kernel), PySem.seqSlot_of (T := "tuple") (name := "__rmul__") (id := "tuple.__rmul__") F.slot_tuple_rmul.lookup (by decide +kernel)]
 rfl
theorem int_rmul_declines (a : Int) (t : Tok) (l : Addr) (items : Array Value) (n : Nat) (dd : Option Addr) (sl : Array (Option Value)) :
  Meets (Builtin.«int.__rmul__» ⟨[.int a t, .ref l], []⟩) (fun Z R s => s.heap.get? l = some { cls := .type "tuple", dict := dd, data := .seq items n, slots := sl } /\ R (.ok (.ret Value.notImplemented)) s) :=
 .of_wp fun prog w A R s h => by obtain ⟨hp, g, d, tk, os⟩ := s; obtain ⟨hl, h⟩ := h; wp_walk; exact ⟨_, rfl, h⟩
theorem tuple_mul_many (l : Addr) (x : Value) (n : Nat) (dd : Option Addr) (sl : Array (Option Value)) (k : Int) (u : Tok) (h2 : 2 <= k) (hk : k <= 100000) :
  Meets (Builtin.«tuple.__mul__» ⟨[.ref l, .int k u], []⟩) (fun Z R s => s.heap.get? l = some { cls := .type "tuple", dict := dd, data := .seq #[x] n, slots := sl } /\
   R (.ok (.ret (Value.ref s.heap.objs.size))) { s with heap := s.heap.push { cls := Value.type "tuple", data := Data.seq (List.replicate k.toNat x).toArray } }) :=
 .of_wp fun prog w A R s h => by
  obtain ⟨hl, h⟩ := h
  show wpAny _ _ (asIndex (.int k u) >>= fun r => _) _ _ s
  refine wpAny_bind (wpAny_of_eq (a := k) rfl ?_)
  refine wpAny_ite ?_
  rw [if_neg (by simp only [Bool.or_eq_true, decide_eq_true_eq]; lia)]
  show wpAny _ _ (Builtin.Tuple.tupleItemsOf (.ref l) >>= fun r => _) _ _ s
  refine wpAny_bind (tupleItemsOf_ ⟨_, hl, rfl, n, rfl⟩ ?_)
  refine wpAny_ite ?_
  rw [if_neg (by simp; lia)]
  refine wpAny_ite ?_
  rw [if_neg (by simp; lia)]
  refine wpAny_ite ?_
  rw [if_neg (by simp; lia)]
  refine wpAny_ite ?_
  rw [if_neg (by simp [Builtin.Tuple.tupleTooMany, sizeLine]; lia)]
  have e : (List.replicate k.toNat #[x]).foldl (· ++ ·) #[] = (List.replicate k.toNat x).toArray := by
   have : ∀ (m : Nat) (acc : Array Value), (List.replicate m #[x]).foldl (· ++ ·) acc = acc ++ (List.replicate m x).toArray := by
    intro m
    induction m with
    | zero => intro acc; simp
    | succ m ih =>
     intro acc
     rw [List.replicate_succ, List.foldl_cons, ih, List.replicate_succ]
     apply Array.ext'
     simp
   rw [this]; simp
  show wpAny _ _ (Builtin.Tuple.tupleExact ((List.replicate k.toNat #[x]).foldl (· ++ ·) #[]) >>= fun r => _) _ _ s
  rw [e]
  refine wpAny_bind (wpAny_newObj_type (wpAny_pure ⟨_, rfl, h⟩) ?_)
  show (List.replicate k.toNat x).toArray.size <= sizeLine
  rw [List.size_toArray, List.length_replicate, sizeLine_eq]; lia
theorem tuple_mul_one (l : Addr) (x : Value) (n : Nat) (dd : Option Addr) (sl : Array (Option Value)) (u : Tok) :
  Meets (Builtin.«tuple.__mul__» ⟨[.ref l, .int 1 u], []⟩) (fun Z R s => s.heap.get? l = some { cls := .type "tuple", dict := dd, data := .seq #[x] n, slots := sl } /\
   R (.ok (.ret (Value.ref l))) s) :=
 .of_wp fun prog w A R s h => by
  obtain ⟨hl, h⟩ := h
  show wpAny _ _ (asIndex (.int 1 u) >>= fun r => _) _ _ s
  refine wpAny_bind (wpAny_of_eq (a := (1 : Int)) rfl ?_)
  refine wpAny_ite ?_
  rw [if_neg (by decide)]
  show wpAny _ _ (Builtin.Tuple.tupleItemsOf (.ref l) >>= fun r => _) _ _ s
  refine wpAny_bind (tupleItemsOf_ ⟨_, hl, rfl, n, rfl⟩ ?_)
  refine wpAny_ite ?_
  rw [if_pos (by simp)]
  show wpAny _ _ (Builtin.Tuple.tupleIsExact (.ref l) >>= fun r => _) _ _ s
  unfold Builtin.Tuple.tupleIsExact
  refine wpAny_bind (wpAny_bind (wpAny_typeOf ⟨_, hl, rfl⟩ (wpAny_pure ?_)))
  refine wpAny_ite ?_
  rw [if_pos (by decide)]
  exact wpAny_bind (wpAny_rule (wpAny_pure ⟨_, rfl, h⟩))
section
variable {B : Bs} {gl : Gl} {n m : Nat} {ρ ρ' : Loc} {σ σ' σ1 σ2 σ3 σ4 : Sto} {i j : Int}
theorem Bin.mulT {x : D} (h0 : 1 <= j) (h1 : j <= 100000) : Bin .Mult (.tup [x]) (.int j) (.tup (List.replicate j.toNat x)) B n σ := fun A c u v ok p q E Q k => by
 cases q with | int _ t =>
 cases p with
 | @tup a1 o1 vs1 n1 p1 p2 p3 p4 =>
  have ho := ok.sim.sub _ _ p1
  obtain ⟨cls, dd, data, sl⟩ := o1
  simp only at p2 p3
  subst p2 p3
  cases p4 with
  | @cons w _ r1 r2 =>
   cases r2
   by_cases hj : j = 1
   ·subst hj
    refine wpAny_binaryOp_repeat_ref (T := "tuple") (U := "int") (by decide) ⟨_, ho, rfl⟩ (fun s' => typeIs_int s' 1 _) noFill_tuple_mul F.fills_int_mul F.slot_int_rmul repeat_tuple F.slot_int_index.lookup
     (call_meets F.slot_int_rmul (typeIs_int c.s 1 _) F.entry_int_rmul (F.args_int_rmul_2 _ _) (int_rmul_declines 1 _ a1 [w].toArray n1 dd sl)
      ⟨ho, rfl, ⟨_, ho, rfl⟩, call_meets F.slot_tuple_mul ⟨_, ho, rfl⟩ F.entry_tuple_mul (F.args_tuple_mul_2 _ _) (tuple_mul_one a1 w n1 dd sl _) ⟨ho, ?_⟩⟩)
    exact k _ c (.refl _ _) ok.sim (.tup p1 rfl rfl (.cons r1 .nil))
   ·refine wpAny_binaryOp_repeat_ref (T := "tuple") (U := "int") (by decide) ⟨_, ho, rfl⟩ (fun s' => typeIs_int s' j _) noFill_tuple_mul F.fills_int_mul F.slot_int_rmul repeat_tuple F.slot_int_index.lookup
     (call_meets F.slot_int_rmul (typeIs_int c.s j _) F.entry_int_rmul (F.args_int_rmul_2 _ _) (int_rmul_declines j _ a1 [w].toArray n1 dd sl)
      ⟨ho, rfl, ⟨_, ho, rfl⟩, call_meets F.slot_tuple_mul ⟨_, ho, rfl⟩ F.entry_tuple_mul (F.args_tuple_mul_2 _ _) (tuple_mul_many a1 w n1 dd sl j _ (by lia) h1) ⟨ho, ?_⟩⟩)
    exact newT ok.sim (.replicate r1 _) k
noncomputable def Item (a i d : D) (B : Bs) (n : Nat) (σ : Sto) : Prop :=
 ∀ (A : Around) (c : St) (u v : Value), Ok B A n σ c -> Rep c.G c.β u a -> Rep c.G c.β v i -> (∃ T id, c.s.TypeIs u T /\ typeLookup (.type T) "__getitem__" = pure (some (.builtin id))) /\
  ∀ (E Q : Want Value), (∀ w c', Le [] c c' -> Sim B σ c' -> Rep c'.G c'.β w d -> Q w c'.s) -> wpAny (model PG B.w) A (getItem u v) Q E c.s
theorem Ev.sub {value slice : Expr} {pos : Pos} {a i d : D} (h1 : Ev value a B gl n ρ σ σ1) (h2 : Ev slice i B gl n ρ σ1 σ2) (hi : Item a i d B n σ2)
  (hs : ∀ o i, subscripted slice false o i = operate [o, i] (getItem o i) := by intro _ _; rfl) : Ev (.Subscript value slice pos) d B gl n ρ σ σ2 := by
 intro A env c ok fr E Q k
 refine Subscript_ (h1 A env c ok fr _ _ fun u c1 l1 s1 r1 => h2 A env c1 (ok.step l1 s1) (fr.step l1) _ _ fun v c2 l2 s2 r2 => ?_)
 obtain ⟨⟨T, id, hT, hl⟩, hg⟩ := hi A c2 u v (ok.step (l1.trans l2) s2) (l2.rep r1) r2
 exact tail_any hT hl (hg _ _ fun w c3 l3 s3 r3 => k w c3 ((l1.trans l2).trans l3) s3 r3) (hs u v)
theorem Item.tup {ds : List D} {d : D} (h0 : 0 <= i) (hd : ds[i.toNat]? = some d) (hz : ds.length <= 1000000) : Item (.tup ds) (.int i) d B n σ := by
 intro A c u v ok p q
 cases q with | int _ t =>
 cases p with
 | @tup a1 o1 vs1 n1 p1 p2 p3 p4 =>
  have ht : IsTup c.s.heap a1 vs1.toArray := ⟨_, ok.sim.sub _ _ p1, p2, _, p3⟩
  obtain ⟨w, hw, rw⟩ := p4.get hd
  have hlt := (List.getElem?_eq_some_iff.mp hw).1
  have hl := p4.length
  refine ⟨⟨_, _, ht.typeIs, slot_tuple_getitem.lookup⟩, fun E Q k => ?_⟩
  refine PyProof.Rows.getItem_tuple ht (j := i.toNat) (x := w) (by lia) (by lia) ?_ (by simpa using hw) (k w c (.refl _ _) ok.sim rw)
  unfold seqIndex?
  have : ¬ i < 0 := by lia
  simp only [this, if_false]
  rw [if_pos (by simp; lia)]
theorem Item.lst {ds : List D} {d : D} (h0 : 0 <= i) (hd : ds[i.toNat]? = some d) (hz : ds.length <= 1000000) : Item (.lst ds) (.int i) d B n σ := by
 intro A c u v ok p q
 cases q with | int _ t =>
 cases p with
 | @lst a1 o1 vs1 n1 p1 p2 p3 p4 =>
  have ht : c.s.heap.IsList a1 vs1.toArray := ⟨_, ok.sim.sub _ _ p1, p2, _, p3⟩
  obtain ⟨w, hw, rw⟩ := p4.get hd
  have hlt := (List.getElem?_eq_some_iff.mp hw).1
  have hl := p4.length
  refine ⟨⟨_, _, ht.typeIs, slot_list_getitem.lookup⟩, fun E Q k => ?_⟩
  exact wpAny_getItem_list ht h0 (by lia) (by simpa using hw) (k w c (.refl _ _) ok.sim rw)
theorem Item.byt {b : List UInt8} (h0 : 0 <= i) (h1 : i < b.length) (hz : b.length <= 1000000) : Item (.bytes b) (.int i) (.int (b.getD i.toNat 0).toNat) B n σ := by
 intro A c u v ok p q
 cases q with | int _ t =>
 cases p with | bytes _ t' =>
 refine ⟨⟨_, _, typeIs_bytes _ _ _, FB.slot_bytes_getitem.lookup⟩, fun E Q k => ?_⟩
 exact getItem_bytes (by lia) h0 h1 (kt ok.sim (.int _ _) k)
theorem Item.obj {x : Nat} {ds : List D} {d : D} (hx : σ[x]? = some (.lst ds)) (h0 : 0 <= i) (hd : ds[i.toNat]? = some d) (hz : ds.length <= 1000000) : Item (.obj x) (.int i) d B n σ := by
 intro A c u v ok p q
 cases q with | int _ t =>
 cases p with
 | @obj _ a p1 =>
  obtain ⟨vs1, n1, e1, p4⟩ := ok.sim.cells x a _ p1 hx
  have ht : c.s.heap.IsList a vs1.toArray := ⟨_, e1, rfl, _, rfl⟩
  obtain ⟨w, hw, rw⟩ := p4.get hd
  have hlt := (List.getElem?_eq_some_iff.mp hw).1
  have hl := p4.length
  refine ⟨⟨_, _, ht.typeIs, slot_list_getitem.lookup⟩, fun E Q k => ?_⟩
  exact wpAny_getItem_list ht h0 (by lia) (by simpa using hw) (k w c (.refl _ _) ok.sim rw)
noncomputable def EvO (o : Option Expr) (d : D) (B : Bs) (gl : Gl) (n : Nat) (ρ : Loc) (σ σ' : Sto) : Prop :=
 ∀ (A : Around) (env : Env) (c : St), Ok B A n σ c -> Frm env gl ρ c -> ∀ (E Q : Want Value), (∀ v c', Le [] c c' -> Sim B σ' c' -> Rep c'.G c'.β v d -> Q v c'.s) -> wpAny (model PG B.w) A (evalPart o env) Q E c.s
theorem EvO.none : EvO .none .none B gl n ρ σ σ := fun A env c ok fr E Q k => by rw [evalPart_none]; exact wpAny_pure (k _ c (.refl _ _) ok.sim .none)
theorem EvO.some {e : Expr} {d : D} (h : Ev e d B gl n ρ σ σ') : EvO (.some e) d B gl n ρ σ σ' := fun A env c ok fr E Q k => by rw [evalPart_some]; exact h A env c ok fr E Q k
noncomputable def Slc (a l u t d : D) (B : Bs) (n : Nat) (σ : Sto) : Prop :=
 ∀ (A : Around) (c : St) (v vl vu vt : Value) (sl : Addr), Ok B A n σ c -> Rep c.G c.β v a -> Rep c.G c.β vl l -> Rep c.G c.β vu u -> Rep c.G c.β vt t -> c.h.IsSliceOf sl vl vu vt -> (∃ T id, c.s.TypeIs v T /\ typeLookup (.type T) "__getitem__" = pure (.some (.builtin id))) /\
  ∀ (E Q : Want Value), (∀ w c', Le [] c c' -> Sim B σ c' -> Rep c'.G c'.β w d -> Q w c'.s) -> wpAny (model PG B.w) A (getItem v (.ref sl)) Q E c.s
theorem Ev.slice {value : Expr} {lo up st : Option Expr} {p pos : Pos} {a l u t d : D} (h : Ev value a B gl n ρ σ σ1) (h1 : EvO lo l B gl n ρ σ1 σ2) (h2 : EvO up u B gl n ρ σ2 σ3) (h3 : EvO st t B gl n ρ σ3 σ4) (hi : Slc a l u t d B n σ4)
  (hs : ∃ f : Value -> Value -> List Value, ∀ o i, subscripted (.Slice lo up st p) false o i = operate (f o i) (getItem o i) := by first | exact ⟨fun o i => [i, o], fun Z Z => rfl⟩ | exact ⟨fun o i => [o, i], fun Z Z => rfl⟩) : Ev (.Subscript value (.Slice lo up st p) pos) d B gl n ρ σ σ4 := by
 intro A env c ok fr E Q k
 obtain ⟨f, hs⟩ := hs
 refine Subscript_ (h A env c ok fr _ _ fun v c1 l1 s1 r1 => ?_)
 have ok1 := ok.step l1 s1
 have fr1 := fr.step l1
 refine wpAny_Slice (h1 A env c1 ok1 fr1 _ _ fun vl c2 l2 s2 r2 => h2 A env c2 (ok1.step l2 s2) (fr1.step l2) _ _ fun vu c3 l3 s3 r3 => h3 A env c3 ((ok1.step l2 s2).step l3 s3) ((fr1.step l2).step l3) _ _ fun vt c4 l4 s4 r4 => ?_)
 let o : Obj := { cls := .type "slice", data := .fields #[vl, vu, vt] }
 have l5 : Le [] c4 ⟨c4.G, c4.β, { c4.s with heap := c4.s.heap.push o }⟩ := le_push [] c4 o
 have s5 := sim_push s4 o
 have l15 := ((l2.trans l3).trans l4).trans l5
 obtain ⟨⟨T, id, hT, hl⟩, hg⟩ := hi A ⟨c4.G, c4.β, { c4.s with heap := c4.s.heap.push o }⟩ v vl vu vt c4.sz (ok1.step l15 s5) (l15.rep r1) (((l3.trans l4).trans l5).rep r2) ((l4.trans l5).rep r3) (l5.rep r4) (Heap.IsSliceOf.new _ _ _ _)
 exact tail_any hT hl (hg _ _ fun w c6 l6 s6 r6 => k w c6 ((l1.trans l15).trans l6) s6 r6) (hs v _)
inductive Part : D -> Option Int -> Prop
 | none : Part .none .none
 | int {i : Int} : Part (.int i) (.some i)
theorem Part.is {G : Gm} {β : List Addr} {v : Value} {d : D} {o : Option Int} (h : Part d o) (r : Rep G β v d) : IsPart v o := by
 cases h with
 | none => cases r; exact .none
 | int => cases r; exact .int _ _
noncomputable def pick {α : Type} (lo hi : Option Int) (l : List α) : List α := (l.drop (kms_lo lo l.length)).take (kms_hi hi l.length - kms_lo lo l.length)
theorem pick_from {α : Type} {l : List α} (h : 0 <= i) : pick (.some i) .none l = l.drop i.toNat := by
 unfold pick kms_lo kms_hi
 simp only [if_neg (show ¬ i < 0 by lia)]
 rw [kmk_drop_min, List.take_of_length_le]
 rw [List.length_drop]; exact Nat.sub_le_sub_left (Nat.min_le_left _ _) _
theorem pick_upto {α : Type} {l : List α} (h : 0 <= i) : pick .none (.some i) l = l.take i.toNat := by
 unfold pick kms_lo kms_hi
 simp only [if_neg (show ¬ i < 0 by lia), List.drop_zero, Nat.sub_zero]
 rw [kmk_take_min]
theorem pick_butlast {α : Type} {l : List α} : pick .none (.some (-1)) l = l.dropLast := by
 unfold pick kms_lo kms_hi
 simp only [if_pos (show (-1 : Int) < 0 by lia), List.drop_zero, Nat.sub_zero]
 rw [List.dropLast_eq_take]; rfl
theorem kms_le (lo : Option Int) (n : Nat) : kms_lo lo n <= n := by unfold kms_lo; split; lia; split <;> lia
theorem kms_hi_le (lo : Option Int) (n : Nat) : kms_hi lo n <= n := by unfold kms_hi; split; lia; split <;> lia
theorem RepAll.pick {G : Gm} {β : List Addr} {vs : List Value} {ds : List D} (r : RepAll G β vs ds) (lo hi : Option Int) : RepAll G β (Pq.pick lo hi vs) (Pq.pick lo hi ds) := by
 unfold Pq.pick
 rw [r.length]
 exact (r.drop _).take _
theorem slicePart_of {prog : Program} {w : World} {A : Around} {E : Want Value} {s : Shared} {v : Value} {o : Option Int} {Q : Option Int -> Shared -> Prop} (h : IsPart v o) (hq : Q o s) : wpAny (model prog w) A (Builtin.Slice.slicePartIndex v) Q E s := by
 cases h with
 | none => exact slicePart_none hq
 | int => exact slicePart_int hq
theorem clip1 (x : Int) (n : Nat) : (if x < 0 then max (x + n) 0 else min x n) = ((if x < 0 then n - (-x).toNat else min x.toNat n : Nat) : Int) := by
 by_cases h : x < 0
 ·obtain ⟨k, rfl⟩ := Int.eq_negSucc_of_lt_zero h
  rw [if_pos h, if_pos h]
  show max (Int.negSucc k + n) 0 = ((n - (k + 1) : Nat) : Int)
  rcases Nat.le_total (k + 1) n with q | q
  ·obtain ⟨m, rfl⟩ := Nat.exists_eq_add_of_le q
   rw [show Int.negSucc k + ((k + 1 + m : Nat) : Int) = (m : Int) by lia, Int.max_eq_left (Int.natCast_nonneg m), Nat.add_sub_cancel_left]
  ·rw [Int.max_eq_right (by lia), Nat.sub_eq_zero_of_le q]; rfl
 ·obtain ⟨k, rfl⟩ := Int.eq_ofNat_of_zero_le (Int.not_lt.mp h)
  rw [if_neg h, if_neg h, Int.toNat_natCast]
  exact (Lean.Omega.Int.ofNat_min k n).symm
theorem adjust_eq (lo hi : Option Int) (n : Nat) : Builtin.Slice.sliceAdjust lo hi 1 (n : Int) = (((kms_lo lo n : Nat) : Int), ((kms_hi hi n : Nat) : Int)) := by
 unfold Builtin.Slice.sliceAdjust kms_lo kms_hi
 have h1 : ¬ ((1 : Int) < 0) := by lia
 simp only [h1, if_false]
 congr 1
 ·cases lo with
  | none => simp
  | some x =>
   exact clip1 x n
 ·cases hi with
  | none => simp
  | some x =>
   exact clip1 x n
theorem places_eq (a b : Nat) : Builtin.Slice.slicePlaces (a : Int) (b : Int) 1 = b - a := by
 unfold Builtin.Slice.slicePlaces
 have h1 : (1 : Int) > 0 := by lia
 simp only [h1, if_true, Int.ediv_one]
 split <;> lia
theorem pick_items (xs : Array Value) (a k : Nat) : ((List.range k).filterMap fun (j : Nat) => xs[((a : Int) + (j : Int) * 1).toNat]?).toArray = ((xs.toList.drop a).take k).toArray := by
 have e : (fun (j : Nat) => xs[((a : Int) + (j : Int) * 1).toNat]?) = fun j => xs[a + j]? := by
  funext j
  have : ((a : Int) + (j : Int) * 1).toNat = a + j := by lia
  rw [this]
 rw [e]
 have := pick_run xs a k
 rw [List.filterMap_map] at this
 have e2 : ((fun x => xs[x]?) ∘ fun x => a + x) = fun k => xs[a + k]? := rfl
 rw [e2] at this
 rw [this]
theorem Slc.tup {ds : List D} {l u : D} {lo hi : Option Int} (hl : Part l lo) (hu : Part u hi) (hz : ds.length <= 1000000) : Slc (.tup ds) l u .none (.tup (pick lo hi ds)) B n σ := by
 intro A c v vl vu vt sl ok p ql qu qt hs
 cases qt
 cases p with
 | @tup a1 o1 vs1 n1 p1 p2 p3 p4 =>
  have ht : IsTup c.s.heap a1 vs1.toArray := ⟨_, ok.sim.sub _ _ p1, p2, _, p3⟩
  refine ⟨⟨_, _, ht.typeIs, slot_tuple_getitem.lookup⟩, fun E Q k => ?_⟩
  obtain ⟨os, hos, hcs, hds⟩ := id hs
  have hTs : c.s.TypeIs (.ref sl) "slice" := ⟨os, hos, hcs⟩
  have kl := kms_le lo vs1.length
  have kh := kms_hi_le hi vs1.length
  unfold getItem
  refine wpAny_holding ?_
  refine wpAny_bind (wpAny_sequenceKey ht.typeIs (by decide) ?_)
  refine wpAny_bind (wpAny_callSpecial?_slot (name := Str.ofString "__getitem__") ht.typeIs slot_tuple_getitem
   (wpAny_call_entry slot_tuple_getitem ht.typeIs entry_tuple_getitem ?_ (args_tuple_getitem _ _)))
  show wpAny _ _ (Builtin.Tuple.tupleItemsOf (.ref a1) >>= _) _ _ c.s
  refine wpAny_bind (tupleItemsOf_ ht ?_)
  refine wpAny_bind (wpAny_typeOf hTs ?_)
  refine wp_pos (by decide) ?_
  have app : ∀ {Q : Int × Int × Nat -> Shared -> Prop} {A : Around} {E : Want Value}, Q (((kms_lo lo vs1.length : Nat) : Int), 1, kms_hi hi vs1.length - kms_lo lo vs1.length) c.s ->
    wpAny (model PG B.w) A (Builtin.Slice.sliceApplied (.ref sl) (pure ((vs1.toArray.size : Nat) : Int))) Q E c.s := fun {Q A E} h => by
   unfold Builtin.Slice.sliceApplied Builtin.Slice.sliceFields
   refine wpAny_bind (wpAny_bind (wpAny_field hos hds (x := vl) rfl (wpAny_bind (wpAny_field hos hds (x := vu) rfl (wpAny_bind (wpAny_field hos hds (x := .none) rfl (wpAny_pure ?_)))))))
   refine wpAny_bind (slicePart_none ?_)
   show wpAny _ _ (if ((1 : Int) == 0) = true then _ else _) _ _ _
   refine wp_neg (by decide) ?_
   refine wpAny_bind (slicePart_of (hl.is ql) (wpAny_bind (slicePart_of (hu.is qu) (wpAny_bind (wpAny_pure ?_)))))
   show wpAny _ _ (match Builtin.Slice.sliceAdjust lo hi 1 ((vs1.toArray.size : Nat) : Int) with | (lo, hi) => pure (lo, (1 : Int), Builtin.Slice.slicePlaces lo hi 1)) _ _ _
   rw [List.size_toArray, adjust_eq]
   show wpAny _ _ (pure (((kms_lo lo vs1.length : Nat) : Int), (1 : Int), Builtin.Slice.slicePlaces ((kms_lo lo vs1.length : Nat) : Int) ((kms_hi hi vs1.length : Nat) : Int) 1)) _ _ _
   rw [places_eq]
   exact wpAny_pure h
  refine wpAny_bind (app ?_)
  refine wpAny_ite ?_
  by_cases hw : kms_lo lo vs1.length = 0 /\ kms_hi hi vs1.length - kms_lo lo vs1.length = vs1.length
  ·rw [if_pos (by have h1 := hw.1; have h2 := hw.2; rw [h1] at h2; simp [h1]; lia)]
   show wpAny _ _ (Builtin.Tuple.tupleIsExact (.ref a1) >>= fun r => _) _ _ c.s
   unfold Builtin.Tuple.tupleIsExact
   refine wpAny_bind (wpAny_bind (wpAny_typeOf ht.typeIs (wpAny_pure ?_)))
   refine wpAny_ite ?_
   rw [if_pos (by decide)]
   refine wpAny_bind (wpAny_rule (wpAny_pure ⟨_, rfl, wpAny_pure (k _ c (.refl _ _) ok.sim ?_)⟩))
   have : pick lo hi ds = ds := by
    unfold pick
    rw [<- p4.length, hw.2, hw.1, List.drop_zero, p4.length, List.take_length]
   rw [this]
   exact .tup p1 p2 p3 p4
  ·rw [if_neg (by simp only [Bool.and_eq_true, beq_iff_eq, not_and]; intro h1; simp only [List.size_toArray]; intro h2; exact hw ⟨by lia, h2⟩)]
   have e := pick_items vs1.toArray (kms_lo lo vs1.length) (kms_hi hi vs1.length - kms_lo lo vs1.length)
   show wpAny _ _ (Builtin.Tuple.tupleExact ((List.range (kms_hi hi vs1.length - kms_lo lo vs1.length)).filterMap fun (j : Nat) => vs1.toArray[(((kms_lo lo vs1.length : Nat) : Int) + (j : Int) * 1).toNat]?).toArray >>= fun r => _) _ _ c.s
   rw [e]
   refine wpAny_bind (wpAny_newObj_type (wpAny_pure ⟨_, rfl, wpAny_pure (newT ok.sim (p4.pick lo hi) k)⟩) ?_)
   exact Nat.le_trans (((List.take_sublist _ _).trans (List.drop_sublist _ vs1)).length_le) (Nat.le_trans (p4.length ▸ hz) (by decide))
end
end
section
section
variable {B : Bs} {gl : Gl} {n m : Nat} {ρ ρ' : Loc} {σ σ' σ1 σ2 σ3 σ4 : Sto} {i j : Int}
theorem Slc.lst {ds : List D} {l u : D} {lo hi : Option Int} (hl : Part l lo) (hu : Part u hi) (hz : ds.length <= 1000000) : Slc (.lst ds) l u .none (.lst (pick lo hi ds)) B n σ := by
 intro A c v vl vu vt sl ok p ql qu qt hs
 cases qt
 cases p with
 | @lst a1 o1 vs1 n1 p1 p2 p3 p4 =>
  have ht : c.s.heap.IsList a1 vs1.toArray := ⟨_, ok.sim.sub _ _ p1, p2, _, p3⟩
  refine ⟨⟨_, _, ht.typeIs, slot_list_getitem.lookup⟩, fun E Q k => ?_⟩
  refine wpAny_getItem_list_slice ht hs (hl.is ql) (hu.is qu) .none (by simp) ?_ (by rw [List.size_toArray, p4.length, sizeLine_eq]; lia)
  rw [kms_pick_eq]
  exact newL ok.sim (p4.pick lo hi) k
theorem Slc.rev {ds : List D} (hz : ds.length <= 1000000) : Slc (.lst ds) .none .none (.int (-1)) (.lst ds.reverse) B n σ := by
 intro A c v vl vu vt sl ok p ql qu qt hs
 cases ql
 cases qu
 have pt := Part.is (.int (i := -1)) qt
 cases p with
 | @lst a1 o1 vs1 n1 p1 p2 p3 p4 =>
  have ht : c.s.heap.IsList a1 vs1.toArray := ⟨_, ok.sim.sub _ _ p1, p2, _, p3⟩
  refine ⟨⟨_, _, ht.typeIs, slot_list_getitem.lookup⟩, fun E Q k => ?_⟩
  refine wpAny_getItem_list_slice ht hs .none .none pt (by simp) ?_ (by rw [List.size_toArray, p4.length, sizeLine_eq]; lia)
  rw [krv_pick]
  exact newL ok.sim p4.reverse k
theorem clip2 (x : Int) (n : Nat) : clipAt n x = if x < 0 then n - (-x).toNat else min x.toNat n := by
 unfold clipAt
 by_cases h : x < 0
 ·refine x1_1 (Int.eq_negSucc_of_lt_zero h) fun k Q => ?_; subst Q
  rw [if_pos h, if_pos h, Int.min_eq_left (by lia)]
  rcases Nat.le_total (k + 1) n with q | q
  ·refine x1_1 (Nat.exists_eq_add_of_le q) fun m Q => ?_; subst Q
   rw [show Int.negSucc k + ((k + 1 + m : Nat) : Int) = (m : Int) by lia, Int.max_eq_right (Int.natCast_nonneg m)]
   exact (Nat.add_sub_cancel_left _ _).symm
  ·rw [Int.max_eq_left (by lia)]
   exact (Nat.sub_eq_zero_of_le q).symm
 ·refine x1_1 (Int.eq_ofNat_of_zero_le (Int.not_lt.mp h)) fun k Q => ?_; subst Q
  rw [if_neg h, if_neg h, Int.toNat_natCast]
  rcases Nat.le_total k n with q | q
  ·rw [Int.min_eq_left (by lia), Nat.min_eq_left q]; rfl
  ·rw [Int.min_eq_right (by lia), Nat.min_eq_right q]; rfl
theorem picked_list (b : List UInt8) (lo hi : Option Int) : KBy.picked b.toArray lo hi = (pick lo hi b).toArray := by
 rw [KBc.picked_eq]
 unfold pick
 have e1 : lo.elim 0 (clipAt b.toArray.size) = kms_lo lo b.length := by
  cases lo with
  | none => rfl
  | some x => exact clip2 x b.length
 have e2 : hi.elim b.toArray.size (clipAt b.toArray.size) = kms_hi hi b.length := by
  cases hi with
  | none => rfl
  | some x => exact clip2 x b.length
 rw [e1, e2]
theorem Slc.byt {b : List UInt8} {l u : D} {lo hi : Option Int} (hl : Part l lo) (hu : Part u hi) (hz : b.length <= 1000000) : Slc (.bytes b) l u .none (.bytes (pick lo hi b)) B n σ := by
 intro A c v vl vu vt sl ok p ql qu qt hs
 cases qt
 cases p with
 | bytes _ t =>
  refine ⟨⟨_, _, typeIs_bytes _ _ _, FB.slot_bytes_getitem.lookup⟩, fun E Q k => ?_⟩
  have hsz : (KBy.picked b.toArray lo hi).size <= sizeLine := Nat.le_trans (KBc.size_picked_le b.toArray lo hi) (by rw [List.size_toArray, sizeLine_eq]; lia)
  exact getItem_meets (typeIs_bytes _ _ _) (by decide) FB.slot_bytes_getitem FB.entry_bytes_getitem (FB.args_bytes_getitem_2 _ _) (KBc.meets_slice2 b.toArray t _ (hl.is ql) (hu.is qu))
   ⟨hs, hsz, fun t' k' => by rw [picked_list]; exact kt ok.sim (.bytes _ _) k⟩
theorem CallV.lenT {ds : List D} (hz : ds.length <= 1000000) : CallV (.builtin "len") [.tup ds] (.int ds.length) B n σ σ := fun A c vs ok p E Q k => by
 cases p with | cons p q =>
 cases q
 cases p with
 | @tup a1 o1 vs1 n1 p1 p2 p3 p4 =>
  have hl := p4.length
  refine PyProof.Rows.len_tuple ⟨_, ok.sim.sub _ _ p1, p2, _, p3⟩ (by rw [List.size_toArray, hl]; lia) ?_
  rw [List.size_toArray, hl]
  exact kt ok.sim (.int _ _) k
theorem CallV.lenL {ds : List D} (hz : ds.length <= 1000000) : CallV (.builtin "len") [.lst ds] (.int ds.length) B n σ σ := fun A c vs ok p E Q k => by
 cases p with | cons p q =>
 cases q
 cases p with
 | @lst a1 o1 vs1 n1 p1 p2 p3 p4 =>
  have hl := p4.length
  refine PySem.Calls.call_len_list ⟨_, ok.sim.sub _ _ p1, p2, _, p3⟩ (by rw [List.size_toArray, hl]; lia) ?_
  rw [List.size_toArray, hl]
  exact kt ok.sim (.int _ _) k
theorem CallV.lenO {x : Nat} {ds : List D} (hx : σ[x]? = some (.lst ds)) (hz : ds.length <= 1000000) : CallV (.builtin "len") [.obj x] (.int ds.length) B n σ σ := fun A c vs ok p E Q k => by
 cases p with | cons p q =>
 cases q
 cases p with
 | @obj _ a p1 =>
  refine x2_2 (ok.sim.cells x a _ p1 hx) fun vs1 n1 e1 p4 => ?_
  have hl := p4.length
  refine PySem.Calls.call_len_list ⟨_, e1, rfl, _, rfl⟩ (by rw [List.size_toArray, hl]; lia) ?_
  rw [List.size_toArray, hl]
  exact kt ok.sim (.int _ _) k
theorem CallV.lenY {b : List UInt8} (hz : b.length <= 1000000) : CallV (.builtin "len") [.bytes b] (.int b.length) B n σ σ := fun A c vs ok p E Q k => by
 cases p with | cons p q =>
 cases q
 cases p with | bytes _ t =>
 exact len_bytes (by rw [List.size_toArray]; lia) (kt ok.sim (by rw [List.size_toArray]; exact .int _ _) k)
theorem CallV.min2 : CallV (.builtin "min") [.int i, .int j] (.int (min i j)) B n σ σ := fun A c vs ok p E Q k => by
 cases p with | cons p q =>
 cases q with | cons q r =>
 cases r
 cases p; cases q
 refine wpAny_size (min_two_ints ok.hnd fun h' tk hk hz => ?_)
 refine k _ ⟨c.G, c.β, { c.s with heap := h', toks := tk }⟩ (le_ext hk hz) (sim_ext ok.sim hk hz) ?_
 by_cases h : j < i
 ·rw [if_pos h, Int.min_eq_right (by lia)]; exact .int _ _
 ·rw [if_neg h, Int.min_eq_left (by lia)]; exact .int _ _
theorem CallV.tupT {ds : List D} : CallV (.type "tuple") [.tup ds] (.tup ds) B n σ σ := fun A c vs ok p E Q k => by
 cases p with | cons p q =>
 cases q
 cases p with
 | @tup a1 o1 vs1 n1 p1 p2 p3 p4 => exact call_tuple_same ⟨_, ok.sim.sub _ _ p1, p2, _, p3⟩ (k _ c (.refl _ _) ok.sim (.tup p1 p2 p3 p4))
theorem meets_tuple_of (l : Addr) (o : Obj) (items : Array Value) (m : Nat) (hc : o.cls = .type "list") (hd : o.data = .seq items m) (hsz : items.size <= sizeLine) :
  Meets (Builtin.«tuple.__new__» ⟨[.type "tuple", .ref l], []⟩)
   (fun Z R s => s.heap.get? l = some o /\ ∀ h' : Heap, (∀ b o', s.heap.get? b = some o' -> h'.get? b = some o') -> s.heap.objs.size <= h'.objs.size -> R (.ok (.ret (.ref h'.objs.size))) { s with heap := h'.push { cls := .type "tuple", data := .seq items } }) :=
 .of_wp fun prog w A R s h => by
  obtain ⟨hp, g, d, tk, os⟩ := s; obtain ⟨ht, h⟩ := h
  have hsub := sub_tuple_self
  have hinit := init_tuple_lookup
  have hmh := madeHere_tuple
  have hT : Shared.TypeIs ⟨hp, g, d, tk, os⟩ (.ref l) "list" := ⟨o, ht, hc⟩
  have col : ∀ {A : Around} {E : Want Value} {Q : List Value -> Shared -> Prop}, (∀ h' : Heap, (∀ b o', hp.get? b = some o' -> h'.get? b = some o') -> hp.objs.size <= h'.objs.size -> Q items.toList ⟨h', g, d, tk, os⟩) -> wpAny (model prog w) A (collect (.ref l)) Q E ⟨hp, g, d, tk, os⟩ :=
   fun hq => wpAny_size (wpAny_collect_seq (hsz := hsz) l (.inl rfl) ht hc hd fun h' hk hz => hq h' hk hz)
  wp_walk using AutoSeq1.wpAny_loadPart' ht, wpAny_typeOf hT, col
  intro h' hk hz
  show wpAny _ _ (Builtin.Tuple.tupleExact items.toList.toArray >>= fun v => ret v) _ _ _
  unfold Builtin.Tuple.tupleExact
  refine wpAny_bind (wpAny_newObj_type ?_ (by show items.toList.toArray.size <= sizeLine; simpa using hsz))
  refine wpAny_pure ⟨_, rfl, ?_⟩
  have e : items.toList.toArray = items := by simp
  rw [e]
  exact h h' hk hz
theorem call_tuple_of {A : Around} {c : St} {l : Addr} {o : Obj} {vs : List Value} {ds : List D} {m' : Nat} {E Q : Want Value} (s : Sim B σ c) (ho : c.h.get? l = some o) (hc : o.cls = .type "list") (hd : o.data = .seq vs.toArray m') (r : RepAll c.G c.β vs ds) (hz : ds.length <= 1000000)
  (k : ∀ v c', Le [] c c' -> Sim B σ c' -> Rep c'.G c'.β v (.tup ds) -> Q v c'.s) : wpAny (model PG B.w) A (call (.type "tuple") [.ref l]) Q E c.s := by
 refine callType_new F.called_tuple (by decide) (F.typeCall_tuple_1 _) (F.newCall_tuple_1 _) (fun obj => F.args_object_init_2 obj _) F.entry_tuple_new
  (meets_tuple_of l o vs.toArray m' hc hd (by rw [List.size_toArray, r.length, sizeLine_eq]; lia)) ⟨ho, fun h' hk hs => ⟨⟨_, Heap.get?_push_size _ rfl, rfl⟩, ?_⟩⟩
 have l1 : Le [] c ⟨c.G, c.β, { c.s with heap := h' }⟩ := le_ext (t := c.s.toks) hk hs
 have s1 := sim_ext (t := c.s.toks) s hk hs
 exact newT s1 (l1.repAll r) fun v c' l2 s2 r2 => k v c' (l1.trans l2) s2 r2
theorem CallV.tupL {ds : List D} (hz : ds.length <= 1000000) : CallV (.type "tuple") [.lst ds] (.tup ds) B n σ σ := fun A c vs ok p E Q k => by
 cases p with | cons p q =>
 cases q
 cases p with
 | @lst a1 o1 vs1 n1 p1 p2 p3 p4 => exact call_tuple_of ok.sim (ok.sim.sub _ _ p1) p2 p3 p4 hz k
theorem CallV.tupO {x : Nat} {ds : List D} (hx : σ[x]? = some (.lst ds)) (hz : ds.length <= 1000000) : CallV (.type "tuple") [.obj x] (.tup ds) B n σ σ := fun A c vs ok p E Q k => by
 cases p with | cons p q =>
 cases q
 cases p with
 | @obj _ a p1 =>
  refine x2_2 (ok.sim.cells x a _ p1 hx) fun vs1 n1 e1 p4 => ?_
  exact call_tuple_of ok.sim e1 rfl rfl p4 hz k
theorem ints_are {G : Gm} {β : List Addr} : ∀ {l : List Int} {vs : List Value}, RepAll G β vs (l.map D.int) -> IntsAre vs l
 | [], _, h => by cases h; exact .nil
 | _ :: _, _, h => by
  cases h with | cons p r =>
  cases p
  exact .cons _ _ (ints_are r)
theorem call_bytes_of {A : Around} {c : St} {l : Addr} {vs : List Value} {ks : List Int} {E Q : Want Value} (ok : Ok B A n σ c) (hl : c.h.IsList l vs.toArray) (r : RepAll c.G c.β vs (ks.map D.int)) (hr : ∀ k ∈ ks, 0 <= k /\ k < 256) (hz : ks.length <= 1000000)
  (k : ∀ v c', Le [] c c' -> Sim B σ c' -> Rep c'.G c'.β v (.bytes (ks.map fun k => k.toNat.toUInt8)) -> Q v c'.s) : wpAny (model PG B.w) A (call (.type "bytes") [.ref l]) Q E c.s := by
 have hi := ints_are r
 refine wpAny_size (call_bytes_ints hl hi hr (by rw [hi.length, sizeLine_eq]; lia) ok.hnd fun h' t tk hk hs => ?_)
 refine k _ ⟨c.G, c.β, { c.s with heap := h', toks := tk }⟩ (le_ext hk hs) (sim_ext ok.sim hk hs) ?_
 have e : byteArr ks = (ks.map fun k => k.toNat.toUInt8).toArray := by
  unfold byteArr
  simp
 rw [e]
 exact .bytes _ _
theorem CallV.bytL {ks : List Int} (hr : ∀ k ∈ ks, 0 <= k /\ k < 256) (hz : ks.length <= 1000000) : CallV (.type "bytes") [.lst (ks.map D.int)] (.bytes (ks.map fun k => k.toNat.toUInt8)) B n σ σ := fun A c vs ok p E Q k => by
 cases p with | cons p q =>
 cases q
 cases p with
 | @lst a1 o1 vs1 n1 p1 p2 p3 p4 => exact call_bytes_of ok ⟨_, ok.sim.sub _ _ p1, p2, _, p3⟩ p4 hr hz k
theorem CallV.bytO {x : Nat} {ks : List Int} (hx : σ[x]? = some (.lst (ks.map D.int))) (hr : ∀ k ∈ ks, 0 <= k /\ k < 256) (hz : ks.length <= 1000000) : CallV (.type "bytes") [.obj x] (.bytes (ks.map fun k => k.toNat.toUInt8)) B n σ σ := fun A c vs ok p E Q k => by
 cases p with | cons p q =>
 cases q
 cases p with
 | @obj _ a p1 =>
  refine x2_2 (ok.sim.cells x a _ p1 hx) fun vs1 n1 e1 p4 => ?_
  exact call_bytes_of ok ⟨_, e1, rfl, _, rfl⟩ p4 hr hz k
theorem CallV.lstT {ds : List D} (hz : ds.length <= 1000000) : CallV (.type "list") [.tup ds] (.obj σ.length) B n σ (σ ++ [.lst ds]) := fun A c vs ok p E Q k => by
 cases p with | cons p q =>
 cases q
 cases p with
 | @tup a1 o1 vs1 n1 p1 p2 p3 p4 =>
  refine wpAny_size (call_list_seq a1 (.inr rfl) (ok.sim.sub _ _ p1) p2 p3 (fun h' c' hk hD hs => ?_) (by rw [List.size_toArray, p4.length, sizeLine_eq]; lia))
  let c1 : St := ⟨c.G, c.β ++ [c.sz], { c.s with heap := h' }⟩
  have hs' : c.sz < h'.objs.size := Heap.lt_size hD
  have hk' : ∀ b o, c.h.get? b = some o -> h'.get? b = some o := hk
  have l1 : Le [] c c1 := ⟨fun Z Z h => h, fun Z h Z Z => h, ⟨[c.sz], rfl, fun a h => by rw [List.mem_singleton.mp h]; exact Nat.le_refl _⟩, fun b o h Z Z => ⟨o, hk b o h, .refl o⟩, hs, rfl⟩
  refine k _ c1 l1 ?_ (.obj ?_)
  ·exact own_ext ok.sim hk' hs' (y := .lst ds) ⟨vs1, c', hD, l1.repAll p4⟩
  ·show (c.β ++ [c.sz])[σ.length]? = some c.sz
   rw [<- ok.sim.len, List.getElem?_append_right (Nat.le_refl _)]; simp
end
end
section
section
variable {B : Bs} {gl : Gl} {n m : Nat} {ρ ρ' : Loc} {σ σ' σ1 σ2 σ3 σ4 : Sto} {i j : Int}
theorem le_mutc {c : St} {x : Nat} {a : Addr} {h' : Heap} {t : Nat} (ha : c.β[x]? = some a) (hs : Heap.SameBut a c.h h') : Le [] c ⟨c.G, c.β, { c.s with heap := h', toks := t }⟩ :=
 ⟨fun Z Z h => h, fun Z h Z Z => h, ⟨[], by simp, fun Z h => nomatch h⟩, fun b o h hb Z => ⟨o, by rw [<- h]; exact hs.2 b fun e => hb (e ▸ List.mem_of_getElem? ha), .refl o⟩, Nat.le_of_eq hs.1.symm, rfl⟩
theorem sim_mutc {c : St} {x : Nat} {a : Addr} {y y' : Cell} {h' : Heap} {t : Nat} (s : Sim B σ c) (ha : c.β[x]? = some a) (hx : σ[x]? = some y) (hd : ∀ (_ : y = Cell.dead), False) (hs : Heap.SameBut a c.h h') (hy : CellAt B.w c.G c.β h' a y') :
  Sim B (σ.set x y') ⟨c.G, c.β, { c.s with heap := h', toks := t }⟩ := by
 have hg := s.off x a y ha hx hd
 have hG : ∀ b o, c.G b = some o -> h'.get? b = some o := fun b o h => (hs.2 b fun e => by rw [e, hg] at h; cases h).trans (s.sub b o h)
 have hxl := (List.getElem?_eq_some_iff.mp hx).1
 have get : ∀ {i : Nat} {z : Cell}, (σ.set x y')[i]? = some z -> (i = x /\ z = y') \/ (i ≠ x /\ σ[i]? = some z) := fun {i z} h => by
  by_cases hi : i = x
  ·subst hi
   rw [List.getElem?_set_self hxl] at h
   cases h
   exact .inl ⟨rfl, rfl⟩
  ·rw [List.getElem?_set_ne (Ne.symm hi)] at h
   exact .inr ⟨hi, h⟩
 refine ⟨s.base, hG, by rw [List.length_set]; exact s.len, s.nodup, s.mods, fun b hb => Nat.lt_of_lt_of_le (s.low b hb) (Nat.le_of_eq hs.1.symm), fun i b z h1 h2 h3 => ?_, fun i b z h1 h2 => ?_⟩
 ·rcases get h2 with ⟨rfl, rfl⟩ | ⟨_, h2⟩
  ·rw [ha] at h1; cases h1; exact hg
  ·exact s.off i b z h1 h2 h3
 ·rcases get h2 with ⟨rfl, rfl⟩ | ⟨hi, h2⟩
  ·rw [ha] at h1; cases h1; exact hy
  ·have hba : b ≠ a := fun e => by
    subst e
    refine x1_1 (List.getElem?_eq_some_iff.mp h1) fun l1 e1 => ?_
    refine x1_1 (List.getElem?_eq_some_iff.mp ha) fun l2 e2 => ?_
    have pw := List.pairwise_iff_getElem.mp s.nodup
    rcases Nat.lt_trichotomy i x with h | h | h
    ·exact pw i x l1 l2 h (e1.trans e2.symm)
    ·exact hi h
    ·exact pw x i l2 l1 h (e2.trans e1.symm)
   exact (s.cells i b z h1 h2).mono (fun Z Z h => h) (fun Z Z h => h) hG fun o h => (hs.2 b hba).trans h
theorem Meth.list {x : Nat} {ds : List D} {name : Str} {id : String} (hx : σ[x]? = some (.lst ds)) (slot : Slot "list" name id) (hty : typeOf (.builtin id) = pure (.type "method_descriptor")) : Meth (.obj x) name (.builtin id) B σ := by
 intro A c u n ok r pl E Q k
 cases r with
 | @obj _ a p1 =>
  refine x2_2 (ok.sim.cells x a _ p1 hx) fun vs1 n1 e1 p4 => ?_
  exact getMethod_list_of slot hty (items := vs1.toArray) ⟨_, e1, rfl, _, rfl⟩ ⟨_, e1, rfl⟩ k
theorem CallV.append {x : Nat} {ds : List D} {d : D} (hx : σ[x]? = some (.lst ds)) (hz : ds.length <= 1000000) : CallV (.builtin "list.append") [.obj x, d] .none B n σ (σ.set x (.lst (ds ++ [d]))) := fun A c vs ok p E Q k => by
 cases p with | cons p q =>
 cases q with | cons q r =>
 cases r
 cases p with
 | @obj _ a p1 =>
  refine x2_2 (ok.sim.cells x a _ p1 hx) fun vs1 n1 e1 p4 => ?_
  refine wpAny_list_append_plain ⟨n1, e1⟩ (fun h' hp hs => ?_) (by rw [List.size_toArray, p4.length, sizeLine_eq]; lia)
  refine x1_1 hp fun n2 e2 => ?_; clear hp
  have l := le_mutc (t := c.s.toks) p1 hs
  refine k _ ⟨c.G, c.β, { c.s with heap := h' }⟩ l (sim_mutc (t := c.s.toks) ok.sim p1 hx nofun hs ⟨vs1 ++ [_], n2, ?_, p4.append (.cons q .nil)⟩) .none
  simpa using e2
theorem list_extend_any (l : Addr) (items : Array Value) (n : Nat) (b : Addr) (items2 : Array Value) (n2 : Nat) (dd2 : Option Addr) (sl2 : Array (Option Value)) (hc0 : ¬(!items.isEmpty && Builtin.List.listTooLong (items.size + items2.size)) = true) (hc1 : items.size <= sizeLine) (hs2 : items.size + items2.size <= sizeLine + 1) :
  Meets (Builtin.«list.extend» ⟨[.ref l, .ref b], []⟩) (fun Z R s => s.heap.get? l = some { cls := .type "list", dict := none, data := .seq items n, slots := #[] } /\ s.heap.get? b = some { cls := .type "list", dict := dd2, data := .seq items2 n2, slots := sl2 } /\ R (.ok (.ret Value.none)) { s with heap := s.heap.update l (Obj.mapSeq fun x => x ++ items2), toks := s.toks }) :=
 .of_wp fun prog w A R s h => by
  obtain ⟨hp, g, d, tk, os⟩ := s; obtain ⟨hl, hb, h⟩ := h; have f1 := AutoSeq1.idx_int; have f2 := AutoSeq1.sub_tuple_tuple; have f3 := AutoSeq1.sub_list_list; have f4 := AutoSeq1.sub_tuple_list; have f5 := AutoSeq1.sub_list_tuple
  have hz' : (items ++ items2).size <= sizeLine + 1 := by rw [Array.size_append]; exact hs2
  wp_walk using (wpAny_updateSeq hl rfl (hz := hc1) (_hz' := hz')), AutoSeq1.wpAny_loadPart' hl, AutoSeq1.wpAny_loadPart' hb; exact ⟨_, rfl, h⟩
theorem CallV.extend {x : Nat} {ds es : List D} (hx : σ[x]? = some (.lst ds)) (hz : ds.length + es.length <= 1000000) : CallV (.builtin "list.extend") [.obj x, .lst es] .none B n σ (σ.set x (.lst (ds ++ es))) := fun A c vs ok p E Q k => by
 cases p with | cons p q =>
 cases q with | cons q r =>
 cases r
 cases p with
 | @obj _ a p1 =>
  refine x2_2 (ok.sim.cells x a _ p1 hx) fun vs1 n1 e1 p4 => ?_
  cases q with
  | @lst a2 o2 vs2 n2 q1 q2 q3 q4 =>
   have h2 := ok.sim.sub _ _ q1
   obtain ⟨cls2, dd2, data2, sl2⟩ := o2
   simp only at q2 q3
   subst q2 q3
   have z1 : vs1.toArray.size = ds.length := by rw [List.size_toArray, p4.length]
   have z2 : vs2.toArray.size = es.length := by rw [List.size_toArray, q4.length]
   refine call_meets F.slot_list_extend ⟨_, e1, rfl⟩ F.entry_list_extend (F.args_list_extend_2 _ _) (list_extend_any a vs1.toArray n1 a2 vs2.toArray n2 dd2 sl2 (by rw [z1, z2]; simp [Builtin.List.listTooLong, sizeLine]; lia) (by rw [z1, sizeLine_eq]; lia) (by rw [z1, z2, sizeLine_eq]; lia)) ⟨e1, h2, ?_⟩
   have hs : Heap.SameBut a c.h (c.s.heap.update a (Obj.mapSeq fun x => x ++ vs2.toArray)) := Heap.SameBut.update ..
   have l := le_mutc (t := c.s.toks) p1 hs
   refine x1_1 (Obj.data_mapSeq (o := listOf vs1.toArray n1) rfl (fun x => x ++ vs2.toArray)) fun n' e' => ?_
   refine k _ ⟨c.G, c.β, { c.s with heap := _ }⟩ l (sim_mutc (t := c.s.toks) ok.sim p1 hx nofun hs ⟨vs1 ++ vs2, n', ?_, p4.append q4⟩) .none
   rw [Heap.get?_update_self _ e1 (Obj.isFreed_of_seq e')]
   congr 1
   show Obj.mapSeq _ (listOf vs1.toArray n1) = listOf (vs1 ++ vs2).toArray n'
   simp [Obj.mapSeq] at e' ⊢
   exact e'
noncomputable def SetI (a i v : D) (B : Bs) (n : Nat) (σ σ' : Sto) : Prop :=
 ∀ (A : Around) (c : St) (u w z : Value), Ok B A n σ c -> Rep c.G c.β u a -> Rep c.G c.β w i -> Rep c.G c.β z v -> ∀ (E : Want Value) (Q : Want Unit), (∀ c', Le [] c c' -> Sim B σ' c' -> Q () c'.s) -> wpAny (model PG B.w) A (setItem u w z) Q E c.s
theorem SetI.lst {x : Nat} {ds : List D} {d : D} (hx : σ[x]? = some (.lst ds)) (h0 : 0 <= i) (h1 : i.toNat < ds.length) (hz : ds.length <= 1000000) : SetI (.obj x) (.int i) d B n σ (σ.set x (.lst (ds.set i.toNat d))) := by
 intro A c u w z ok ru rw rz E Q k
 cases rw with | int _ t =>
 cases ru with
 | @obj _ a p1 =>
  refine x2_2 (ok.sim.cells x a _ p1 hx) fun vs1 n1 e1 p4 => ?_
  have z1 : vs1.toArray.size = ds.length := by rw [List.size_toArray, p4.length]
  refine ki_setAt e1 h0 (by lia) (by rw [z1]; lia) ?_
  have hs : Heap.SameBut a c.h (c.s.heap.update a (Obj.mapSeq (·.setIfInBounds i.toNat z))) := Heap.SameBut.update ..
  refine x1_1 (Obj.data_mapSeq (o := listOf vs1.toArray n1) rfl (·.setIfInBounds i.toNat z)) fun n' e' => ?_
  refine k ⟨c.G, c.β, { c.s with heap := _ }⟩ (le_mutc (t := c.s.toks) p1 hs) (sim_mutc (t := c.s.toks) ok.sim p1 hx nofun hs ⟨vs1.set i.toNat z, n', ?_, p4.set rz _⟩)
  rw [Heap.get?_update_self _ e1 (Obj.isFreed_of_seq e')]
  congr 1
  show Obj.mapSeq _ (listOf vs1.toArray n1) = listOf (vs1.set i.toNat z).toArray n'
  simp [Obj.mapSeq] at e' ⊢
  exact e'
theorem St1.setitem {o i value : Expr} {p pos : Pos} {a k v : D} (hv : Ev value v B gl n ρ σ σ1) (ho : Ev o a B gl n ρ σ1 σ2) (hi : Ev i k B gl n ρ σ2 σ3) (hs : SetI a k v B n σ3 σ4)
  (hw : ∀ env, swapsWith value (some (.Subscript o i p)) pos.line env = pure false := by intro _; rfl) : St1 (.Assign [.Subscript o i p] value pos) B gl n ρ ρ σ σ4 := by
 intro A env c al st ok fr E Q kq
 refine wpAny_Assign_Subscript (hv A env c ok fr _ _ fun vv c1 l1 s1 r1 => ?_) (hw env)
 have ok1 := ok.step l1 s1
 have fr1 := fr.step l1
 refine ho A env c1 ok1 fr1 _ _ fun vo c2 l2 s2 r2 => hi A env c2 (ok1.step l2 s2) (fr1.step l2) _ _ fun vi c3 l3 s3 r3 => ?_
 refine hs A c3 vo vi vv ((ok1.step l2 s2).step l3 s3) (l3.rep r2) r3 (l3.rep (l2.rep r1)) _ _ fun c4 l4 s4 => ?_
 have l14 := ((l1.trans l2).trans l3).trans l4
 exact kq c4 (le_mut l14) s4 (fr.step l14) st
end
end
section
section
variable {K : Type} [DecidableEq K]
noncomputable def dget (kvs : List (K × D)) (k : K) : Option D := (kvs.find? fun x => decide (x.1 = k)).map (fun x => x.2)
noncomputable def dput (kvs : List (K × D)) (k : K) (d : D) : List (K × D) := if (dget kvs k).isSome then kvs.map (fun x => if x.1 = k then (x.1, d) else x) else kvs ++ [(k, d)]
noncomputable def ddel (kvs : List (K × D)) (k : K) : List (K × D) := kvs.filter fun x => !decide (x.1 = k)
end
section
variable {G : Gm} {β : List Addr}
theorem PdRep.get : ∀ {xs : List (List Int × Addr × Value)} {kvs : List (List Int × D)} (_ : PdRep G β xs kvs) (p : List Int), (dget kvs p = none /\ atKey xs p = none) \/ ∃ d q, dget kvs p = some d /\ atKey xs p = some q /\ Rep G β q.2 d
 | [], [], _, p => .inl ⟨rfl, rfl⟩
 | x :: xs, k :: ks, r, p => by
  obtain ⟨⟨e, r1, r2⟩, r3⟩ := r
  by_cases h : k.1 = p
  ·refine .inr ⟨k.2, x.2, ?_, ?_, r2⟩
   ·simp [dget, h]
   ·simp [atKey, e, h]
  ·have := PdRep.get r3 p
   have e1 : dget (k :: ks) p = dget ks p := by simp [dget, h]
   have e2 : atKey (x :: xs) p = atKey xs p := by simp [atKey, e, h]
   rw [e1, e2]; exact this
theorem PdRep.append : ∀ {xs ys : List (List Int × Addr × Value)} {ks ls : List (List Int × D)}, PdRep G β xs ks -> PdRep G β ys ls -> PdRep G β (xs ++ ys) (ks ++ ls)
 | [], _, [], _, _, h => h
 | _ :: _, _, _ :: _, _, h, k => ⟨h.1, PdRep.append h.2 k⟩
theorem PdRep.putAll {p : List Int} {v : Value} {d : D} (rv : Rep G β v d) : ∀ {xs : List (List Int × Addr × Value)} {ks : List (List Int × D)}, PdRep G β xs ks -> PdRep G β (xs.map (putAt p v)) (ks.map fun x => if x.1 = p then (x.1, d) else x)
 | [], [], _ => trivial
 | x :: xs, k :: ks, r => by
  obtain ⟨⟨e, r1, r2⟩, r3⟩ := r
  refine ⟨?_, PdRep.putAll rv r3⟩
  unfold putAt
  dsimp only
  by_cases h : k.1 = p
  ·rw [if_pos (e.trans h), if_pos h]; exact ⟨e, r1, rv⟩
  ·rw [if_neg (fun h' => h (e.symm.trans h')), if_neg h]; exact ⟨e, r1, r2⟩
theorem PdRep.put {p : List Int} {a : Addr} {v : Value} {d : D} (ra : Rep G β (.ref a) (pathI p)) (rv : Rep G β v d) {xs : List (List Int × Addr × Value)} {ks : List (List Int × D)} (r : PdRep G β xs ks) : PdRep G β (storedH xs p a v) (dput ks p d) := by
 unfold storedH dput
 rcases r.get p with ⟨e1, e2⟩ | ⟨d', q, e1, e2, _⟩
 ·rw [e1, e2]; exact r.append ⟨⟨rfl, ra, rv⟩, trivial⟩
 ·rw [e1, e2]; exact r.putAll rv
theorem PdRep.del {p : List Int} : ∀ {xs : List (List Int × Addr × Value)} {ks : List (List Int × D)}, PdRep G β xs ks -> PdRep G β (xs.filter fun x => !decide (x.1 = p)) (ddel ks p)
 | [], [], _ => trivial
 | x :: xs, k :: ks, r => by
  obtain ⟨⟨e, r1, r2⟩, r3⟩ := r
  unfold ddel
  by_cases h : k.1 = p
  ·rw [List.filter_cons_of_neg (by simp [e, h]), List.filter_cons_of_neg (by simp [h])]
   exact PdRep.del r3
  ·rw [List.filter_cons_of_pos (by simp [e, h]), List.filter_cons_of_pos (by simp [h])]
   exact ⟨⟨e, r1, r2⟩, PdRep.del r3⟩
theorem PdRep.length : ∀ {xs : List (List Int × Addr × Value)} {ks : List (List Int × D)}, PdRep G β xs ks -> xs.length = ks.length
 | [], [], _ => rfl
 | _ :: _, _ :: _, r => by rw [List.length_cons, List.length_cons, PdRep.length r.2]
theorem IdRep.get : ∀ {xs : List (Int × Value)} {kvs : List (Int × D)} (_ : IdRep G β xs kvs) (p : Int), (dget kvs p = none /\ valueAt xs p = none) \/ ∃ d v, dget kvs p = some d /\ valueAt xs p = some v /\ Rep G β v d
 | [], [], _, p => .inl ⟨rfl, rfl⟩
 | x :: xs, k :: ks, r, p => by
  obtain ⟨⟨e, r2⟩, r3⟩ := r
  by_cases h : k.1 = p
  ·refine .inr ⟨k.2, x.2, ?_, ?_, r2⟩
   ·simp [dget, h]
   ·simp [valueAt, e, h]
  ·have := IdRep.get r3 p
   have e1 : dget (k :: ks) p = dget ks p := by simp [dget, h]
   have e2 : valueAt (x :: xs) p = valueAt xs p := by simp [valueAt, e, h]
   rw [e1, e2]; exact this
theorem IdRep.append : ∀ {xs ys : List (Int × Value)} {ks ls : List (Int × D)}, IdRep G β xs ks -> IdRep G β ys ls -> IdRep G β (xs ++ ys) (ks ++ ls)
 | [], _, [], _, _, h => h
 | _ :: _, _, _ :: _, _, h, k => ⟨h.1, IdRep.append h.2 k⟩
theorem IdRep.putAll {p : Int} {v : Value} {d : D} (rv : Rep G β v d) : ∀ {xs : List (Int × Value)} {ks : List (Int × D)}, IdRep G β xs ks -> IdRep G β (xs.map (fun kv => if kv.1 = p then (kv.1, v) else kv)) (ks.map fun x => if x.1 = p then (x.1, d) else x)
 | [], [], _ => trivial
 | x :: xs, k :: ks, r => by
  obtain ⟨⟨e, r2⟩, r3⟩ := r
  refine ⟨?_, IdRep.putAll rv r3⟩
  dsimp only
  by_cases h : k.1 = p
  ·rw [if_pos (e.trans h), if_pos h]; exact ⟨e, rv⟩
  ·rw [if_neg (fun h' => h (e.symm.trans h')), if_neg h]; exact ⟨e, r2⟩
theorem IdRep.any {p : Int} : ∀ {xs : List (Int × Value)} {ks : List (Int × D)}, IdRep G β xs ks -> xs.any (fun kv => decide (kv.1 = p)) = (dget ks p).isSome
 | [], [], _ => rfl
 | x :: xs, k :: ks, r => by
  obtain ⟨⟨e, r2⟩, r3⟩ := r
  have ih := IdRep.any (p := p) r3
  rw [List.any_cons, ih]
  by_cases h : k.1 = p
  ·simp [dget, e, h]
  ·simp [dget, e, h]
theorem IdRep.put {p : Int} {v : Value} {d : D} (rv : Rep G β v d) {xs : List (Int × Value)} {ks : List (Int × D)} (r : IdRep G β xs ks) : IdRep G β (stored xs p v) (dput ks p d) := by
 unfold stored dput
 rw [r.any]
 split
 ·exact r.putAll rv
 ·exact r.append ⟨⟨rfl, rv⟩, trivial⟩
theorem IdRep.length : ∀ {xs : List (Int × Value)} {ks : List (Int × D)}, IdRep G β xs ks -> xs.length = ks.length
 | [], [], _ => rfl
 | _ :: _, _ :: _, r => by rw [List.length_cons, List.length_cons, IdRep.length r.2]
end
section
variable {B : Bs} {gl : Gl} {n m : Nat} {ρ ρ' : Loc} {σ σ' σ1 σ2 σ3 σ4 : Sto} {i j : Int}
theorem not_mods {c : St} {x : Nat} {a : Addr} (s : Sim B σ c) (h : c.β[x]? = some a) : (a == sysModules) = false :=
 beq_eq_false_iff_ne.mpr (Nat.ne_of_gt (s.mods a (List.mem_of_getElem? h)))
theorem key_of {c : St} {v : Value} {p : List Int} (s : Sim B σ c) (r : Rep c.G c.β v (pathI p)) : ∃ a, v = .ref a /\ (tK B.w).is c.h p a := by
 cases r with
 | tup h1 h2 h3 h4 => exact ⟨_, rfl, _, _, _, s.sub _ _ h1, h2, h3, items_of_rep h4⟩
theorem room_ok {A : Around} {c : St} (ok : Ok B A n σ c) : (tK B.w).room A.in1 := by
 have := ok.uni
 show A.units + 1 < 9900
 lia
theorem Meth.pdct {x : Nat} {kvs : List (List Int × D)} {name : Str} {id : String} (hx : σ[x]? = some (.pdct kvs)) (slot : Slot "dict" name id) (hty : typeOf (.builtin id) = pure (.type "method_descriptor")) : Meth (.obj x) name (.builtin id) B σ := by
 intro A c u n ok r pl E Q k
 cases r with
 | @obj _ a p1 =>
  refine x1_2 (ok.sim.cells x a _ p1 hx) fun xs hd Z => ?_
  exact PySem.getMethod_builtin hd.typeIs PySem.F.plainAttrs_dict slot hty (dictOfH_noDict hd) k
theorem Cmp.inP {x : Nat} {kvs : List (List Int × D)} {p : List Int} (hx : σ[x]? = some (.pdct kvs)) : Cmp .In (pathI p) (.obj x) (dget kvs p).isSome B n σ := fun A c u v ok r q E Q k => by
 cases q with
 | @obj _ a p1 =>
  refine x1_2 (ok.sim.cells x a _ p1 hx) fun xs hd rx => ?_
  refine x1_2 (key_of ok.sim r) fun ka Q hk => ?_; subst Q
  refine wpAny_in_heap (room_ok ok) hk (not_mods ok.sim p1) hd ?_
  have e : (atKey xs p).isSome = (dget kvs p).isSome := by
   rcases rx.get p with ⟨e1, e2⟩ | ⟨d, q, e1, e2, _⟩ <;> rw [e1, e2] <;> rfl
  rw [e]
  exact k (c.tk _) (.tk _ _ _) (ok.sim.tk _)
theorem Cmp.notInP {x : Nat} {kvs : List (List Int × D)} {p : List Int} (hx : σ[x]? = some (.pdct kvs)) : Cmp .NotIn (pathI p) (.obj x) (!(dget kvs p).isSome) B n σ := fun A c u v ok r q E Q k => by
 cases q with
 | @obj _ a p1 =>
  refine x1_2 (ok.sim.cells x a _ p1 hx) fun xs hd rx => ?_
  refine x1_2 (key_of ok.sim r) fun ka Q hk => ?_; subst Q
  refine wpAny_notIn_heap (room_ok ok) hk (not_mods ok.sim p1) hd ?_
  have e : (atKey xs p).isSome = (dget kvs p).isSome := by
   rcases rx.get p with ⟨e1, e2⟩ | ⟨d, q, e1, e2, _⟩ <;> rw [e1, e2] <;> rfl
  rw [e]
  exact k (c.tk _) (.tk _ _ _) (ok.sim.tk _)
theorem CallV.getP {x : Nat} {kvs : List (List Int × D)} {p : List Int} {d0 : D} (hx : σ[x]? = some (.pdct kvs)) : CallV (.builtin "dict.get") [.obj x, pathI p, d0] ((dget kvs p).getD d0) B n σ σ := fun A c vs ok r E Q k => by
 cases r with | cons q r =>
 cases r with | cons r r' =>
 cases r' with | cons r0 r' =>
 cases r'
 cases q with
 | @obj _ a p1 =>
  refine x1_2 (ok.sim.cells x a _ p1 hx) fun xs hd rx => ?_
  refine x1_2 (key_of ok.sim r) fun ka Q hk => ?_; subst Q
  refine call_meetsIn F.slot_dict_get hd.typeIs F.entry_dict_get (F.args_dict_get_3 _ _ _) (meetsH_dict_get_default (tK B.w) a ka (not_mods ok.sim p1) _) ⟨room_ok ok, p, xs, hk, hd, ?_⟩
  rcases rx.get p with ⟨e1, e2⟩ | ⟨d, q, e1, e2, rq⟩
  ·rw [e1] at k; rw [e2]; exact kt ok.sim r0 k
  ·rw [e1] at k; rw [e2]; exact kt ok.sim rq k
theorem SetI.pdct {x : Nat} {kvs : List (List Int × D)} {p : List Int} {d : D} (hx : σ[x]? = some (.pdct kvs)) (hz : kvs.length <= 1000000) : SetI (.obj x) (pathI p) d B n σ (σ.set x (.pdct (dput kvs p d))) := by
 intro A c u w z ok ru rw rz E Q k
 cases ru with
 | @obj _ a p1 =>
  refine x1_2 (ok.sim.cells x a _ p1 hx) fun xs hd rx => ?_
  refine x1_2 (key_of ok.sim rw) fun ka Q hk => ?_; subst Q
  refine wpAny_setItem_heap (room_ok ok) hk hd (fun h' hd' hs => ?_) (by rw [rx.length, sizeLine_eq]; lia)
  exact k ⟨c.G, c.β, { c.s with heap := h', toks := _ }⟩ (le_mutc p1 hs) (sim_mutc ok.sim p1 hx nofun hs ⟨_, hd', rx.put rw rz⟩)
theorem takeOut_heap {prog : Program} {w : World} {A : Around} {E : Want Value} {s : Shared} {K : Type} [DecidableEq K] {knd : HeapKind prog w K} {d a : Addr} {xs : List (K × Addr × Value)} {k : K} {p : Addr × Value} {Q : Option DictEntry -> Shared -> Prop} (hu : knd.room A) (hkey : knd.is s.heap k a) (hm : s.heap.DictOfH knd d xs)
  (hp : atKey xs k = some p) (hsz : xs.length <= sizeLine)
  (hQ : ∀ e h', e.val = p.2 -> h'.DictOfH knd d (xs.filter fun x => !decide (x.1 = k)) -> Heap.SameBut d s.heap h' -> Q (some e) { s with heap := h', toks := s.toks + knd.draws k }) :
  wpAny (model prog w) A (Builtin.Dict.takeOut d (.ref a)) Q E s := by
 refine x3_6 hm fun o es ep ho hc hd he his hn => ?_; clear hm
 unfold Builtin.Dict.takeOut
 refine wpAny_holding ?_
 refine wpAny_bind (knd.pyHash hu hkey ?_)
 refine wpAny_bind (wpAny_dictFind_heap (s := { s with toks := s.toks + knd.draws k }) hu hkey ho hd he his hn ?_ ?_)
 ·intro hno
  rw [atKey_none_of_get hno] at hp; cases hp
 ·intro j q hj
  rw [atKey_of_get hn hj] at hp
  cases hp
  refine wpAny_bind (wpAny_dictEntries (s := { s with toks := s.toks + knd.draws k }) ho hd ?_)
  rw [entry_at he j, hj]
  have er : xs.eraseIdx j = xs.filter fun x => !decide (x.1 = k) := by
   clear he his ho hd hsz hQ
   induction xs generalizing j with
   | nil => simp at hj
   | cons x xs ih =>
    rw [List.map_cons, List.nodup_cons] at hn
    cases j with
    | zero =>
     simp only [List.getElem?_cons_zero, Option.some.injEq] at hj
     subst hj
     rw [List.eraseIdx_cons_zero, List.filter_cons_of_neg (by simp), List.filter_eq_self.mpr]
     intro y hy
     have : y.1 ≠ k := fun e => hn.1 (List.mem_map.mpr ⟨y, hy, e⟩)
     simpa using this
    | succ j =>
     simp only [List.getElem?_cons_succ] at hj
     have hne : x.1 ≠ k := fun e => hn.1 (List.mem_map.mpr ⟨_, List.mem_of_getElem? hj, e.symm⟩)
     rw [List.eraseIdx_cons_succ, List.filter_cons_of_pos (by simpa using hne), ih hn.2 j hj]
  refine wpAny_bind (wpAny_updateDictKeys (hz := by have e := size_of_entries he; lia) (s := { s with toks := s.toks + knd.draws k }) ho hd (wpAny_pure (hQ _ _ rfl ⟨_, _, ep + 1, Heap.get?_update_self _ ho (Obj.isFreed_of_dict (Obj.data_mapDictKeys hd _)),
   hc.mapDictKeys _, Obj.data_mapDictKeys hd _, ?_, ?_, ?_⟩ (Heap.SameBut.update ..))))
  ·rw [<- er]
   obtain ⟨l⟩ := es
   simp only at he
   subst he
   have em : ∀ (l : List (K × Addr × Value)) (j : Nat), (l.map (entryOfKey knd)).eraseIdx j = (l.eraseIdx j).map (entryOfKey knd) := by
    intro l
    induction l with
    | nil => intro j; simp
    | cons x l ih => intro j; cases j <;> simp [ih]
   simp [em]
  ·intro x hx
   exact knd.keeps (his x ((List.mem_filter.mp hx).1)) ho hd (Heap.SameBut.update ..)
  ·exact hn.sublist ((List.filter_sublist).map _)
theorem CallV.popP {x : Nat} {kvs : List (List Int × D)} {p : List Int} {d : D} (hx : σ[x]? = some (.pdct kvs)) (hp : dget kvs p = some d) (hz : kvs.length <= 1000000) : CallV (.builtin "dict.pop") [.obj x, pathI p] d B n σ (σ.set x (.pdct (ddel kvs p))) := fun A c vs ok r E Q k => by
 cases r with | cons q r =>
 cases r with | cons r r' =>
 cases r'
 cases q with
 | @obj _ a p1 =>
  refine x1_2 (ok.sim.cells x a _ p1 hx) fun xs hd rx => ?_
  refine x1_2 (key_of ok.sim r) fun ka Q hk => ?_; subst Q
  rcases rx.get p with ⟨e1, e2⟩ | ⟨d', q, e1, e2, rq⟩
  ·rw [e1] at hp; cases hp
  ·rw [e1] at hp
   cases hp
   refine wpAny_call_entry F.slot_dict_pop hd.typeIs F.entry_dict_pop ?_ (F.args_dict_pop_2 _ _)
   unfold Builtin.«dict.pop»
   refine wpAny_bind ?_
   unfold Builtin.Dict.keyAndDefault
   refine wpAny_bind (wpAny_notOrdered_dict hd.typeIs ?_)
   show wpAny _ _ (pure (a, Value.ref ka, none)) _ _ c.s
   refine wpAny_pure ?_
   refine x3_6 (id hd) fun o es ep ho hc hdd he his hn => ?_
   refine wpAny_bind (wpAny_dictEntries ho hdd (wpAny_bind (wpAny_pure ?_)))
   have hne : es.isEmpty = false := by
    have e3 : xs ≠ [] := by intro e; subst e; cases e2
    have e4 := size_of_entries he
    have e5 : es.size ≠ 0 := by rw [e4]; exact fun h => e3 (List.length_eq_zero_iff.mp h)
    simpa using fun h => e5 (by rw [h]; rfl)
   simp only [hne, Bool.false_eq_true, if_false]
   refine wpAny_bind (takeOut_heap (by have := ok.uni; show A.in1.units < 9900; show A.units + 1 < 9900; lia) hk hd e2 (by rw [rx.length, sizeLine_eq]; lia) fun e h' hv hd' hs => ?_)
   simp only [Option.isNone_some, Bool.false_eq_true, if_false]
   refine wpAny_bind (wpAny_letGo (wpAny_pure ⟨e.val, rfl, ?_⟩))
   rw [hv]
   have l := le_mutc (t := c.s.toks + (tK B.w).draws p) p1 hs
   exact k _ ⟨c.G, c.β, { c.s with heap := h', toks := _ }⟩ l (sim_mutc ok.sim p1 hx nofun hs ⟨_, hd', rx.del⟩) rq
theorem is_int {v : Value} {G : Gm} {β : List Addr} (r : Rep G β v (.int i)) : (iK B.w).is i v = true := by
 cases r; simp [iK, intKind, Value.isInt]
theorem Meth.idct {x : Nat} {kvs : List (Int × D)} {name : Str} {id : String} (hx : σ[x]? = some (.idct kvs)) (slot : Slot "dict" name id) (hty : typeOf (.builtin id) = pure (.type "method_descriptor")) : Meth (.obj x) name (.builtin id) B σ := by
 intro A c u n ok r pl E Q k
 cases r with
 | @obj _ a p1 =>
  refine x1_2 (ok.sim.cells x a _ p1 hx) fun xs hd Z => ?_
  exact PySem.getMethod_builtin hd.typeIs PySem.F.plainAttrs_dict slot hty hd.mapOf.noDict k
theorem Cmp.notInI {x : Nat} {kvs : List (Int × D)} (hx : σ[x]? = some (.idct kvs)) : Cmp .NotIn (.int i) (.obj x) (!(dget kvs i).isSome) B n σ := fun A c u v ok r q E Q k => by
 cases q with
 | @obj _ a p1 =>
  refine x1_2 (ok.sim.cells x a _ p1 hx) fun xs hd rx => ?_
  refine wpAny_notIn_of (is_int r) (not_mods ok.sim p1) hd.mapOf ?_
  have e : (valueAt xs i).isSome = (dget kvs i).isSome := by
   rcases rx.get i with ⟨e1, e2⟩ | ⟨d, q, e1, e2, _⟩ <;> rw [e1, e2] <;> rfl
  rw [e]
  exact k (c.tk _) (.tk _ _ _) (ok.sim.tk _)
theorem Item.idct {x : Nat} {kvs : List (Int × D)} {d : D} (hx : σ[x]? = some (.idct kvs)) (hd : dget kvs i = some d) : Item (.obj x) (.int i) d B n σ := by
 intro A c u v ok r q
 cases r with
 | @obj _ a p1 =>
  refine x1_2 (ok.sim.cells x a _ p1 hx) fun xs hdd rx => ?_
  refine ⟨⟨_, _, hdd.typeIs, slot_dict_getitem.lookup⟩, fun E Q k => ?_⟩
  rcases rx.get i with ⟨e1, e2⟩ | ⟨d', w, e1, e2, rw⟩
  ·rw [e1] at hd; cases hd
  ·rw [e1] at hd
   cases hd
   exact wpAny_getItem_of (is_int q) hdd.mapOf e2 (kt ok.sim rw k)
theorem SetI.idct {x : Nat} {kvs : List (Int × D)} {d : D} (hx : σ[x]? = some (.idct kvs)) (hz : kvs.length <= 1000000) : SetI (.obj x) (.int i) d B n σ (σ.set x (.idct (dput kvs i d))) := by
 intro A c u w z ok ru rw rz E Q k
 cases ru with
 | @obj _ a p1 =>
  refine x1_2 (ok.sim.cells x a _ p1 hx) fun xs hd rx => ?_
  refine wpAny_setItem_pairs (is_int rw) hd (fun h' hd' hs => ?_) (by rw [rx.length, sizeLine_eq]; lia)
  exact k ⟨c.G, c.β, { c.s with heap := h', toks := _ }⟩ (le_mutc p1 hs) (sim_mutc ok.sim p1 hx nofun hs ⟨_, hd', rx.put rz⟩)
theorem CallV.lenI {x : Nat} {kvs : List (Int × D)} (hx : σ[x]? = some (.idct kvs)) (hz : kvs.length <= 1000000) : CallV (.builtin "len") [.obj x] (.int kvs.length) B n σ σ := fun A c vs ok p E Q k => by
 cases p with | cons p q =>
 cases q
 cases p with
 | @obj _ a p1 =>
  refine x1_2 (ok.sim.cells x a _ p1 hx) fun xs hd rx => ?_
  refine call_len_dict (not_mods ok.sim p1) hd (by rw [rx.length]; lia) ?_
  rw [rx.length]
  exact kt ok.sim (.int _ _) k
theorem CallV.getI {x : Nat} {kvs : List (Int × D)} {d0 : D} (hx : σ[x]? = some (.idct kvs)) : CallV (.builtin "dict.get") [.obj x, .int i, d0] ((dget kvs i).getD d0) B n σ σ := fun A c vs ok r E Q k => by
 cases r with | cons q r =>
 cases r with | cons r r' =>
 cases r' with | cons r0 r' =>
 cases r'
 cases q with
 | @obj _ a p1 =>
  refine x1_2 (ok.sim.cells x a _ p1 hx) fun xs hd rx => ?_
  refine call_meetsIn F.slot_dict_get hd.typeIs F.entry_dict_get (F.args_dict_get_3 _ _ _) (meets_dict_get_default (iK B.w) a (is_int r) (not_mods ok.sim p1) _) ⟨_, hd.mapOf, ?_⟩
  rcases rx.get i with ⟨e1, e2⟩ | ⟨d, q, e1, e2, rq⟩
  ·rw [e1] at k; rw [e2]; exact kt ok.sim r0 k
  ·rw [e1] at k; rw [e2]; exact kt ok.sim rq k
theorem CallV.setdefaultI {x : Nat} {kvs : List (Int × D)} {d0 : D} (hx : σ[x]? = some (.idct kvs)) (hz : kvs.length <= 1000000) : CallV (.builtin "dict.setdefault") [.obj x, .int i, d0] ((dget kvs i).getD d0) B n σ (match dget kvs i with | some _ => σ | none => σ.set x (.idct (dput kvs i d0))) := fun A c vs ok r E Q k => by
 cases r with | cons q r =>
 cases r with | cons r r' =>
 cases r' with | cons r0 r' =>
 cases r'
 cases q with
 | @obj _ a p1 =>
  refine x1_2 (ok.sim.cells x a _ p1 hx) fun xs hd rx => ?_
  refine call_meetsIn F.slot_dict_setdefault hd.typeIs F.entry_dict_setdefault (F.args_dict_setdefault_3 _ _ _) (kt_meets_setdefault (iK B.w) a (is_int r) (not_mods ok.sim p1) _) ⟨xs, hd, by rw [rx.length, sizeLine_eq]; lia, fun v hv => ?_, fun hn h' hd' hs => ?_⟩
  ·rcases rx.get i with ⟨e1, e2⟩ | ⟨d, q, e1, e2, rq⟩
   ·rw [e2] at hv; cases hv
   ·rw [e2] at hv
    cases hv
    rw [e1] at k
    exact kt ok.sim rq k
  ·rcases rx.get i with ⟨e1, e2⟩ | ⟨d, q, e1, e2, rq⟩
   ·rw [e1] at k
    exact k _ ⟨c.G, c.β, { c.s with heap := h', toks := _ }⟩ (le_mutc p1 hs) (sim_mutc ok.sim p1 hx nofun hs ⟨_, hd', rx.put r0⟩) r0
   ·rw [e2] at hn; cases hn
theorem Ev.dictP {pos : Pos} : Ev (.Dict [] [] pos) (.obj σ.length) B gl n ρ σ (σ ++ [.pdct []]) := by
 intro A env c ok fr E Q k
 refine wpAny_Dict_empty ?_
 refine k _ (c.own { cls := .type "dict", data := .dict #[] }) (.own _ _ _) (ok.sim.own _ _ ⟨[], ⟨_, #[], 0, Heap.get?_push_size _ rfl, ⟨rfl, rfl, rfl⟩, rfl, rfl, (fun Z h => nomatch h), .nil⟩, trivial⟩) (.obj ?_)
 show (c.β ++ [c.sz])[σ.length]? = some c.sz
 rw [<- ok.sim.len, List.getElem?_append_right (Nat.le_refl _)]; simp
theorem Ev.dictI {pos : Pos} : Ev (.Dict [] [] pos) (.obj σ.length) B gl n ρ σ (σ ++ [.idct []]) := by
 intro A env c ok fr E Q k
 refine wpAny_Dict_empty ?_
 refine k _ (c.own { cls := .type "dict", data := .dict #[] }) (.own _ _ _) (ok.sim.own _ _ ⟨[], Heap.DictOf.new (knd := iK B.w) c.s.heap, trivial⟩) (.obj ?_)
 show (c.β ++ [c.sz])[σ.length]? = some c.sz
 rw [<- ok.sim.len, List.getElem?_append_right (Nat.le_refl _)]; simp
end
end
section
open Builtin Builtin.ObjectAttr in
noncomputable def nget (fs : List (Str × D)) (x : Str) : Option D := (fs.find? fun p => p.1 == x).map (fun x => x.2)
noncomputable def nput : List (Str × D) -> Str -> D -> List (Str × D)
 | [], x, d => [(x, d)]
 | p :: r, x, d => if p.1 == x then (p.1, d) :: r else p :: nput r x d
theorem nput_0 {x : Str} {d : D} : nput [] x d = ([(x, d)]) := rfl
theorem nput_c {p : Str × D} {r : List (Str × D)} {x : Str} {d : D} : nput (p :: r) x d = (if p.1 == x then (p.1, d) :: r else p :: nput r x d) := rfl
section
variable {G : Gm} {β : List Addr} {P : Params}
theorem NsRep.length : ∀ {es : List DictEntry} {fs : List (Str × D)}, NsRep G β P es fs -> es.length = fs.length
 | [], [], _ => rfl
 | _ :: _, _ :: _, r => by rw [List.length_cons, List.length_cons, NsRep.length r.2]
theorem NsRep.look {x : Str} : ∀ {es : List DictEntry} {fs : List (Str × D)}, NsRep G β P es fs -> (nget fs x = none /\ es.find? (·.key.isStr x) = none /\ es.any (·.refKey) = false) \/ ∃ d e, nget fs x = some d /\ es.find? (·.key.isStr x) = some e /\ Rep G β e.val d
 | [], [], _ => .inl ⟨rfl, rfl, rfl⟩
 | e :: es, f :: fs, r => by
  obtain ⟨⟨⟨t, hk⟩, hh, hv⟩, r⟩ := r
  have hs : e.key.isStr x = (f.1 == x) := by rw [hk]; rfl
  by_cases h : (f.1 == x) = true
  ·refine .inr ⟨f.2, e, ?_, ?_, hv⟩
   ·simp [nget, h]
   ·rw [List.find?_cons, hs, h]
  ·have h' : (f.1 == x) = false := by simpa using h
   have hr : e.refKey = false := by simp [DictEntry.refKey, hk]
   rcases NsRep.look (x := x) r with ⟨a, b, c⟩ | ⟨d, e', a, b, c⟩
   ·refine .inl ⟨?_, ?_, ?_⟩
    ·rw [<- a]; simp [nget, h']
    ·rw [List.find?_cons, hs, h']; exact b
    ·rw [List.any_cons, hr, c]; rfl
   ·refine .inr ⟨d, e', ?_, ?_, c⟩
    ·rw [<- a]; simp [nget, h']
    ·rw [List.find?_cons, hs, h']; exact b
theorem NsRep.noRef : ∀ {es : List DictEntry} {fs : List (Str × D)}, NsRep G β P es fs -> es.any (·.refKey) = false
 | [], [], _ => rfl
 | e :: es, f :: fs, r => by
  obtain ⟨⟨⟨t, hk⟩, hh, hv⟩, r⟩ := r
  rw [List.any_cons, NsRep.noRef r]
  simp [DictEntry.refKey, hk]
theorem NsRep.putIn {x : Str} {tk : Tok} {v : Value} {d : D} (rv : Rep G β v d) : ∀ {es : List DictEntry} {fs : List (Str × D)}, NsRep G β P es fs ->
  NsRep G β P (nsPutIn x.cps.size x.cps.toList (fun | some e => { e with val := v } | none => ⟨PyData.keyHash P x, .str x tk, v⟩) es).1 (nput fs x d)
 | [], [], _ => ⟨⟨⟨tk, rfl⟩, rfl, rv⟩, trivial⟩
 | e :: es, f :: fs, r => by
  obtain ⟨⟨⟨t, hk⟩, hh, hv⟩, r⟩ := r
  have hs : e.key.isStrByCps x.cps.size x.cps.toList = (f.1 == x) := by rw [Value.isStrByCps_eq, hk]; rfl
  rw [nsPutIn, nput_c, hs]
  by_cases h : (f.1 == x) = true
  ·rw [if_pos h, if_pos h]
   exact ⟨⟨⟨t, hk⟩, hh, rv⟩, r⟩
  ·rw [if_neg h, if_neg h]
   exact ⟨⟨⟨t, hk⟩, hh, hv⟩, NsRep.putIn rv r⟩
theorem NsRep.put {x : Str} {tk : Tok} {v : Value} {d : D} {n : Nat} (rv : Rep G β v d) {es : List DictEntry} {fs : List (Str × D)} (r : NsRep G β P es fs) :
  ∃ es' n', Obj.putName x (PyData.keyHash P x) (.str x tk) v (dictOf es n) = dictOf es' n' /\ NsRep G β P es' (nput fs x d) := by
 have h := NsRep.putIn (x := x) (tk := tk) rv r
 unfold Obj.putName dictOf
 dsimp only
 revert h
 generalize nsPutIn x.cps.size x.cps.toList _ es = q
 intro h
 obtain ⟨es', b⟩ := q
 cases b
 ·exact ⟨es', n, rfl, h⟩
 ·exact ⟨es', n + 1, rfl, h⟩
theorem nput_length (fs : List (Str × D)) (x : Str) (d : D) : (nput fs x d).length <= fs.length + 1 := by
 induction fs with
 | nil => simp [nput_0, nput_c]
 | cons p r ih =>
  rw [nput_c]
  split
  ·simp
  ·simp only [List.length_cons]; lia
end
structure ClsOk (w : World) (C : Addr) : Prop where
 dict : (clsIn (KK w) C).any (·.hasDict) = true
 ga : findIn (KK w) (.ref C) "__getattribute__" = some (some (.builtin "object.__getattribute__"))
 gattr : findIn (KK w) (.ref C) "__getattr__" = some none
 sattr : findIn (KK w) (.ref C) "__setattr__" = some (some (.builtin "object.__setattr__"))
 over : plainOver (KK w) C = true
 makes : makesIn (KK w) C = true
section
variable {B : Bs} {gl : Gl} {n m : Nat} {ρ ρ' : Loc} {σ σ' σ'' σ1 σ2 σ3 σ4 : Sto} {C f : Addr} {i : Nat} {fs : List (Str × D)} {name : Str} {d : D}
theorem inst_at {c : St} {v : Value} (s : Sim B σ c) (r : Rep c.G c.β v (.inst C i)) (hx : σ[i]? = some (.ns fs)) :
  ∃ x a es m, v = .ref x /\ c.h.get? x = some (instObj C a) /\ c.β[i]? = some a /\ c.h.get? a = some (dictOf es m) /\ NsRep c.G c.β B.w.params es fs /\ InstAt c.h x (instObj C a) C (some (dictOf es m)) := by
 cases r with
 | @inst _ _ a x h1 h2 =>
  refine x2_2 (s.cells i a _ h2 hx) fun es m e r => ?_
  have hx := s.sub _ _ h1
  exact ⟨x, a, es, m, rfl, hx, h2, e, r, ⟨hx, rfl, rfl, e⟩⟩
theorem lookIn_of {es : List DictEntry} {m : Nat} : lookIn name (dictOf es m) = (match es.find? (·.key.isStr name) with
   | some e => some (some e.val)
   | none => if es.any (·.refKey) then none else some none) := by
 unfold lookIn dictOf; rfl
theorem rep_handed {G : Gm} {β : List Addr} {v : Value} {d : D} (r : Rep G β v d) (hr : ∀ w, d ≠ .raw w) : handedIn v = true := by
 cases d <;> cases r <;> first | rfl | exact absurd rfl (hr _)
theorem Ev.attr {value : Expr} {pos : Pos} (h : Ev value (.inst C i) B gl n ρ σ σ1) (ck : ClsOk B.w C) (hn : findIn (KK B.w) (.ref C) name = some none) (hx : σ1[i]? = some (.ns fs)) (hf : nget fs name = some d) (hr : ∀ w, d ≠ .raw w := by intro _ h; cases h)
  (he : ∀ env, eval (.Attribute value name pos) env = (do
   let o <- eval value env
   standAt pos.atName
   let r <- holding [o] (getAttr o name true)
   letTemporaryGo value o r
   pure r) := by intro _; with_unfolding_all rfl) : Ev (.Attribute value name pos) d B gl n ρ σ σ1 := by
 intro A env c ok fr E Q k
 refine Attribute_any_ (h A env c ok fr _ _ fun v c1 l1 s1 r1 => ?_) (he env)
 refine x4_6 (inst_at s1 r1 hx) fun x a es m Q h1 h2 h3 h4 I => ?_; subst Q
 rcases h4.look (x := name) with ⟨e1, _⟩ | ⟨d', e, e1, e2, e3⟩
 ·rw [hf] at e1; cases e1
 ·rw [hf] at e1
  cases e1
  refine get_value (v := e.val) s1.K I ck.ga ?_ (rep_handed e3 hr) (k _ (c1.tk _) (l1.trans (.tk _ _ _)) (s1.tk _) e3)
  refine x1_2 (any_some ck.dict) fun cd hc hd => ?_
  unfold findObj
  rw [hc, Option.bind_some, hn, Option.bind_some]
  dsimp only
  rw [Option.bind_some, Option.bind_some]
  dsimp only
  unfold PySem.W.ownOf
  rw [if_pos hd]
  dsimp only
  rw [lookIn_of, e2]
  rfl
theorem Meth.inst (ck : ClsOk B.w C) (hm : findIn (KK B.w) (.ref C) name = some (some (.ref f))) (ht : typeIn (KK B.w) (.ref f) = some (.type "function")) (hx : σ[i]? = some (.ns fs)) (hs : nget fs name = none) : Meth (.inst C i) name (.ref f) B σ := by
 intro A c u n ok r pl E Q k
 refine x4_6 (inst_at ok.sim r hx) fun x a es m Q h1 h2 h3 h4 I => ?_; subst Q
 refine method_fn ok.sim.K I ck.ga ck.gattr hm ht ?_ k
 rcases h4.look (x := name) with ⟨e1, e2, e3⟩ | ⟨d', e, e1, e2, e3⟩
 ·unfold shadowIn
  dsimp only
  rw [lookIn_of, e2]
  dsimp only
  rw [e3]
  rfl
 ·rw [hs] at e1; cases e1
theorem set_attr {A : Around} {c : St} {u v : Value} {E : Want Value} {Q : Want Unit} (ok : Ok B A n σ c) (ck : ClsOk B.w C) (hn : findIn (KK B.w) (.ref C) name = some none) (hx : σ[i]? = some (.ns fs)) (hz : fs.length <= 900) (ru : Rep c.G c.β u (.inst C i)) (rv : Rep c.G c.β v d)
  (k : ∀ c', Le [] c c' -> Sim B (σ.set i (.ns (nput fs name d))) c' -> Q () c'.s) : wpAny (model PG B.w) A (setAttr u name v) Q E c.s := by
 refine x4_6 (inst_at ok.sim ru hx) fun x a es m Q h1 h2 h3 h4 I => ?_; subst Q
 refine set_plain ok.sim.K I ck.sattr ?_
 have s1 := ok.sim.tk (c.s.toks + 1)
 refine osa_open (s := (c.tk (c.s.toks + 1)).s) s1.K I ck.over (r := none) (by unfold takerIn; rw [hn]; rfl) fun b => ?_
 refine x1_2 (any_some ck.dict) fun cd hc hd => ?_
 have X := s1.K
 refine wpAny_bind (wpAny_pure (wpAny_bind (wpAny_bind (wpAny_loadPart h1 (wpAny_bind ((looks_clsIn X hc).here ?_))))))
 rw [hd]
 refine wpAny_pure (a := some a) (wpAny_bind (wpAny_pure (wpAny_bind ?_)))
 unfold nsSet
 refine wpAny_bind (wpAny_bind (wpAny_askSetting (wpAny_pure (wpAny_bind (wpAny_mkText (wpAny_bind (wpAny_loadPart h3 ?_)))))))
 have c0 : (!es.toArray.any (·.key.isStr name) && es.toArray.any (·.refKey)) = false := by
  have : es.toArray.any (·.refKey) = false := by rw [<- Array.any_toList]; exact h4.noRef
  rw [this, Bool.and_false]
 dsimp only
 rw [aRefKeyMayBeTheName_at, c0]
 refine x2_2 (h4.put (x := name) (tk := (c.tk (c.s.toks + 1)).s.toks) (n := m) rv) fun es' m' e1 e2 => ?_
 have hs : Heap.SameBut a c.h (c.s.heap.update a (Obj.putName name (PyData.keyHash B.w.params name) (.str name (c.tk (c.s.toks + 1)).s.toks) v)) := Heap.SameBut.update ..
 have D' : (c.s.heap.update a (Obj.putName name (PyData.keyHash B.w.params name) (.str name (c.tk (c.s.toks + 1)).s.toks) v)).get? a = some (dictOf es' m') := by
  rw [Heap.get?_update_self _ h3 (by rw [e1]; rfl), e1]
 refine wpAny_updatePart h3 ?_
 refine wpAny_bind (wpAny_lookBehind D' (pastItsLine_dict ?_) ?_)
 ·have := nput_length fs name d
  rw [List.size_toArray, e2.length, sizeLine_eq]; lia
 ·refine wpAny_pure ?_
  have q := k ⟨c.G, c.β, { c.s with heap := _, toks := c.s.toks + 1 + 1 }⟩ (le_mutc h2 hs) (sim_mutc ok.sim h2 hx nofun hs ⟨es', m', D', e2⟩)
  exact q
theorem St1.setattr {o value : Expr} {p pos : Pos} (hv : Ev value d B gl n ρ σ σ1) (ho : Ev o (.inst C i) B gl n ρ σ1 σ2) (ck : ClsOk B.w C) (hn : findIn (KK B.w) (.ref C) name = some none) (hx : σ2[i]? = some (.ns fs)) (hz : fs.length <= 900 := by first | decide | (simp; done))
  (hw : ∀ env, swapsWith value (some (.Attribute o name p)) pos.line env = pure false := by intro _; rfl) : St1 (.Assign [.Attribute o name p] value pos) B gl n ρ ρ σ (σ2.set i (.ns (nput fs name d))) := by
 intro A env c al st ok fr E Q k
 refine plainObj_wpAny_Assign_Attribute (hv A env c ok fr _ _ fun v c1 l1 s1 r1 => ho A env c1 (ok.step l1 s1) (fr.step l1) _ _ fun u c2 l2 s2 r2 => ?_) (hw env)
 have l12 := l1.trans l2
 refine set_attr (ok.step l12 s2) ck hn hx hz r2 (l2.rep r1) fun c3 l3 s3 => ?_
 exact k c3 (le_mut (l12.trans l3)) s3 (fr.step (l12.trans l3)) st
theorem Keeps'.cls (ck : ClsOk B.w C) (hc : ∃ oc od cd sl, (KK B.w).lookup C = some ⟨oc, od, .cls cd, sl⟩) (hs : specialIn (KK B.w) (.ref C) "__call__" = some (some (.builtin "type.__call__"))) : Keeps' (.ref C) B := by
 refine x4_1 hc fun oc od cd sl ho => ?_; clear hc
 refine ⟨.machine, fun A E s k => ?_⟩
 unfold keeperOf
 refine wpAny_bind (wpAny_load (k _ _ (B.X _ _ ho)) ?_)
 exact wpAny_bind ((looks_specialIn (B.X.keeps k) hs).here (wpAny_pure ⟨rfl, rfl⟩))
theorem CallV.make {fI : Addr} {args : List D} (ck : ClsOk B.w C) (hi : findIn (KK B.w) (.ref C) "__init__" = some (some (.ref fI))) (hf : typeIn (KK B.w) (.ref fI) = some (.type "function"))
  (h : Call fI (.inst C σ.length :: args) .none B n (σ ++ [.ns []]) σ') : CallV (.ref C) args (.inst C σ.length) B (n + 1) σ σ' := by
 intro A c vs ok ra E Q k
 refine wpAny_call ?_
 let c1 : St := c.own emptyDict
 let c2 : St := c1.put (instObj C c.sz)
 have l1 : Le [] c c1 := .own _ _ _
 have s1 : Sim B (σ ++ [.ns []]) c1 := ok.sim.own _ _ ⟨[], 0, Heap.get?_push_size _ rfl, trivial⟩
 have l2 : Le [] c1 c2 := .put _ s1 _
 have s2 : Sim B (σ ++ [.ns []]) c2 := s1.put _
 have hsz : c1.sz = c.sz + 1 := Heap.size_push ..
 have rx : Rep c2.G c2.β (.ref (c.sz + 1)) (.inst C σ.length) := by
  refine .inst (a := c.sz) ?_ ?_
  ·show (if c.sz + 1 = c1.sz then some (instObj C c.sz) else c1.G (c.sz + 1)) = _
   rw [if_pos hsz.symm]
  ·show (c.β ++ [c.sz])[σ.length]? = some c.sz
   rw [<- ok.sim.len, List.getElem?_append_right (Nat.le_refl _)]; simp
 have X := ok.sim.K
 refine make_core (h := c.s.heap) (g := c.s.gens) (d := c.s.drawn) (t := c.s.toks) (os := c.s.os) (makes_of X ck.makes) (looks_findIn X hi) (fun self => bind_fn X self hf) (.inl rfl) ?_
 have okA : Ok B A n σ c := ok.le (Nat.le_succ n)
 refine x1_1 (⟨_, rfl⟩ : ∃ A', A' = A.under (.builtin "type.__call__" ⟨.ref C :: vs, []⟩)) fun A' hA' => ?_
 have e1 : A'.handled = A.handled := by rw [hA']; rfl
 have e2 : A'.depth = A.depth + 1 := by rw [hA']; rfl
 have e3 : A'.frames = A.frames := by
  rw [hA']
  simp [Around.under, Code.envs, Code.isFrame, pushEnvs]
 have e4 : A'.units <= A.units + 4 := by
  rw [hA']
  show A.units + Code.cUnits _ <= _
  have hw : (Code.builtin "type.__call__" ⟨.ref C :: vs, []⟩).weight = 1 := rfl
  have hf : (Code.builtin "type.__call__" ⟨.ref C :: vs, []⟩).frames <= 1 := by unfold Code.weight at hw; lia
  show A.units + (1 + 3 * (Code.builtin "type.__call__" ⟨.ref C :: vs, []⟩).frames) <= _
  lia
 rw [<- hA']
 have ok2 : Ok B A' n (σ ++ [.ns []]) c2 := by
  have q := okA.step (l1.trans l2) s2
  refine ⟨e1.trans q.hnd, by rw [e2]; have := ok.dep; lia, by have := ok.uni; lia, by rw [e3]; exact q.stk, q.sim⟩
 refine h A' c2 (.ref (c.sz + 1) :: vs) ok2 (.cons rx ((l1.trans l2).repAll ra)) _ fun v c3 l3 s3 r3 => ?_
 cases r3
 exact ⟨rfl, k _ c3 ((l1.trans l2).trans l3) s3 (l3.rep rx)⟩
end
end
section
section
variable {B : Bs} {gl : Gl} {n m : Nat} {ρ ρ' : Loc} {σ σ' σ'' σ1 σ2 σ3 σ4 σ5 σ6 σ7 : Sto} {i j k : Int}
theorem CallV.isList {ds : List D} : CallV (.builtin "isinstance") [.lst ds, .raw (.type "list")] (.bool true) B n σ σ := fun A c vs ok p E Q k => by
 cases p with | cons p q =>
 cases q with | cons q r =>
 cases r
 cases q
 cases p with
 | @lst a1 o1 vs1 n1 p1 p2 p3 p4 => exact call_isinstance (isinstance_true (Tx := "list") F.isi_meta_list F.bm_sub_list) ⟨⟨_, ok.sim.sub _ _ p1, p2⟩, k _ c (.refl _ _) ok.sim (.bool _)⟩
theorem isi_false_bytes {b : Array UInt8} {u : Tok} {T : String} (hne : (Value.type "bytes" == Value.type T) = false) (hty : typeOf (.type T) = pure (.type "type")) (hsub : isSubtype (.type "bytes") (.type T) = pure false) :
  Meets (Builtin.«isinstance» ⟨[.bytes b u, .type T], []⟩) (fun Z R s => R (.ok (.ret (.bool false))) { s with toks := s.toks + 1 }) :=
 fun Z Z Z Z s hs => by
  obtain ⟨h, g, d, t, os⟩ := s
  exact isinstance_outer (isinstance_nested_false_bytes hne hty hsub hs)
theorem sub_bytes_list : isSubtype (.type "bytes") (.type "list") = pure false := by rw [isSubtype_type]; kernel_rfl
theorem CallV.isListY {b : List UInt8} : CallV (.builtin "isinstance") [.bytes b, .raw (.type "list")] (.bool false) B n σ σ := fun A c vs ok p E Q k => by
 cases p with | cons p q =>
 cases q with | cons q r =>
 cases r
 cases q
 cases p with
 | bytes _ t => exact call_isinstance (isi_false_bytes (by decide) F.isi_meta_list sub_bytes_list) (kt ok.sim (.bool _) k)
theorem CallV.isBytesY {b : List UInt8} : CallV (.builtin "isinstance") [.bytes b, .raw (.type "bytes")] (.bool true) B n σ σ := fun A c vs ok p E Q k => by
 cases p with | cons p q =>
 cases q with | cons q r =>
 cases r
 cases q
 cases p with
 | bytes _ t => exact call_isinstance (isinstance_true (Tx := "bytes") F.isi_meta_bytes F.bm_sub) ⟨typeIs_bytes _ _ _, k _ c (.refl _ _) ok.sim (.bool _)⟩
noncomputable def ups (a s : Int) (m : Nat) : List D := (List.range m).map fun (k : Nat) => .int (a + s * (k : Int))
theorem range_it {A : Around} {c : St} {r : Addr} {a b s : Int} {t u v : Tok} {E Q : Want Value} (hs : Sim B σ c) (hr : IsRange c.h r a b s t u v) (hsm : Builtin.Range.small a b s = true)
  (k : ∀ I c', Le [] c c' -> Sim B σ c' -> Priv I c' -> c.sz <= I -> ItAt I c' (ups a s (Builtin.Range.rangeSize a b s).toNat) -> Q (.ref I) c'.s) : wpAny (model PG B.w) A (pyIter (.ref r)) Q E c.s := by
 refine wpAny_pyIter_range hr hsm ?_
 have l := le_push [] c { cls := .type "range_iterator", data := .fields #[rawInt a, rawInt (Builtin.Range.rangeSize a b s), rawInt s] }
 exact k c.sz _ l (sim_push hs _) (.push hs _) (Nat.le_refl _) (.rng (Heap.get?_push_size _ rfl) rfl)
theorem EvI.range {func : Expr} {args : List Expr} {pos : Pos} {ds : List D} {a b s : Int} (hf : Ev func (.raw (.type "range")) B gl n ρ σ σ) (ha : Evs args ds B gl n ρ σ σ1)
  (hd : (ds = [.int b] /\ a = 0 /\ s = 1) \/ (ds = [.int a, .int b, .int s] /\ s ≠ 0 /\ Builtin.divisionGoesByPylong (b - a) s = false)) (hsm : Builtin.Range.small a b s = true)
  (he : ∀ env, eval (.Call func args [] pos) env = (do callWith pos (<- eval func env) [] (backTo pos (starEach args env)) []) := by intro _; rfl) (hst : ∀ env, (backTo pos (starEach args env)).any (fun x => x.1) = false := by intro _; rfl) :
  EvI (.Call func args [] pos) (ups a s (Builtin.Range.rangeSize a b s).toNat) B gl n ρ σ σ1 := by
 intro A env c ok fr E Q k
 rw [he]
 refine wpAny_bind (hf A env c ok fr _ _ fun v c1 l1 s1 r1 => ?_)
 cases r1
 refine callWith_any (hst env) (ha A env c1 pos (ok.step l1 s1) (fr.step l1) _ _ fun vs c2 l2 s2 r2 => ⟨.machine, wpAny_pure ⟨rfl, rfl⟩, ?_⟩)
 have l12 := l1.trans l2
 rcases hd with ⟨rfl, rfl, rfl⟩ | ⟨rfl, h0, hp⟩
 ·cases r2 with | cons p q =>
  cases q
  cases p with | int _ t =>
  refine call_range_1 ?_
  let o : Obj := { cls := .type "range", data := .fields #[.int 0 c2.s.toks, .int b t, .int 1 (c2.s.toks + 1)] }
  have l3 : Le [] c2 ⟨c2.G, c2.β, { c2.s with heap := c2.s.heap.push o, toks := c2.s.toks + 1 + 1 }⟩ := le_ext (fun Z Z h => Heap.get?_push_of_some _ h) (by rw [Heap.size_push]; exact Nat.le_succ _)
  have s3 : Sim B σ1 ⟨c2.G, c2.β, { c2.s with heap := c2.s.heap.push o, toks := c2.s.toks + 1 + 1 }⟩ := sim_ext s2 (fun Z Z h => Heap.get?_push_of_some _ h) (by rw [Heap.size_push]; exact Nat.le_succ _)
  exact range_it (c := ⟨c2.G, c2.β, { c2.s with heap := c2.s.heap.push o, toks := c2.s.toks + 1 + 1 }⟩) s3 (Heap.get?_push_size _ rfl) hsm fun I c4 l4 s4 p4 hI it4 => k I c4 ((l12.trans l3).trans l4) s4 p4 (Nat.le_trans (l12.trans l3).size hI) it4
 ·cases r2 with | cons p q =>
  cases q with | cons q r =>
  cases r with | cons r r' =>
  cases r'
  cases p with | int _ t =>
  cases q with | int _ u =>
  cases r with | int _ v =>
  refine call_range_3 h0 ?_ (.inl hp)
  let o : Obj := { cls := .type "range", data := .fields #[.int a t, .int b u, .int s v] }
  have l3 := le_push [] c2 o
  have s3 := sim_push s2 o
  exact range_it (c := ⟨c2.G, c2.β, { c2.s with heap := c2.s.heap.push o }⟩) s3 (Heap.get?_push_size _ rfl) hsm fun I c4 l4 s4 p4 hI it4 => k I c4 ((l12.trans l3).trans l4) s4 p4 (Nat.le_trans (l12.trans l3).size hI) it4
theorem has_bytes : typeLookup (.type "bytes") "__bytes__" = pure (some (.builtin "bytes.__bytes__")) := by rw [typeLookup_type, builtinLookup_eq_fast]; kernel_rfl
theorem CallV.bytY {b : List UInt8} : CallV (.type "bytes") [.bytes b] (.bytes b) B n σ σ := fun A c vs ok p E Q k => by
 cases p with | cons p q =>
 cases q
 cases p with | bytes _ t =>
 refine callType_codes (Q₁ := fun obj s₁ => s₁.TypeIs obj "bytes" /\ Q obj s₁) F.bm_called (F.bm_typeCall _) F.entry_object_init ?_ fun obj s₁ h₁ => ?_
 ·refine codeAny_of_tree ?_
  show wpAny _ A.in1.in1 (do checkBuiltinCall "bytes.__new__" ⟨[.type "bytes", .bytes b.toArray t], []⟩; again (.builtin "bytes.__new__" ⟨[.type "bytes", .bytes b.toArray t], []⟩)) _ _ c.s
  refine wpAny_bind (wpAny_of_eq (F.bm_newCall _) (wpAny_pure ⟨plainId_quiet F.bm_plain _, codeAny_builtin F.bm_entry ?_⟩))
  rw [Around.under_plainId F.bm_plain _]
  unfold Builtin.«bytes.__new__»
  refine wpAny_bind (wpAny_of_eq (a := true) rfl ?_)
  refine bm_if_false rfl ?_
  refine wpAny_bind (wpAny_of_eq F.bm_sub ?_)
  refine bm_if_false rfl ?_
  refine wpAny_bind (wpAny_of_eq (F.bm_bind _) ?_)
  refine wpAny_bind (wpAny_of_eq (a := ()) rfl ?_)
  refine wpAny_bind (wpAny_of_eq (a := ()) rfl ?_)
  refine bm_if_false rfl ?_
  refine wpAny_bind (wpAny_specialOf (typeIs_bytes _ _ _) has_bytes ?_)
  refine wpAny_bind (wpAny_rule ?_)
  refine wpAny_bind (wpAny_typeOf (typeIs_bytes _ _ _) ?_)
  refine bm_if_true rfl ?_
  exact wpAny_pure ⟨typeIs_bytes _ _ _, k _ c (.refl _ _) ok.sim (.bytes _ _)⟩
 ·exact ⟨h₁.1, F.args_object_init_2 obj _, object_init_meets F.bm_called.init.lookup F.bm_called.made (by decide) _ _ A.in1 _ s₁ ⟨h₁.1, rfl, h₁.2⟩⟩
theorem Cmp.notInO {x : Nat} {ks : List (List UInt8)} {b : List UInt8} (hx : σ[x]? = some (.lst (ks.map D.bytes))) : Cmp .NotIn (.bytes b) (.obj x) (!ks.contains b) B n σ := fun A c u v ok r q E Q k => by
 cases r with | bytes _ t =>
 cases q with
 | @obj _ a p1 =>
  refine x2_2 (ok.sim.cells x a _ p1 hx) fun vs1 n1 e1 p4 => ?_
  let e : Value -> Bool := fun v => match v with | .bytes c _ => c.toList == b | _ => false
  have key : ∀ {ks : List (List UInt8)} {vs : List Value}, RepAll c.G c.β vs (ks.map D.bytes) -> (∀ y ∈ vs, PySem.SeqAt.EqAt A.in1 c.s y (.bytes b.toArray t) (e y)) /\ vs.any e = ks.contains b := by
   intro ks
   induction ks with
   | nil => intro vs r; cases r; exact ⟨(fun Z h => nomatch h), rfl⟩
   | cons k ks ih =>
    intro vs r
    cases r with
    | @cons v vs r1 r2 =>
     refine x0_2 (ih r2) fun h1 h2 => ?_
     cases r1 with | bytes _ t' =>
     refine ⟨fun y hy => ?_, ?_⟩
     ·rcases List.mem_cons.mp hy with rfl | hy
      ·have := eq_bytes_bytes (A := A.in1) (s := c.s) k.toArray t' b.toArray t
       simpa [e] using this
      ·exact h1 y hy
     ·rw [List.any_cons, h2, List.contains_cons]
      show (k.toArray.toList == b || _) = _
      rw [show k.toArray.toList = k from rfl, Bool.beq_comm]
  refine x0_2 (key p4) fun h1 h2 => ?_
  refine PySem.SeqAt.notIn_listAt e (items := vs1.toArray) ⟨_, e1, rfl, _, rfl⟩ (fun y hy => h1 y (by simpa using hy)) ?_
  have : vs1.toArray.any e = ks.contains b := by rw [<- h2]; simp
  rw [this]
  exact k c (.refl _ _) ok.sim
end
end
section
section
variable {B : Bs} {gl : Gl} {n m : Nat} {ρ ρ' : Loc} {σ σ' σ'' σ1 σ2 σ3 σ4 : Sto} {i j : Int}
theorem Meth.bitLength : Meth (.int i) "bit_length" (.builtin "int.bit_length") B σ := by
 intro A c u n ok r pl E Q k
 cases r with | int _ t => exact getMethod_int_bit_length k
theorem CallV.bitLength : CallV (.builtin "int.bit_length") [.int i] (.int (Builtin.Int.intBits i)) B n σ σ := fun A c vs ok p E Q k => by
 cases p with | cons p q =>
 cases q
 cases p with | int _ t => exact call_int_bit_length (kt ok.sim (.int _ _) k)
theorem Meth.toBytes : Meth (.int i) "to_bytes" (.builtin "int.to_bytes") B σ := by
 intro A c u n ok r pl E Q k
 cases r with | int _ t => exact KTBy.method k
noncomputable def leB (k : Nat) (x : Int) : List UInt8 := KTBy.low x k
theorem pad_room {x : Int} {k : Nat} (h0 : 0 <= x) (h1 : x < 256 ^ k) : Builtin.Int.intBits x <= 8 * k := KTBy.bits_le rfl h0 h1
section
variable {prog : Program} {w : World} {A : Around} {E : Want Value} {s : Shared} {x : Int} {k : Nat} {t u v : Tok}
theorem toBytes_any {o : Str} {b : Bool} {Q : Want Value} (ho : o = PySem.Str.ofString "big" /\ b = false \/ o = PySem.Str.ofString "little" /\ b = true) (hk : k <= 100) (h0 : 0 <= x) (h1 : x < 256 ^ k)
  (h : Q (.bytes (if b then leB k x else (leB k x).reverse).toArray s.toks) { s with toks := s.toks + 1 }) :
  wpAny (model prog w) A (call (.builtin "int.to_bytes") [.int x t, .int (k : Int) u, .str o v]) Q E s := by
 refine wpAny_call_entry KTBy.slot (typeIs_int s x t) KTBy.entry ?_ (KTBy.args _ _ _)
 have hb := pad_room h0 h1
 show wpAny _ _ (Builtin.Int.intOfSelf (.int x t) >>= fun y => _) _ _ s
 refine wpAny_bind (wpAny_of_eq (a := x) rfl ?_)
 show wpAny _ _ (Builtin.Int.intBindNamed "to_bytes" ["length", "byteorder", "signed"] 0 2 [.int (k : Int) u, .str o v] [] >>= fun l => _) _ _ s
 refine wpAny_bind (wpAny_of_eq (a := [some (.int (k : Int) u), some (.str o v), none]) (by kernel_rfl) ?_)
 show wpAny _ _ (Builtin.Int.intIndex "int.to_bytes" (.int (k : Int) u) >>= fun n => _) _ _ s
 refine wpAny_bind (wpAny_of_eq (a := (k : Int)) rfl ?_)
 refine KTBy.if_not (by show (decide ((k : Int) < -(2 ^ 63 : Int)) || decide ((k : Int) ≥ 2 ^ 63)) = false; rw [decide_eq_false (show ¬ ((k : Int) < -(2 ^ 63 : Int)) by lia), decide_eq_false (show ¬ ((k : Int) ≥ 2 ^ 63) by lia)]; rfl) ?_
 have fin : ∀ {A : Around} {E : Want Value} {b : Bool} {P : Fin -> Shared -> Prop}, (P (.done (.ret (.bytes (if b then leB k x else (leB k x).reverse).toArray s.toks))) { s with toks := s.toks + 1 }) ->
   wpAny (model prog w) A (do ret (<- mkBytes (if b then KTBy.low x (Int.toNat (k : Int)) else (KTBy.low x (Int.toNat (k : Int))).reverse).toArray)) P E s := fun {A E b P} hq => by
  rw [Int.toNat_natCast]
  refine wpAny_bind (wpAny_mkBytes (wpAny_pure hq) ?_)
  have hl : ((if b = true then KTBy.low x k else (KTBy.low x k).reverse).toArray).size = k := by
   rw [List.size_toArray]; split <;> simp [KTBy.low_length]
  rw [hl, sizeLine_eq]; lia
 rcases ho with ⟨rfl, rfl⟩ | ⟨rfl, rfl⟩
 ·refine wpAny_bind (wpAny_of_eq (a := PySem.Str.ofString "big") (by kernel_rfl) ?_)
  refine wpAny_bind (wpAny_of_eq (a := false) rfl ?_)
  refine wpAny_bind (wpAny_of_eq (a := false) (by kernel_rfl) ?_)
  refine wpAny_ite_false (decide_eq_false (show ¬ ((k : Int) < 0) by lia)) ?_
  refine wpAny_ite_false (decide_eq_false (show ¬ ((k : Int) > 2 ^ 63 - 1 - 33) by lia)) ?_
  refine wpAny_ite_false (decide_eq_false (show ¬ ((k : Int) > (sizeLine : Int)) by rw [sizeLine_eq]; lia)) ?_
  refine KTBy.if_not (by show (decide (x < 0) && !false) = false; rw [decide_eq_false (show ¬ x < 0 by lia)]; rfl) ?_
  refine KTBy.if_not (by show (_ && decide ((Builtin.Int.intBits x : Int) > 8 * (k : Int))) = false; rw [decide_eq_false (show ¬ ((Builtin.Int.intBits x : Int) > 8 * (k : Int)) by lia), Bool.and_false]) ?_
  exact fin (b := false) ⟨_, rfl, h⟩
 ·refine wpAny_bind (wpAny_of_eq (a := PySem.Str.ofString "little") (by kernel_rfl) ?_)
  refine wpAny_bind (wpAny_of_eq (a := false) rfl ?_)
  refine wpAny_bind (wpAny_of_eq (a := true) (by kernel_rfl) ?_)
  refine wpAny_ite_false (decide_eq_false (show ¬ ((k : Int) < 0) by lia)) ?_
  refine wpAny_ite_false (decide_eq_false (show ¬ ((k : Int) > 2 ^ 63 - 1 - 33) by lia)) ?_
  refine wpAny_ite_false (decide_eq_false (show ¬ ((k : Int) > (sizeLine : Int)) by rw [sizeLine_eq]; lia)) ?_
  refine KTBy.if_not (by show (decide (x < 0) && !false) = false; rw [decide_eq_false (show ¬ x < 0 by lia)]; rfl) ?_
  refine KTBy.if_not (by show (_ && decide ((Builtin.Int.intBits x : Int) > 8 * (k : Int))) = false; rw [decide_eq_false (show ¬ ((Builtin.Int.intBits x : Int) > 8 * (k : Int)) by lia), Bool.and_false]) ?_
  exact fin (b := true) ⟨_, rfl, h⟩
end
theorem CallV.toBig {k : Int} {k' : Nat} (hk : k = k') (h : k' <= 100) (h0 : 0 <= i) (h1 : i < 256 ^ k') : CallV (.builtin "int.to_bytes") [.int i, .int k, .str "big"] (.bytes (leB k' i).reverse) B n σ σ := fun A c vs ok p E Q kq => by
 subst hk
 cases p with | cons p q =>
 cases q with | cons q r =>
 cases r with | cons r r' =>
 cases r'
 cases p; cases q; cases r
 exact toBytes_any (.inl ⟨rfl, rfl⟩) h h0 h1 (kt ok.sim (.bytes _ _) kq)
theorem CallV.toLittle {k : Int} {k' : Nat} (hk : k = k') (h : k' <= 100) (h0 : 0 <= i) (h1 : i < 256 ^ k') : CallV (.builtin "int.to_bytes") [.int i, .int k, .str "little"] (.bytes (leB k' i)) B n σ σ := fun A c vs ok p E Q kq => by
 subst hk
 cases p with | cons p q =>
 cases q with | cons q r =>
 cases r with | cons r r' =>
 cases r'
 cases p; cases q; cases r
 exact toBytes_any (.inr ⟨rfl, rfl⟩) h h0 h1 (kt ok.sim (.bytes _ _) kq)
noncomputable def numOf (b : List UInt8) : Nat := b.foldl (fun (acc : Nat) (b : UInt8) => acc * 256 + b.toNat) 0
theorem from_tree {M : Model} {A : Around} {E : Want Value} {s : Shared} {b : List UInt8} {t u : Tok} {P : Fin -> Shared -> Prop} (hl : b.length <= 100000) (h : P (.done (.ret (.int (numOf b : Nat) s.toks))) { s with toks := s.toks + 1 }) :
  wpAny M A (Builtin.«int.from_bytes» ⟨[.type "int", .bytes b.toArray t, .str (PySem.Str.ofString "big") u], []⟩) P E s := by
 have hn : numOf b < 256 ^ b.length := by
  have h1 := KFB.fold_lt b 0
  rw [Nat.zero_add, Nat.one_mul] at h1
  exact h1
 unfold Builtin.«int.from_bytes»
 refine wpAny_bind (wpAny_of_eq (a := true) KFB.type_int ?_)
 refine KFB.if_not rfl ?_
 refine wpAny_bind (wpAny_of_eq (a := true) F.conv_sub_int ?_)
 refine KFB.if_not rfl ?_
 refine wpAny_bind (wpAny_of_eq (a := [some (.bytes b.toArray t), some (.str (PySem.Str.ofString "big") u), none]) (by kernel_rfl) ?_)
 refine wpAny_bind (wpAny_of_eq (a := PySem.Str.ofString "big") (by kernel_rfl) ?_)
 refine wpAny_bind (wpAny_of_eq (a := false) rfl ?_)
 refine wpAny_bind (wpAny_of_eq (a := false) (by kernel_rfl) ?_)
 refine wpAny_bind (wpAny_of_eq (a := b.toArray) rfl ?_)
 show wpAny _ _ (mkIntGrown (b.foldl (fun (acc : Int) (b : UInt8) => acc * 256 + (b.toNat : Int)) ((0 : Nat) : Int)) >>= fun v => _) _ _ _
 rw [KFB.foldI_eq]
 refine wpAny_bind ?_
 unfold mkIntGrown
 have hlog : ¬ (((numOf b : Nat) : Int).natAbs.log2 ≥ bitsLine) := by
  rw [Int.natAbs_natCast]
  have hb : bitsLine = 134217728 := by first | rfl | decide
  by_cases hz : numOf b = 0
  ·rw [hz, hb]; decide
  ·have e : (256 : Nat) ^ b.length = 2 ^ (8 * b.length) := by rw [Nat.pow_mul]
   rw [e] at hn
   have h1 := (Nat.log2_lt hz).mpr hn
   lia
 show wpAny _ _ (if ((numOf b : Nat) : Int).natAbs.log2 ≥ bitsLine then _ else _) _ _ _
 rw [if_neg hlog]
 refine wpAny_mkInt ?_
 refine KFB.if_so (by decide +kernel) ?_
 exact wpAny_bind (wpAny_pure (wpAny_pure h))
theorem from_getm {K : Frag} {A : Around} {E : Want Value} {s : Shared} {w : World} {pl : Sem Bool} {Q : Want (Value × List Value)} (X : K.In s.heap)
  (e : findCls K (.type "int") (.type "type") (PySem.Str.ofString "from_bytes") = some (.get (.builtin "classmethod_descriptor.__get__") (.builtin "int.from_bytes") .none (.type "int")))
  (h : Q (.ref s.heap.objs.size, []) { s with heap := s.heap.push KFB.bound, toks := s.toks + 1 }) :
  wpAny (model PG w) A (getMethod (.type "int") (PySem.Str.ofString "from_bytes") pl) Q E s := by
 have hstub : opaqueClassAbove (.type "int") = pure none := by unfold opaqueClassAbove; dsimp only; rw [show Manifest.isStub "int" = false by decide +kernel]; rfl
 have ht : typeOf (.type "int") = pure (.type "type") := by first | rfl | kernel_rfl
 have L0 : Looks (model PG w) s.heap (typeOf (.type "int")) (.type "type") := Looks.of_pure ht
 have hg : findIn K (.type "type") "__getattribute__" = some (some (.builtin "type.__getattribute__")) := type_tga
 unfold getMethod specialOf
 refine wpAny_bind (wpAny_bind (L0.here ((looks_findIn X hg).here ?_)))
 dsimp only
 rw [if_pos canon_tga]
 refine wpAny_bind (wpAny_mono (Q := fun v => Q (v, [])) (E := E) ?_ (fun Z Z z => wpAny_pure z) fun Z Z z => z)
 have LO : Looks (model PG w) s.heap (opaqueClassAbove (.type "int")) none := Looks.of_pure hstub
 refine cls_open X LO L0 hg (looks_hook X (r := none) (by rfl)) (by show subIn K _ _ = _; rfl) e ?_
 show wpAny _ _ (holding [.builtin "int.from_bytes"] (call (.builtin "classmethod_descriptor.__get__") [.builtin "int.from_bytes", .none, .type "int"]) >>= fun v => ret v) _ _ _
 exact wpAny_bind (wpAny_holding (wpAny_call_entry KFB.slot_get KFB.type_fb KFB.entry_get (KFB.run_get ⟨_, rfl, wpAny_pure (wpAny_pure h)⟩) (KFB.args_get _ _ _)))
theorem Ev.fromBytes {o : Expr} {args : List Expr} {apos pos : Pos} {b : List UInt8} (ho : Ev o (.raw (.type "int")) B gl n ρ σ σ) (ha : Evs args [.bytes b, .str "big"] B gl n ρ σ σ1) (hz : b.length <= 100000)
  (e : findCls (KK B.w) (.type "int") (.type "type") (PySem.Str.ofString "from_bytes") = some (.get (.builtin "classmethod_descriptor.__get__") (.builtin "int.from_bytes") .none (.type "int")))
  (he : ∀ env, attributeBase o "from_bytes" env (eval o env) = eval o env := by intro _; rfl) (hst : ∀ env, (backTo pos (starEach args env)).any (fun x => x.1) = false := by intro _; rfl)
  (hcons : ∀ env, ∃ x r, backTo pos (starEach args env) = (false, x) :: r := by intro _; exact ⟨_, _, rfl⟩)
  (hfew : ∀ env, methodCallForm (args.length + 0) (backTo pos (starEach args env)) [] = true := by intro _; rfl) (hpos : (apos.endLine == pos.line) = true := by decide) :
  Ev (.Call (.Attribute o "from_bytes" apos) args [] pos) (.int (numOf b : Nat)) B gl n ρ σ σ1 := by
 intro A env c ok fr E Q k
 show wpAny _ A (do
  let ov <- attributeBase o "from_bytes" env (eval o env)
  standAt apos.atName
  methodCall o "from_bytes" apos pos env ov (args.length + 0) (backTo pos (starEach args env)) []) Q E c.s
 rw [he]
 refine wpAny_bind (ho A env c ok fr _ _ fun u c1 l1 s1 r1 => wpAny_bind (wpAny_standAt ?_))
 cases r1
 unfold methodCall
 rw [hfew]
 show wpAny _ A (holding [.type "int"] (calleeOf true o env (.type "int") "from_bytes") >>= _) Q E _
 refine wpAny_bind (wpAny_holding ?_)
 unfold calleeOf
 rw [if_pos rfl]
 refine from_getm s1.K e ?_
 show wpAny _ A (methodCallPos true o env apos pos >>= _) Q E _
 unfold methodCallPos
 rw [if_pos (by simp [hpos])]
 refine wpAny_bind (wpAny_pure ?_)
 let c2 : St := ⟨c1.G, c1.β, { c1.s with heap := c1.s.heap.push KFB.bound, toks := c1.s.toks + 1 }⟩
 have l2 : Le [] c1 c2 := le_ext (fun Z Z h => Heap.get?_push_of_some _ h) (by rw [Heap.size_push]; exact Nat.le_succ _)
 have s2 : Sim B σ c2 := sim_ext s1 (fun Z Z h => Heap.get?_push_of_some _ h) (by rw [Heap.size_push]; exact Nat.le_succ _)
 have p2 : Priv c1.sz c2 := ⟨s1.gnone (Nat.le_refl _), fun h => absurd (s1.low _ h) (Nat.lt_irrefl _), by show c1.sz < (c1.s.heap.push KFB.bound).objs.size; rw [Heap.size_push]; exact Nat.lt_succ_self _⟩
 have hb : c2.h.get? c1.sz = some KFB.bound := Heap.get?_push_size _ rfl
 have l12 := l1.trans l2
 refine KFB.callWith_fields (hst env) ?_
 refine x2_1 (hcons env) fun x r hxr => ?_
 have main := ha A env c2 pos (ok.step l12 s2) (fr.step l12) E (fun vs s₁ => KFB.StandsAt c1.sz s₁.heap /\ wpAny (model PG B.w) A (PySem.call (.ref c1.sz) ([] ++ vs)) Q E s₁) fun vs c3 l3 s3 r3 => by
  have hb3 : c3.h.get? c1.sz = some KFB.bound := by
   refine x1_2 (l3.keep _ _ hb p2.b (fun h => nomatch h)) fun o' e1 kp => ?_
   rw [e1, kept_data kp (by rintro ⟨es, ep, q⟩; cases q)]
  refine ⟨hb3, ?_⟩
  cases r3 with | cons q1 r3 =>
  cases r3 with | cons q2 r3 =>
  cases r3
  cases q1; cases q2
  refine KFB.call_of hb3 (fun z => from_tree hz z) ?_
  exact k _ (c3.tk _) ((l12.trans l3).trans (.tk _ _ _)) (s3.tk _) (.int _ _)
 rw [hxr] at main ⊢
 exact evalArgs_plain main
end
end
section
noncomputable def fdIn (K : Frag) (f : Addr) : Option FuncData := match K.lookup f with
 | some ⟨_, _, .func fd, _⟩ => some fd
 | _ => none
noncomputable def fdAt (K : Frag) (f : Addr) : FuncData := match K.lookup f with
 | some ⟨_, _, .func fd, _⟩ => fd
 | _ => default
noncomputable def bodyIn (K : Frag) (f : Addr) : List Stmt := match fdIn K f with
 | some fd => (match fd.body with | .stmts b => b | _ => [])
 | _ => []
noncomputable def nodupB : List Str -> Bool
 | [] => true
 | x :: r => !r.contains x && nodupB r
theorem nodupB_ok : ∀ {l : List Str}, nodupB l = true -> l.Nodup
 | [], _ => .nil
 | x :: r, h => by
  rw [nodupB, Bool.and_eq_true, Bool.not_eq_true'] at h
  refine List.nodup_cons.mpr ⟨fun hm => ?_, nodupB_ok h.2⟩
  have := List.contains_iff_mem.mpr hm
  rw [h.1] at this
  cases this
noncomputable def fnCheck (K : Frag) (f : Addr) (names vars : List Str) : Bool := match K.lookup f with
 | some ⟨_, _, .func fd, _⟩ =>
  (match fd.body with | .stmts _ => true | _ => false) && fd.closure.isEmpty && fd.globals == mainGlobals && fd.builtins == builtinsNs && codeIn K fd.code fd.qualname &&
   ((names ++ vars).all fun x => (fd.scope.names.lookup x == some .local || fd.scope.names.lookup x == some .cell) && !(x == ("__debug__" : Str))) &&
   !fd.scope.isCoroutine && !fd.scope.isGenerator && fd.scope.kind == .function && nodupB (names ++ vars) && nodupB ((cellsFrom 0 fd.scope.names []).map (fun x => x.1))
 | _ => false
noncomputable def FnAt (w : World) (f : Addr) (names : List Str) (gl : Gl) (vars : List Str) : Prop := ∃ fd, FnOk w f fd (bodyIn (KK w) f) names gl vars
set_option tactic.hygienic true in
theorem fnAt_of {w : World} {f : Addr} {names vars : List Str} {gl : Gl} (hb : ∀ vs, vs.length = names.length -> bindArgs (fdAt (KK w) f) ⟨vs, []⟩ = pure (names.zip vs)) (h : fnCheck (KK w) f names vars = true := by kernel_rfl) (hg : (fdAt (KK w) f).scope.names = gl := by kernel_rfl) : FnAt w f names gl vars := by
 unfold fnCheck at h
 cases ho : (KK w).lookup f with
 | none => rw [ho] at h; cases h
 | some o =>
  obtain ⟨oc, od, dt, osl⟩ := o
  rw [ho] at h
  cases dt with
  | func fd' =>
   have e : fdAt (KK w) f = fd' := by unfold fdAt; rw [ho]
   have hf : fdIn (KK w) f = some fd' := by unfold fdIn; rw [ho]
   rw [e] at hg hb
   simp only [Bool.and_eq_true, Bool.not_eq_true', beq_iff_eq] at h
   obtain ⟨⟨⟨⟨⟨⟨⟨⟨⟨⟨h1, h2⟩, h3⟩, h4⟩, h5⟩, h6⟩, h7⟩, h8⟩, h9⟩, h10⟩, h11⟩ := h
   have hbody : fd'.body = .stmts (bodyIn (KK w) f) := by
    have q : bodyIn (KK w) f = match fd'.body with | .stmts b => b | _ => [] := by unfold bodyIn; rw [hf]
    rw [q]
    revert h1
    cases fd'.body with
    | stmts b => intro _; rfl
    | _ => intro h; cases h
   refine ⟨fd', ⟨⟨_, _, _, ho⟩, hbody, ?_, h3, h4, h5, hb, nodupB_ok h10, h6, hg, h7, h8, h9, nodupB_ok h11⟩⟩
   cases q : fd'.closure with
   | nil => rfl
   | cons _ _ => rw [q] at h2; cases h2
  | _ => cases h
theorem Call.at {B : Bs} {f : Addr} {names vars : List Str} {gl : Gl} {args : List D} {d : D} {n : Nat} {σ σ' σj : Sto} {fl : Fl} {ρ' : Loc}
  (K : FnAt B.w f names gl vars) (h : Ex (bodyIn (KK B.w) f) fl B gl n (locs0 names args vars) ρ' σ (σ' ++ σj)) (ha : args.length = names.length := by rfl) (hd : resOf fl = d := by rfl) (hl : σ.length <= σ'.length) (hlow : d.low σ'.length = true) (hs : Sto.low σ.length σ -> Sto.low σ'.length σ') : Call f args d B (n + 1) σ σ' :=
 let ⟨_, K⟩ := K
 Call.fn K ha h hd hl hlow hs
noncomputable def sAt : Nat -> List Stmt -> Stmt
 | 0, s :: _ => s
 | k + 1, _ :: r => sAt k r
 | _, [] => .Pass ⟨0, 0, 0, 0⟩
noncomputable def loopBody (s : Stmt) : List Stmt := (sPt s).2.1
noncomputable def loopTgt (s : Stmt) : Expr := (sPt s).2.2.2.getD (.Constant .none 0 ⟨0, 0, 0, 0⟩)
noncomputable def elseOf (s : Stmt) : List Stmt := (sPt s).2.2.1
theorem Call.at0 {B : Bs} {f : Addr} {names vars : List Str} {gl : Gl} {args : List D} {d : D} {n : Nat} {σ σj : Sto} {fl : Fl} {ρ' : Loc}
  (K : FnAt B.w f names gl vars) (h : Ex (bodyIn (KK B.w) f) fl B gl n (locs0 names args vars) ρ' σ (σ ++ σj)) (ha : args.length = names.length := by rfl) (hd : resOf fl = d := by rfl) (hlow : d.low σ.length = true) : Call f args d B (n + 1) σ σ :=
 Call.at K h ha hd (Nat.le_refl _) hlow fun h => h
theorem Call.ret0 {B : Bs} {f : Addr} {names vars : List Str} {gl : Gl} {args : List D} {d : D} {n : Nat} {σ σj : Sto} {ρ' : Loc}
  (K : FnAt B.w f names gl vars) (h : Ex (bodyIn (KK B.w) f) (.ret d) B gl n (locs0 names args vars) ρ' σ (σ ++ σj)) (hlow : d.low σ.length = true) (ha : args.length = names.length := by rfl) : Call f args d B (n + 1) σ σ :=
 Call.at0 K h ha rfl hlow
theorem Call.ret {B : Bs} {f : Addr} {names vars : List Str} {gl : Gl} {args : List D} {d : D} {n : Nat} {σ : Sto} {ρ' : Loc}
  (K : FnAt B.w f names gl vars) (h : Ex (bodyIn (KK B.w) f) (.ret d) B gl n (locs0 names args vars) ρ' σ σ) (hlow : d.low σ.length = true) (ha : args.length = names.length := by rfl) : Call f args d B (n + 1) σ σ :=
 Call.ret0 (σj := []) K (by rw [List.append_nil]; exact h) hlow ha
end
section
section
variable {P : List Value -> Prop}
theorem len0 (h : P []) : ∀ vs : List Value, vs.length = 0 -> P vs
 | [], _ => h
theorem len1 (h : ∀ a, P [a]) : ∀ vs : List Value, vs.length = 1 -> P vs
 | a :: r, e => len0 (P := fun r => P (a :: r)) (h a) r (Nat.succ.inj e)
theorem len2 (h : ∀ a b, P [a, b]) : ∀ vs : List Value, vs.length = 2 -> P vs
 | a :: r, e => len1 (P := fun r => P (a :: r)) (h a) r (Nat.succ.inj e)
theorem len3 (h : ∀ a b c, P [a, b, c]) : ∀ vs : List Value, vs.length = 3 -> P vs
 | a :: r, e => len2 (P := fun r => P (a :: r)) (h a) r (Nat.succ.inj e)
theorem len4 (h : ∀ a b c d, P [a, b, c, d]) : ∀ vs : List Value, vs.length = 4 -> P vs
 | a :: r, e => len3 (P := fun r => P (a :: r)) (h a) r (Nat.succ.inj e)
end
noncomputable abbrev gI : NameKind := .globalImplicit
noncomputable abbrev lO : NameKind := .local
noncomputable def gTab : List (Str × Value) := [(Str.ofString "DEEPEST", .int 60 300), (Str.ofString "INLINE_BELOW", .int 32 345), (Str.ofString "LEAF", .int 2 254), (Str.ofString "LEAST_ADDRESS", .int 605153021707326989568713251046585937826284568576 564), (Str.ofString "LIST", .int 192 304), (Str.ofString "LONGEST_KEY", .int 32 343), (Str.ofString "NOUGHT", .bytes #[] 347), (Str.ofString "Numbered", .ref 290), (Str.ofString "OCTETS", .int 128 302), (Str.ofString "ODD", .int 1 252), (Str.ofString "RlpFault", .ref 44), (Str.ofString "SHORT", .int 55 306), (Str.ofString "SPREAD", .int 281479271743489 566), (Str.ofString "Trie", .ref 255), (Str.ofString "TrieFault", .ref 56), (Str.ofString "_law_are_paths", .ref 376), (Str.ofString "_law_below", .ref 357), (Str.ofString "_law_change", .ref 316), (Str.ofString "_law_draw", .ref 304), (Str.ofString "_law_form", .ref 350), (Str.ofString "_law_is_held", .ref 364), (Str.ofString "_law_is_rooted", .ref 371), (Str.ofString "_law_key", .ref 309), (Str.ofString "_law_node", .ref 328), (Str.ofString "_law_path", .ref 323), (Str.ofString "_law_read", .ref 340), (Str.ofString "_law_signs", .ref 297), (Str.ofString "_law_sizes", .ref 296), (Str.ofString "_law_spelled", .ref 333), (Str.ofString "_law_written", .ref 345), (Str.ofString "_law_octets", .ref 295), (Str.ofString "add_items", .ref 189), (Str.ofString "encoded", .ref 114), (Str.ofString "encoded_at", .ref 107), (Str.ofString "form_of", .ref 203), (Str.ofString "head", .ref 100), (Str.ofString "items", .ref 196), (Str.ofString "led_to", .ref 149), (Str.ofString "nibbles_of", .ref 65), (Str.ofString "node_item", .ref 210), (Str.ofString "number_octets", .ref 93), (Str.ofString "packed", .ref 79), (Str.ofString "parted", .ref 135), (Str.ofString "put_in", .ref 142), (Str.ofString "put_in_branch", .ref 128), (Str.ofString "root_trie", .ref 217), (Str.ofString "settled", .ref 154), (Str.ofString "shared", .ref 72), (Str.ofString "step_down", .ref 175), (Str.ofString "taken_out", .ref 161), (Str.ofString "unpacked", .ref 86), (Str.ofString "value_at", .ref 182), (Str.ofString "with_kid", .ref 121), (Str.ofString "with_value", .ref 168)]
noncomputable def bTab : List (Str × Value) := [(Str.ofString "Exception", .type "Exception"), (Str.ofString "bytes", .type "bytes"), (Str.ofString "int", .type "int"), (Str.ofString "isinstance", .builtin "isinstance"), (Str.ofString "len", .builtin "len"), (Str.ofString "list", .type "list"), (Str.ofString "min", .builtin "min"), (Str.ofString "range", .type "range"), (Str.ofString "sorted", .builtin "sorted"), (Str.ofString "tuple", .type "tuple")]
theorem gTab_ok (w : World) : (gTab.all fun p => !(p.1 == ("__debug__" : Str)) && nsIn (KK w) mainGlobals p.1 == some (some p.2)) = true := by kernel_rfl
theorem bTab_ok (w : World) : (bTab.all fun p => !(p.1 == ("__debug__" : Str)) && nsIn (KK w) mainGlobals p.1 == some none && bootBuiltins p.1 == some p.2 && !(p.1 == ("__name__" : Str))) = true := by kernel_rfl
theorem glb_top {w : World} (k : Nat) {x : Str} {v : Value} (h : gTab[k]? = some (x, v)) : Glb w x v := by
 have := List.all_eq_true.mp (gTab_ok w) _ (List.mem_of_getElem? h)
 simp only [Bool.and_eq_true, Bool.not_eq_true', beq_iff_eq] at this
 exact .top this.1 this.2
theorem glb_boot {w : World} (k : Nat) {x : Str} {v : Value} (h : bTab[k]? = some (x, v)) : Glb w x v := by
 have := List.all_eq_true.mp (bTab_ok w) _ (List.mem_of_getElem? h)
 simp only [Bool.and_eq_true, Bool.not_eq_true', beq_iff_eq] at this
 exact .boot this.1.1.1 this.1.1.2 this.1.2 (by have := this.2; simpa using this)
section
variable {B : Bs} {gl : Gl} {n : Nat} {ρ : Loc} {σ : Sto} {pos : Pos}
noncomputable def GN (x : Str) (d : D) : Prop := ∀ (B : Bs) (gl : Gl) (n : Nat) (ρ : Loc) (σ : Sto) (pos : Pos), gl.lookup x = some gI -> Ev (.Name x pos) d B gl n ρ σ σ
theorem gTop' {x : Str} {v : Value} {d : D} (k : Nat) (h : gTab[k]? = some (x, v)) (hr : ∀ (G : Gm) (β : List Addr), Rep G β v d) : GN x d := fun Z Z Z Z Z Z hm => .glob' (glb_top k h) (fun G Z β => hr G β) hm
theorem gTop {x : Str} {v : Value} (k : Nat) (h : gTab[k]? = some (x, v)) : GN x (.raw v) := gTop' k h fun Z Z => .raw v
theorem gBoot {x : Str} {v : Value} (k : Nat) (h : bTab[k]? = some (x, v)) : GN x (.raw v) := fun Z Z Z Z Z Z hm => .glob (glb_boot k h) hm
theorem Ev.g {x : Str} {d : D} (k : GN x d) (hm : gl.lookup x = some gI := by rfl) : Ev (.Name x pos) d B gl n ρ σ σ := k _ _ _ _ _ _ hm
theorem g_DEEPEST : GN "DEEPEST" (.int 60) := gTop' 0 rfl fun Z Z => .int _ _
theorem g_INLINE_BELOW : GN "INLINE_BELOW" (.int 32) := gTop' 1 rfl fun Z Z => .int _ _
theorem g_LEAF : GN "LEAF" (.int 2) := gTop' 2 rfl fun Z Z => .int _ _
theorem g_LEAST_ADDRESS : GN "LEAST_ADDRESS" (.int 605153021707326989568713251046585937826284568576) := gTop' 3 rfl fun Z Z => .int _ _
theorem g_LIST : GN "LIST" (.int 192) := gTop' 4 rfl fun Z Z => .int _ _
theorem g_LONGEST_KEY : GN "LONGEST_KEY" (.int 32) := gTop' 5 rfl fun Z Z => .int _ _
theorem g_NOUGHT : GN "NOUGHT" (.bytes []) := gTop' 6 rfl fun Z Z => .bytes [] _
theorem g_Numbered : GN "Numbered" (.raw (.ref 290)) := gTop 7 rfl
theorem g_OCTETS : GN "OCTETS" (.int 128) := gTop' 8 rfl fun Z Z => .int _ _
theorem g_ODD : GN "ODD" (.int 1) := gTop' 9 rfl fun Z Z => .int _ _
theorem g_SHORT : GN "SHORT" (.int 55) := gTop' 11 rfl fun Z Z => .int _ _
theorem g_SPREAD : GN "SPREAD" (.int 281479271743489) := gTop' 12 rfl fun Z Z => .int _ _
theorem g_Trie : GN "Trie" (.raw (.ref 255)) := gTop 13 rfl
theorem g_TrieFault : GN "TrieFault" (.raw (.ref 56)) := gTop 14 rfl
theorem g_law_are_paths : GN "_law_are_paths" (.raw (.ref 376)) := gTop 15 rfl
theorem g_law_below : GN "_law_below" (.raw (.ref 357)) := gTop 16 rfl
theorem g_law_change : GN "_law_change" (.raw (.ref 316)) := gTop 17 rfl
theorem g_law_draw : GN "_law_draw" (.raw (.ref 304)) := gTop 18 rfl
theorem g_law_form : GN "_law_form" (.raw (.ref 350)) := gTop 19 rfl
theorem g_law_is_held : GN "_law_is_held" (.raw (.ref 364)) := gTop 20 rfl
theorem g_law_is_rooted : GN "_law_is_rooted" (.raw (.ref 371)) := gTop 21 rfl
theorem g_law_key : GN "_law_key" (.raw (.ref 309)) := gTop 22 rfl
theorem g_law_node : GN "_law_node" (.raw (.ref 328)) := gTop 23 rfl
theorem g_law_path : GN "_law_path" (.raw (.ref 323)) := gTop 24 rfl
theorem g_law_read : GN "_law_read" (.raw (.ref 340)) := gTop 25 rfl
theorem g_law_spelled : GN "_law_spelled" (.raw (.ref 333)) := gTop 28 rfl
theorem g_law_written : GN "_law_written" (.raw (.ref 345)) := gTop 29 rfl
theorem g_add_items : GN "add_items" (.raw (.ref 189)) := gTop 31 rfl
theorem g_encoded : GN "encoded" (.raw (.ref 114)) := gTop 32 rfl
theorem g_encoded_at : GN "encoded_at" (.raw (.ref 107)) := gTop 33 rfl
theorem g_form_of : GN "form_of" (.raw (.ref 203)) := gTop 34 rfl
theorem g_head : GN "head" (.raw (.ref 100)) := gTop 35 rfl
theorem g_items : GN "items" (.raw (.ref 196)) := gTop 36 rfl
theorem g_led_to : GN "led_to" (.raw (.ref 149)) := gTop 37 rfl
theorem g_nibbles_of : GN "nibbles_of" (.raw (.ref 65)) := gTop 38 rfl
theorem g_node_item : GN "node_item" (.raw (.ref 210)) := gTop 39 rfl
theorem g_number_octets : GN "number_octets" (.raw (.ref 93)) := gTop 40 rfl
theorem g_packed : GN "packed" (.raw (.ref 79)) := gTop 41 rfl
theorem g_parted : GN "parted" (.raw (.ref 135)) := gTop 42 rfl
theorem g_put_in : GN "put_in" (.raw (.ref 142)) := gTop 43 rfl
theorem g_put_in_branch : GN "put_in_branch" (.raw (.ref 128)) := gTop 44 rfl
theorem g_root_trie : GN "root_trie" (.raw (.ref 217)) := gTop 45 rfl
theorem g_settled : GN "settled" (.raw (.ref 154)) := gTop 46 rfl
theorem g_shared : GN "shared" (.raw (.ref 72)) := gTop 47 rfl
theorem g_step_down : GN "step_down" (.raw (.ref 175)) := gTop 48 rfl
theorem g_taken_out : GN "taken_out" (.raw (.ref 161)) := gTop 49 rfl
theorem g_unpacked : GN "unpacked" (.raw (.ref 86)) := gTop 50 rfl
theorem g_value_at : GN "value_at" (.raw (.ref 182)) := gTop 51 rfl
theorem g_with_kid : GN "with_kid" (.raw (.ref 121)) := gTop 52 rfl
theorem g_with_value : GN "with_value" (.raw (.ref 168)) := gTop 53 rfl
theorem g_Exception : GN "Exception" (.raw (.type "Exception")) := gBoot 0 rfl
theorem g_bytes : GN "bytes" (.raw (.type "bytes")) := gBoot 1 rfl
theorem g_int : GN "int" (.raw (.type "int")) := gBoot 2 rfl
theorem g_isinstance : GN "isinstance" (.raw (.builtin "isinstance")) := gBoot 3 rfl
theorem g_len : GN "len" (.raw (.builtin "len")) := gBoot 4 rfl
theorem g_list : GN "list" (.raw (.type "list")) := gBoot 5 rfl
theorem g_min : GN "min" (.raw (.builtin "min")) := gBoot 6 rfl
theorem g_range : GN "range" (.raw (.type "range")) := gBoot 7 rfl
theorem g_sorted : GN "sorted" (.raw (.builtin "sorted")) := gBoot 8 rfl
theorem g_tuple : GN "tuple" (.raw (.type "tuple")) := gBoot 9 rfl
end
noncomputable def gl_mfinit : Gl := [("self", lO), ("word", lO), ("Exception", gI)]
theorem fn_mfinit (w : World) : FnAt w 28 ["self", "word"] gl_mfinit [] := fnAt_of (len2 fun Z Z => by kernel_rfl)
noncomputable def gl_nibbles_of : Gl := [("octets", lO), ("found", lO), ("octet", lO), ("tuple", gI)]
theorem fn_nibbles_of (w : World) : FnAt w 65 ["octets"] gl_nibbles_of ["found", "octet"] := fnAt_of (len1 fun Z => by kernel_rfl)
noncomputable def gl_shared : Gl := [("one", lO), ("other", lO), ("most", lO), ("many", lO), ("min", gI), ("len", gI)]
theorem fn_shared (w : World) : FnAt w 72 ["one", "other"] gl_shared ["most", "many"] := fnAt_of (len2 fun Z Z => by kernel_rfl)
noncomputable def gl_packed : Gl := [("nibbles", lO), ("is_leaf", lO), ("nibble", lO), ("flag", lO), ("ahead", lO), ("row", lO), ("found", lO), ("place", lO), ("TrieFault", gI), ("LEAF", gI), ("len", gI), ("ODD", gI), ("tuple", gI), ("range", gI), ("bytes", gI)]
theorem fn_packed (w : World) : FnAt w 79 ["nibbles", "is_leaf"] gl_packed ["nibble", "flag", "ahead", "row", "found", "place"] := fnAt_of (len2 fun Z Z => by kernel_rfl)
noncomputable def gl_unpacked : Gl := [("octets", lO), ("row", lO), ("is_leaf", lO), ("nibbles_of", gI), ("LEAF", gI), ("ODD", gI), ("TrieFault", gI)]
theorem fn_unpacked (w : World) : FnAt w 86 ["octets"] gl_unpacked ["row", "is_leaf"] := fnAt_of (len1 fun Z => by kernel_rfl)
noncomputable def gl_number_octets : Gl := [("n", lO), ("RlpFault", gI)]
theorem fn_number_octets (w : World) : FnAt w 93 ["n"] gl_number_octets [] := fnAt_of (len1 fun Z => by kernel_rfl)
noncomputable def gl_head : Gl := [("low", lO), ("size", lO), ("told", lO), ("SHORT", gI), ("bytes", gI), ("number_octets", gI), ("len", gI)]
theorem fn_head (w : World) : FnAt w 100 ["low", "size"] gl_head ["told"] := fnAt_of (len2 fun Z Z => by kernel_rfl)
noncomputable def gl_encoded_at : Gl := [("item", lO), ("depth", lO), ("body", lO), ("part", lO), ("DEEPEST", gI), ("RlpFault", gI), ("isinstance", gI), ("list", gI), ("encoded_at", gI), ("head", gI), ("LIST", gI), ("len", gI), ("bytes", gI), ("OCTETS", gI)]
theorem fn_encoded_at (w : World) : FnAt w 107 ["item", "depth"] gl_encoded_at ["body", "part"] := fnAt_of (len2 fun Z Z => by kernel_rfl)
noncomputable def gl_encoded : Gl := [("item", lO), ("encoded_at", gI)]
theorem fn_encoded (w : World) : FnAt w 114 ["item"] gl_encoded [] := fnAt_of (len1 fun Z => by kernel_rfl)
noncomputable def gl_with_kid : Gl := [("node", lO), ("nibble", lO), ("kid", lO), ("kids", lO), ("list", gI), ("tuple", gI)]
theorem fn_with_kid (w : World) : FnAt w 121 ["node", "nibble", "kid"] gl_with_kid ["kids"] := fnAt_of (len3 fun Z Z Z => by kernel_rfl)
noncomputable def gl_put_in_branch : Gl := [("node", lO), ("path", lO), ("value", lO), ("kids", lO), ("with_kid", gI), ("put_in", gI)]
theorem fn_put_in_branch (w : World) : FnAt w 128 ["node", "path", "value"] gl_put_in_branch ["kids"] := fnAt_of (len3 fun Z Z Z => by kernel_rfl)
noncomputable def gl_parted : Gl := [("node", lO), ("same", lO), ("kind", lO), ("way", lO), ("held", lO), ("rest", lO), ("fork", lO), ("NOUGHT", gI), ("put_in_branch", gI), ("with_kid", gI), ("len", gI)]
theorem fn_parted (w : World) : FnAt w 135 ["node", "same"] gl_parted ["kind", "way", "held", "rest", "fork"] := fnAt_of (len2 fun Z Z => by kernel_rfl)
noncomputable def gl_put_in : Gl := [("node", lO), ("path", lO), ("value", lO), ("kind", lO), ("way", lO), ("held", lO), ("same", lO), ("fork", lO), ("put_in_branch", gI), ("shared", gI), ("len", gI), ("put_in", gI), ("parted", gI)]
theorem fn_put_in (w : World) : FnAt w 142 ["node", "path", "value"] gl_put_in ["kind", "way", "held", "same", "fork"] := fnAt_of (len3 fun Z Z Z => by kernel_rfl)
noncomputable def gl_led_to : Gl := [("way", lO), ("node", lO), ("kind", lO), ("path", lO), ("held", lO)]
theorem fn_led_to (w : World) : FnAt w 149 ["way", "node"] gl_led_to ["kind", "path", "held"] := fnAt_of (len2 fun Z Z => by kernel_rfl)
noncomputable def gl_settled : Gl := [("node", lO), ("kids", .cell), ("value", lO), ("lived", lO), ("range", gI), ("NOUGHT", gI), ("len", gI), ("led_to", gI)]
theorem fn_settled (w : World) : FnAt w 154 ["node"] gl_settled ["kids", "value", "lived"] := fnAt_of (len1 fun Z => by kernel_rfl)
noncomputable def gl_taken_out : Gl := [("node", lO), ("path", lO), ("kind", lO), ("way", lO), ("held", lO), ("len", gI), ("led_to", gI), ("taken_out", gI), ("settled", gI), ("NOUGHT", gI), ("with_kid", gI)]
theorem fn_taken_out (w : World) : FnAt w 161 ["node", "path"] gl_taken_out ["kind", "way", "held"] := fnAt_of (len2 fun Z Z => by kernel_rfl)
noncomputable def gl_with_value : Gl := [("node", lO), ("path", lO), ("value", lO), ("NOUGHT", gI), ("taken_out", gI), ("put_in", gI)]
theorem fn_with_value (w : World) : FnAt w 168 ["node", "path", "value"] gl_with_value [] := fnAt_of (len3 fun Z Z Z => by kernel_rfl)
noncomputable def gl_step_down : Gl := [("node", lO), ("path", lO), ("kind", lO), ("way", lO), ("held", lO), ("NOUGHT", gI), ("len", gI)]
theorem fn_step_down (w : World) : FnAt w 175 ["node", "path"] gl_step_down ["kind", "way", "held"] := fnAt_of (len2 fun Z Z => by kernel_rfl)
noncomputable def gl_value_at : Gl := [("node", lO), ("path", lO), ("value", lO), ("step_down", gI), ("NOUGHT", gI)]
theorem fn_value_at (w : World) : FnAt w 182 ["node", "path"] gl_value_at ["value"] := fnAt_of (len2 fun Z Z => by kernel_rfl)
noncomputable def gl_add_items : Gl := [("node", lO), ("ahead", lO), ("found", lO), ("kind", lO), ("way", lO), ("held", lO), ("nibble", lO), ("add_items", gI), ("NOUGHT", gI), ("range", gI)]
theorem fn_add_items (w : World) : FnAt w 189 ["node", "ahead", "found"] gl_add_items ["kind", "way", "held", "nibble"] := fnAt_of (len3 fun Z Z Z => by kernel_rfl)
noncomputable def gl_items : Gl := [("node", lO), ("found", lO), ("add_items", gI)]
theorem fn_items (w : World) : FnAt w 196 ["node"] gl_items ["found"] := fnAt_of (len1 fun Z => by kernel_rfl)
noncomputable def gl_form_of : Gl := [("node", lO), ("digest", lO), ("kind", lO), ("way", lO), ("held", lO), ("found", lO), ("kid", lO), ("NOUGHT", gI), ("packed", gI), ("node_item", gI)]
theorem fn_form_of (w : World) : FnAt w 203 ["node", "digest"] gl_form_of ["kind", "way", "held", "found", "kid"] := fnAt_of (len2 fun Z Z => by kernel_rfl)
noncomputable def gl_node_item : Gl := [("node", lO), ("digest", lO), ("form", lO), ("written", lO), ("form_of", gI), ("encoded", gI), ("len", gI), ("INLINE_BELOW", gI)]
theorem fn_node_item (w : World) : FnAt w 210 ["node", "digest"] gl_node_item ["form", "written"] := fnAt_of (len2 fun Z Z => by kernel_rfl)
noncomputable def gl_root : Gl := [("node", lO), ("digest", lO), ("encoded", gI), ("form_of", gI)]
theorem fn_root (w : World) : FnAt w 217 ["node", "digest"] gl_root [] := fnAt_of (len2 fun Z Z => by kernel_rfl)
noncomputable def gl_trie_init : Gl := [("self", lO), ("digest", lO)]
theorem fn_trie_init (w : World) : FnAt w 231 ["self", "digest"] gl_trie_init [] := fnAt_of (len2 fun Z Z => by kernel_rfl)
noncomputable def gl_trie_put : Gl := [("self", lO), ("key", lO), ("value", lO), ("len", gI), ("LONGEST_KEY", gI), ("TrieFault", gI), ("with_value", gI), ("nibbles_of", gI)]
theorem fn_trie_put (w : World) : FnAt w 238 ["self", "key", "value"] gl_trie_put [] := fnAt_of (len3 fun Z Z Z => by kernel_rfl)
noncomputable def gl_trie_get : Gl := [("self", lO), ("key", lO), ("value_at", gI), ("nibbles_of", gI)]
theorem fn_trie_get (w : World) : FnAt w 245 ["self", "key"] gl_trie_get [] := fnAt_of (len2 fun Z Z => by kernel_rfl)
noncomputable def gl_trie_root : Gl := [("self", lO), ("root_trie", gI)]
theorem fn_trie_root (w : World) : FnAt w 252 ["self"] gl_trie_root [] := fnAt_of (len1 fun Z => by kernel_rfl)
noncomputable def gl_num_init : Gl := [("self", lO)]
theorem fn_num_init (w : World) : FnAt w 273 ["self"] gl_num_init [] := fnAt_of (len1 fun Z => by kernel_rfl)
noncomputable def gl_number : Gl := [("self", lO), ("octets", lO), ("key", lO), ("int", gI), ("bytes", gI), ("len", gI)]
theorem fn_number (w : World) : FnAt w 280 ["self", "octets"] gl_number ["key"] := fnAt_of (len2 fun Z Z => by kernel_rfl)
noncomputable def gl_num_of : Gl := [("self", lO), ("octets", lO), ("number", lO), ("first", lO), ("middle", lO), ("SPREAD", gI), ("LEAST_ADDRESS", gI)]
theorem fn_num_of (w : World) : FnAt w 287 ["self", "octets"] gl_num_of ["number", "first", "middle"] := fnAt_of (len2 fun Z Z => by kernel_rfl)
noncomputable def gl_law_draw : Gl := [("well", lO), ("many", lO), ("spot", lO), ("fed", lO), ("len", gI)]
theorem fn_law_draw (w : World) : FnAt w 304 ["well", "many"] gl_law_draw ["spot", "fed"] := fnAt_of (len2 fun Z Z => by kernel_rfl)
noncomputable def gl_law_key : Gl := [("well", .cell), ("key", lO), ("bytes", gI), ("range", gI), ("_law_draw", gI)]
theorem fn_law_key (w : World) : FnAt w 309 ["well"] gl_law_key ["key"] := fnAt_of (len1 fun Z => by kernel_rfl)
noncomputable def gl_law_change : Gl := [("well", lO), ("known", lO), ("way", lO), ("key", lO), ("is_longer", lO), ("size", lO), ("_law_draw", gI), ("_law_key", gI), ("len", gI), ("bytes", gI), ("_law_sizes", gI), ("_law_signs", gI)]
theorem fn_law_change (w : World) : FnAt w 316 ["well", "known"] gl_law_change ["way", "key", "is_longer", "size"] := fnAt_of (len2 fun Z Z => by kernel_rfl)
noncomputable def gl_law_path : Gl := [("key", lO), ("found", lO), ("octet", lO), ("tuple", gI)]
theorem fn_law_path (w : World) : FnAt w 323 ["key"] gl_law_path ["found", "octet"] := fnAt_of (len1 fun Z => by kernel_rfl)
noncomputable def gl_law_node : Gl := [("rows", lO), ("first", lO), ("last", lO), ("alike", .cell), ("path", lO), ("value_now", lO), ("groups", .cell), ("held", lO), ("len", gI), ("_law_node", gI), ("tuple", gI), ("range", gI)]
theorem fn_law_node (w : World) : FnAt w 328 ["rows"] gl_law_node ["first", "last", "alike", "path", "value_now", "groups", "held"] := fnAt_of (len1 fun Z => by kernel_rfl)
noncomputable def gl_law_spelled : Gl := [("path", lO), ("is_leaf", lO), ("total", .cell), ("nibble", lO), ("len", gI), ("bytes", gI), ("range", gI)]
theorem fn_law_spelled (w : World) : FnAt w 333 ["path", "is_leaf"] gl_law_spelled ["total", "nibble"] := fnAt_of (len2 fun Z Z => by kernel_rfl)
noncomputable def gl_law_read : Gl := [("octets", lO), ("row", lO), ("flag", lO), ("_law_path", gI)]
theorem fn_law_read (w : World) : FnAt w 340 ["octets"] gl_law_read ["row", "flag"] := fnAt_of (len1 fun Z => by kernel_rfl)
noncomputable def gl_law_written : Gl := [("item", lO), ("low", lO), ("body", lO), ("size", lO), ("told_now", lO), ("isinstance", gI), ("list", gI), ("len", gI), ("bytes", gI)]
theorem fn_law_written (w : World) : FnAt w 345 ["item"] gl_law_written ["low", "body", "size", "told_now"] := fnAt_of (len1 fun Z => by kernel_rfl)
noncomputable def gl_law_form : Gl := [("knot", lO), ("digest", .cell), ("_law_spelled", gI), ("_law_below", gI)]
theorem fn_law_form (w : World) : FnAt w 350 ["knot", "digest"] gl_law_form [] := fnAt_of (len2 fun Z Z => by kernel_rfl)
noncomputable def gl_law_below : Gl := [("knot", lO), ("digest", lO), ("found", lO), ("octets", lO), ("_law_form", gI), ("_law_written", gI), ("len", gI)]
theorem fn_law_below (w : World) : FnAt w 357 ["knot", "digest"] gl_law_below ["found", "octets"] := fnAt_of (len2 fun Z Z => by kernel_rfl)
noncomputable def gl_law_is_held : Gl := [("trie", lO), ("book", lO), ("known", lO), ("key", lO), ("path", lO), ("before", lO), ("is_refused", lO), ("items", gI), ("sorted", gI), ("_law_path", gI), ("value_at", gI), ("bytes", gI), ("TrieFault", gI)]
theorem fn_law_is_held (w : World) : FnAt w 364 ["trie", "book", "known"] gl_law_is_held ["key", "path", "before", "is_refused"] := fnAt_of (len3 fun Z Z Z => by kernel_rfl)
noncomputable def gl_law_is_rooted : Gl := [("well", lO), ("digest", lO), ("trie", lO), ("book", lO), ("rows", lO), ("due", lO), ("stray", lO), ("first", lO), ("order", lO), ("knot", lO), ("path", lO), ("value_now", lO), ("way", lO), ("sorted", gI), ("_law_written", gI), ("_law_form", gI), ("_law_node", gI), ("root_trie", gI), ("_law_draw", gI), ("len", gI), ("with_value", gI)]
theorem fn_law_is_rooted (w : World) : FnAt w 371 ["well", "digest", "trie", "book"] gl_law_is_rooted ["rows", "due", "stray", "first", "order", "knot", "path", "value_now", "way"] := fnAt_of (len4 fun Z Z Z Z => by kernel_rfl)
noncomputable def gl_law_are_paths : Gl := [("well", .cell), ("path", lO), ("is_leaf", lO), ("octets", lO), ("other", lO), ("alike", lO), ("found", lO), ("tuple", gI), ("range", gI), ("_law_draw", gI), ("_law_key", gI), ("packed", gI), ("_law_spelled", gI), ("unpacked", gI), ("nibbles_of", gI), ("_law_path", gI), ("min", gI), ("len", gI), ("shared", gI), ("bytes", gI), ("TrieFault", gI), ("_law_read", gI)]
theorem fn_law_are_paths (w : World) : FnAt w 376 ["well"] gl_law_are_paths ["path", "is_leaf", "octets", "other", "alike", "found"] := fnAt_of (len1 fun Z => by kernel_rfl)
noncomputable def gl_law : Gl := [("script", lO), ("well", lO), ("digest", lO), ("trie", lO), ("book", lO), ("known", lO), ("turn", lO), ("key", lO), ("value_now", lO), ("Numbered", gI), ("Trie", gI), ("range", gI), ("_law_draw", gI), ("_law_change", gI), ("_law_path", gI), ("_law_node", gI), ("sorted", gI), ("_law_is_held", gI), ("_law_is_rooted", gI), ("_law_are_paths", gI)]
theorem fn_law (w : World) : FnAt w 381 ["script"] gl_law ["well", "digest", "trie", "book", "known", "turn", "key", "value_now"] := fnAt_of (len1 fun Z => by kernel_rfl)
end
local macro_rules | `(tactic| walk_at "v") => `(tactic| ((try simp only [locsE, List.map, namesE]); repeat with_reducible constructor))
section
theorem get_last {σ : Sto} {y : Cell} : (σ ++ [y])[σ.length]? = some y := by simp
theorem set_last {σ : Sto} {y z : Cell} : (σ ++ [y]).set σ.length z = σ ++ [z] := by simp
section
variable {B : Bs} {gl : Gl} {n : Nat} {ρ : Loc} {σ : Sto}
theorem CallV.appendL {ds : List D} {d : D} (hz : ds.length <= 1000000) : CallV (.builtin "list.append") [.obj σ.length, d] .none B n (σ ++ [.lst ds]) (σ ++ [.lst (ds ++ [d])]) := by
 have := CallV.append (B := B) (n := n) (d := d) (get_last (σ := σ) (y := .lst ds)) hz
 rwa [set_last] at this
theorem Meth.append {x : Nat} {ds : List D} (hx : σ[x]? = some (.lst ds)) : Meth (.obj x) "append" (.builtin "list.append") B σ := Meth.list hx F.slot_list_append F.type_list_append
end
noncomputable def nibs (b : List UInt8) : List Int := b.flatMap fun x => [(x.toNat : Int) / 16, (x.toNat : Int) % 16]
theorem hi4 (x : UInt8) : Int.fdiv (x.toNat : Int) (2 ^ (4 : Int).toNat) = (x.toNat : Int) / 16 := by
 rw [Int.fdiv_eq_ediv_of_nonneg _ (by decide)]; rfl
theorem lo4 (x : UInt8) : Builtin.bitAnd (x.toNat : Int) 15 = (x.toNat : Int) % 16 := bitAnd_m4 _
theorem nibs_cons (x : UInt8) (b : List UInt8) : nibs (x :: b) = ((x.toNat : Int) / 16) :: ((x.toNat : Int) % 16) :: nibs b := rfl
theorem nibs_length (b : List UInt8) : (nibs b).length = 2 * b.length := by
 induction b with
 | nil => rfl
 | cons x b ih => rw [nibs_cons, List.length_cons, List.length_cons, ih, List.length_cons]; lia
theorem nib_loop {B : Bs} {n : Nat} {σ : Sto} {b : List UInt8} : ∀ (r : List UInt8) (acc : List Int) (o : Option D), acc.length + 2 * r.length <= 200000 -> ∃ o',
   ForL (loopTgt (sAt 1 (bodyIn (KK B.w) 65))) (loopBody (sAt 1 (bodyIn (KK B.w) 65))) B gl_nibbles_of n (r.map fun x => D.int x.toNat) .next [(Str.ofString "octets", some (.bytes b)), (Str.ofString "found", some (.obj σ.length)), (Str.ofString "octet", o)] [(Str.ofString "octets", some (.bytes b)), (Str.ofString "found", some (.obj σ.length)), (Str.ofString "octet", o')] (σ ++ [.lst (acc.map D.int)]) (σ ++ [.lst ((acc ++ nibs r).map D.int)]) := by
 intro r
 induction r with
 | nil => intro acc o h; exact ⟨o, by rw [show nibs [] = [] from rfl, List.append_nil]; exact .nil⟩
 | cons x r ih =>
  intro acc o h
  refine x1_1 (ih (acc ++ [(x.toNat : Int) / 16, (x.toNat : Int) % 16]) (some (.int x.toNat)) (by simp only [List.length_append, List.length_cons, List.length_nil] at h ⊢; lia)) fun o' hl => ?_
  simp only [List.length_cons] at h
  refine ⟨o', .step (Tgt.name (by walk_at "v")) (Ex.seq (St1.expr (Ev.meth Ev.name (Meth.append get_last) .builtin (.cons (Ev.bin Ev.name .cint (.rshift (by decide))) .nil) (CallV.appendL (by rw [List.length_map]; lia)))) (Ex.seq (St1.expr (Ev.meth Ev.name (Meth.append get_last) .builtin (.cons (Ev.bin Ev.name .cint .band) .nil) (CallV.appendL (by rw [List.length_append, List.length_map, List.length_singleton]; lia)))) .nil)) ?_⟩
  rw [hi4, lo4]
  simpa [nibs_cons] using hl
theorem nibbles_of_ok {B : Bs} {n : Nat} {σ : Sto} {b : List UInt8} (hz : b.length <= 100000) : Call 65 [.bytes b] (pathI (nibs b)) B (n + 1) σ σ := by
 refine x1_1 (nib_loop (B := B) (n := n) (σ := σ) (b := b) b [] none (by simp; lia)) fun o' hl => ?_
 rw [List.nil_append] at hl
 refine' Call.ret0 (σj := [.lst ((nibs b).map D.int)]) (fn_nibbles_of _) (Ex.seq (St1.assign (Ev.listM .nil) (by walk_at "v")) (Ex.seq (St1.of (StX.for_ (EvI.val Ev.name .byt) hl)) (Ex.ret (Ev.call (Ev.g g_tuple) .type (.cons (Ev.name ?_) .nil) (CallV.tupO get_last ?_))))) (low_pathI _ _)
 ·walk_at "v"
 ·rw [List.length_map, nibs_length]; lia
end
section
noncomputable def RawAt (h : Heap) (d : Addr) (kvs : List (Value × Value)) (ep : Nat) : Prop :=
 ∃ o es, h.get? d = some o /\ o.ExactDict /\ o.data = .dict es ep /\ es.toList.map (fun e => (e.key, e.val)) = kvs
theorem RawAt.at {h h' : Heap} {a : Addr} {kvs : List (Value × Value)} {ep : Nat} (x : RawAt h a kvs ep) (e : ∀ o, h.get? a = some o -> h'.get? a = some o) : RawAt h' a kvs ep := let ⟨o, es, ho, r⟩ := x; ⟨o, es, e _ ho, r⟩
noncomputable abbrev PairIt (h : Heap) (it d : Addr) (i n ep : Nat) (x0 ok ov : Value) (f : Bool) : Prop :=
 h.get? it = some { cls := .type "dict_itemiterator", dict := none, data := .fields #[x0, .bool f, .ref d, .int i 0, .int n 0, .int ep 0, ok, ov], slots := #[] }
noncomputable def KeptPair (h : Heap) (it : Addr) (x0 : Value) : Prop := x0 = .none \/ ∃ (a : Addr) (oa : Obj), x0 = rawInt a /\ h.get? a = some oa /\ a ≠ it
section
variable {prog : Program} {w : World} {A : Around} {E : Value -> Shared -> Prop} {s : Shared}
theorem alive_of {a : Addr} {o : Obj} {Q : Option Obj -> Shared -> Prop} (ho : s.heap.get? a = some o) (h : Q (some o) s) : wpAny (model prog w) A (loadIfAlive a) Q E s := by
 have h' : Q (s.heap.get? a) s := by rw [ho]; exact h
 exact fun Z Z Z => h'
theorem free_owner {it d : Addr} {i m ep : Nat} {x0 ok ov : Value} {f : Bool} {h₁ h₂ : Heap} {g : Array GenState} {dr : Drawn} {tk : Nat} {os : OsState} {Q : Bool -> Shared -> Prop} (he₂ : PairIt h₂ it d i m ep x0 ok ov f) (hx0 : KeptPair h₁ it x0)
  (hk₂ : ∀ b o, h₁.get? b = some o -> h₂.get? b = some o) (k1 : x0 = .none -> Q true ⟨h₂, g, dr, tk, os⟩)
  (k2 : ∀ h₃ f', PairIt h₃ it d i m ep x0 ok ov f' -> Heap.SameBut it h₂ h₃ -> KeptPair h₃ it x0 -> Q false ⟨h₃, g, dr, tk, os⟩) :
  wpAny (model prog w) A (Builtin.Dict_items.ownedTupleIsFree (.ref it)) Q E ⟨h₂, g, dr, tk, os⟩ := by
 unfold Builtin.Dict_items.ownedTupleIsFree
 refine wpAny_bind (wpAny_field he₂ rfl (x := x0) rfl ?_)
 rcases hx0 with rfl | ⟨a, oa, rfl, ha, hai⟩
 ·exact wpAny_pure (k1 rfl)
 ·have ha₂ : h₂.get? a = some oa := hk₂ a oa ha
  show wpAny _ _ (loadIfAlive ((a : Int).toNat) >>= _) _ _ _
  rw [Int.toNat_natCast]
  refine wpAny_bind (alive_of ha₂ ?_)
  refine wp_neg Bool.false_ne_true ?_
  refine wpAny_bind (wpAny_field he₂ rfl (x := .bool f) rfl ?_)
  cases f with
  | true => exact wp_neg (show ¬ ((Value.bool true != Value.bool true) = true) from Bool.false_ne_true) (wpAny_pure (k2 h₂ _ he₂ (Heap.SameBut.refl _ _) (.inr ⟨a, oa, rfl, ha₂, hai⟩)))
  | false =>
   refine wp_pos (show (Value.bool false != Value.bool true) = true from rfl) (wpAny_bind (wpAny_setField_rec he₂ (by simp) fun h₃ he₃ hs₃ => ?_))
   have hs₃ : Heap.SameBut it h₂ h₃ := hs₃
   have he₃ : PairIt h₃ it d i m ep (rawInt a) ok ov true := he₃
   exact wpAny_pure (k2 h₃ _ he₃ hs₃ (.inr ⟨a, oa, rfl, hs₃.extBut _ _ hai ha₂, hai⟩))
theorem pair_owner {it d : Addr} {i m ep : Nat} {k v x0 ok ov : Value} {f : Bool} {h₁ : Heap} {g : Array GenState} {dr : Drawn} {tk : Nat} {os : OsState} {Q : Value -> Shared -> Prop} (he₁ : PairIt h₁ it d i m ep x0 ok ov f) (hx0 : KeptPair h₁ it x0)
  (hQ : ∀ h' x0' ok' ov' f', PairIt h' it d i m ep x0' ok' ov' f' -> KeptPair h' it x0' ->
   h'.get? h₁.objs.size = some { cls := .type "tuple", data := .seq #[k, v] } -> h'.objs.size = h₁.objs.size + 1 ->
   (∀ b o, b ≠ it -> h₁.get? b = some o -> h'.get? b = some o) -> Q (.ref h₁.objs.size) ⟨h', g, dr, tk, os⟩) :
  wpAny (model prog w) A (Builtin.Dict_items.pairFromOwner (.ref it) 6 k v) Q E ⟨h₁, g, dr, tk, os⟩ := by
 unfold Builtin.Dict_items.pairFromOwner
 refine wpAny_bind (wpAny_newTuple ?_)
 have he₂ : PairIt (h₁.push { cls := .type "tuple", data := .seq #[k, v] }) it d i m ep x0 ok ov f := Heap.get?_push_of_some _ he₁
 have ht₂ : (h₁.push { cls := .type "tuple", data := .seq #[k, v] }).get? h₁.objs.size = some { cls := .type "tuple", data := .seq #[k, v] } := Heap.get?_push_size _ rfl
 have hz₂ : (h₁.push { cls := .type "tuple", data := .seq #[k, v] }).objs.size = h₁.objs.size + 1 := Heap.size_push ..
 have hk₂ : ∀ b o, h₁.get? b = some o -> (h₁.push { cls := .type "tuple", data := .seq #[k, v] }).get? b = some o := fun b o e => Heap.get?_push_of_some _ e
 show wpAny _ _ (Builtin.Dict_items.ownedTupleIsFree (.ref it) >>= _) _ _ ⟨h₁.push { cls := .type "tuple", data := .seq #[k, v] }, g, dr, tk, os⟩
 revert he₂ ht₂ hz₂ hk₂
 generalize h₁.push { cls := .type "tuple", data := .seq #[k, v] } = h₂
 intro he₂ ht₂ hz₂ hk₂
 have hil : h₁.objs.size ≠ it := Nat.ne_of_gt (Heap.lt_size he₁)
 generalize hsz : h₁.objs.size = z at ht₂ hz₂ hil hQ ⊢
 have fin : ∀ (h₃ : Heap) (x0' ok' ov' : Value) (f' : Bool), PairIt h₃ it d i m ep x0' ok' ov' f' -> KeptPair h₃ it x0' -> Heap.SameBut it h₂ h₃ -> Q (.ref z) ⟨h₃, g, dr, tk, os⟩ := fun h₃ x0' ok' ov' f' he₃ hk₃ hs₃ =>
  hQ h₃ x0' ok' ov' f' he₃ hk₃ (hs₃.extBut _ _ hil ht₂) (hs₃.1.trans hz₂) fun b o hb e => hs₃.extBut b o hb (hk₂ b o e)
 clear hQ hz₂
 refine wpAny_bind (free_owner he₂ hx0 hk₂ (fun e => ?_) fun h₃ f' he₃ hs₃ hk₃ => ?_)
 ·subst e
  refine wp_pos rfl ?_
  refine wpAny_bind (wpAny_field he₂ rfl (x := ok) rfl ?_)
  refine wpAny_bind (wpAny_field he₂ rfl (x := ov) rfl ?_)
  refine wpAny_bind (wpAny_setField_rec he₂ (by simp) fun h₃ he₃ hs₃ => ?_)
  refine wpAny_bind (wpAny_setField_rec he₃ (by simp) fun h₄ he₄ hs₄ => ?_)
  refine wpAny_bind (wpAny_setField_rec he₄ (by simp) fun h₅ he₅ hs₅ => ?_)
  refine wpAny_bind (wpAny_setField_rec he₅ (by simp) fun h₆ he₆ hs₆ => ?_)
  have hs₆ : Heap.SameBut it h₂ h₆ := ⟨hs₆.1.trans (hs₅.1.trans (hs₄.1.trans hs₃.1)), fun b hb => (hs₆.2 b hb).trans ((hs₅.2 b hb).trans ((hs₄.2 b hb).trans (hs₃.2 b hb)))⟩
  have he₆ : PairIt h₆ it d i m ep (rawInt z) k v false := he₆
  exact wpAny_bind (wpAny_letGo (wpAny_pure (fin h₆ _ _ _ _ he₆ (.inr ⟨_, _, rfl, hs₆.extBut _ _ hil ht₂, hil⟩) hs₆)))
 ·exact wp_neg Bool.false_ne_true (wpAny_pure (fin h₃ _ _ _ _ he₃ hk₃ hs₃))
theorem next_pair {it d : Addr} {i ep : Nat} {kvs : List (Value × Value)} {k v x0 ok ov : Value} {f : Bool} {Q : Option Value -> Shared -> Prop} (hit : PairIt s.heap it d i kvs.length ep x0 ok ov f) (hx0 : KeptPair s.heap it x0)
  (hm : RawAt s.heap d kvs ep) (hx : kvs[i]? = some (k, v))
  (hQ : ∀ h' x0' ok' ov' f', PairIt h' it d (i + 1) kvs.length ep x0' ok' ov' f' -> KeptPair h' it x0' ->
   h'.get? s.heap.objs.size = some { cls := .type "tuple", data := .seq #[k, v] } -> h'.objs.size = s.heap.objs.size + 1 ->
   (∀ b o, b ≠ it -> s.heap.get? b = some o -> h'.get? b = some o) -> Q (some (.ref s.heap.objs.size)) { s with heap := h' }) :
  wpAny (model prog w) A (pyNext (.ref it)) Q E s := by
 obtain ⟨hp, g, dr, tk, os⟩ := s
 obtain ⟨od, es, hod, hcd, hdd, hpr⟩ := id hm
 have hT : Shared.TypeIs ⟨hp, g, dr, tk, os⟩ (.ref it) "dict_itemiterator" := ⟨_, hit, rfl⟩
 unfold pyNext
 refine wpAny_bind (wpAny_attempt (wpAny_callSpecial?_slot (name := Str.ofString "__next__") hT PySem.F.slot_dict_itemiterator_next
  (wpAny_call_entry PySem.F.slot_dict_itemiterator_next hT PySem.F.entry_dict_itemiterator_next ?_ (PySem.F.args_dict_itemiterator_next_1 _))))
 refine wpAny_bind (wpAny_pure (wpAny_bind (wpAny_bind ?_)))
 first | refine wpAny_bind (wpAny_typeNameOfWhole_itemiter hT (wpAny_pure ?_)) | refine wpAny_bind (wpAny_typeNameOf_itemiter hT (wpAny_pure ?_))
 refine wpAny_bind (wpAny_fieldsOf hit rfl ?_)
 have hown : Builtin.Dict_items.ownsTuple "dict_itemiterator" = true := by decide
 rw [if_pos hown]
 show wpAny _ _ (if (Value.ref d == Value.none) = true then _ else _) _ _ _
 refine wp_neg (show ¬ ((Value.ref d == Value.none) = true) from Bool.false_ne_true) ?_
 refine wpAny_bind (wpAny_pure (wpAny_bind (wpAny_dictEntries hod hdd ?_)))
 have hsz : es.size = kvs.length := by rw [<- hpr]; simp
 refine wp_neg (by rw [hsz]; simp) ?_
 refine wpAny_bind (wpAny_pure (wpAny_bind (wpAny_dictEpoch hod hdd ?_)))
 refine wp_neg (by simp) ?_
 refine wpAny_pure ?_
 have hlt : i < kvs.length := (List.getElem?_eq_some_iff.mp hx).1
 have hlt' : i < es.size := by rw [hsz]; exact hlt
 obtain ⟨hkey, hval⟩ : es[i].key = k /\ es[i].val = v := by
  rw [<- hpr] at hx
  simpa [hlt'] using hx
 dsimp only
 rw [if_neg (show ¬ ((i : Int) < 0) by lia), Int.toNat_natCast, Array.getElem?_eq_getElem hlt']
 refine wpAny_bind ?_
 first | refine wpAny_bind (wpAny_typeNameOfWhole_itemiter hT (wpAny_pure ?_)) | refine wpAny_bind (wpAny_typeNameOf_itemiter hT (wpAny_pure ?_))
 refine wpAny_bind (wpAny_isOneOf_itemiter hT ?_)
 show wpAny _ _ (setField (.ref it) 3 (rawInt ((i : Int) + 1)) >>= _) _ _ ⟨hp, g, dr, tk, os⟩
 refine wpAny_bind (wpAny_setField_rec hit (by simp) fun h₁ he₁ hs₁ => ?_)
 replace hs₁ : Heap.SameBut it hp h₁ := hs₁
 replace he₁ : PairIt h₁ it d (i + 1) kvs.length ep x0 ok ov f := by
  have e : ((i + 1 : Nat) : Int) = (i : Int) + 1 := by lia
  unfold PairIt; rw [e]; simpa [rawInt] using he₁
 have hT₁ : Shared.TypeIs ⟨h₁, g, dr, tk, os⟩ (.ref it) "dict_itemiterator" := ⟨_, he₁, rfl⟩
 refine wpAny_bind (wpAny_holding (wpAny_bind (wpAny_isOneOf_itemiter hT₁ (wpAny_bind (wpAny_isOneOf_itemiter hT₁ ?_)))))
 show wpAny _ _ (Builtin.Dict_items.pairFromOwner (.ref it) 6 es[i].key es[i].val) _ _ ⟨h₁, g, dr, tk, os⟩
 rw [hkey, hval]
 refine pair_owner he₁ (hx0.imp_right fun q => x2_3 q fun a oa e ha hai => ⟨a, oa, e, hs₁.extBut a oa hai ha, hai⟩) fun h₃ x0' ok' ov' f' he₃ hk₃ ht hz hk => ?_
 rw [hs₁.1] at ht hz ⊢
 exact wpAny_pure ⟨_, rfl, wpAny_pure (hQ h₃ x0' ok' ov' f' he₃ hk₃ ht hz fun b o hb e => hk b o hb (hs₁.extBut b o hb e))⟩
theorem next_none {it d : Addr} {i ep : Nat} {kvs : List (Value × Value)} {x0 ok ov : Value} {f : Bool} {Q : Option Value -> Shared -> Prop} (hh : A.handled = none) (hit : PairIt s.heap it d i kvs.length ep x0 ok ov f)
  (hm : RawAt s.heap d kvs ep) (hx : kvs.length <= i)
  (hQ : ∀ h', Heap.ExtBut it s.heap h' -> Q none { s with heap := h' }) : wpAny (model prog w) A (pyNext (.ref it)) Q E s := by
 obtain ⟨od, es, hod, hcd, hdd, hpr⟩ := id hm
 have hT : s.TypeIs (.ref it) "dict_itemiterator" := ⟨_, hit, rfl⟩
 unfold pyNext
 refine wpAny_bind (wpAny_attempt (wpAny_callSpecial?_slot (name := Str.ofString "__next__") hT PySem.F.slot_dict_itemiterator_next
  (wpAny_call_entry PySem.F.slot_dict_itemiterator_next hT PySem.F.entry_dict_itemiterator_next ?_ (PySem.F.args_dict_itemiterator_next_1 _))))
 refine wpAny_bind (wpAny_pure (wpAny_bind (wpAny_bind ?_)))
 first | refine wpAny_bind (wpAny_typeNameOfWhole_itemiter hT (wpAny_pure ?_)) | refine wpAny_bind (wpAny_typeNameOf_itemiter hT (wpAny_pure ?_))
 refine wpAny_bind (wpAny_fieldsOf hit rfl ?_)
 have hown : Builtin.Dict_items.ownsTuple "dict_itemiterator" = true := by decide
 rw [if_pos hown]
 show wpAny _ _ (if (Value.ref d == Value.none) = true then _ else _) _ _ s
 refine wp_neg (show ¬ ((Value.ref d == Value.none) = true) from Bool.false_ne_true) ?_
 refine wpAny_bind (wpAny_pure (wpAny_bind (wpAny_dictEntries hod hdd ?_)))
 have hsz : es.size = kvs.length := by rw [<- hpr]; simp
 refine wp_neg (by rw [hsz]; simp) ?_
 refine wpAny_bind (wpAny_pure (wpAny_bind (wpAny_dictEpoch hod hdd ?_)))
 refine wp_neg (by simp) ?_
 refine wpAny_pure ?_
 have hge : es.size <= i := by rw [hsz]; exact hx
 dsimp only
 rw [if_neg (show ¬ ((i : Int) < 0) by lia), Int.toNat_natCast, Array.getElem?_eq_none hge]
 refine wpAny_bind ?_
 first | refine wpAny_bind (wpAny_typeNameOfWhole_itemiter hT (wpAny_pure ?_)) | refine wpAny_bind (wpAny_typeNameOf_itemiter hT (wpAny_pure ?_))
 show wpAny _ _ (setField (.ref it) 2 .none >>= _) _ _ s
 refine wpAny_bind (wpAny_setField hit rfl (by simp) ?_)
 show wpAny _ _ (newExc (.type "StopIteration") [] >>= _) _ _ _
 refine wpAny_bind ?_
 unfold newExc newTuple
 refine wpAny_bind (wpAny_newObj_type ?_ (by size_fits))
 refine wpAny_bind (m := firstArgMember _ _) (wpAny_of_eq (a := Value.none) (by first | rfl | (simp only [firstArgMember]; rfl)) ?_)
 refine wpAny_newObj_type ?_ (by size_fits)
 unfold raiseNew
 refine wpAny_bind (wpAny_handled ?_)
 rw [show A.in1.handled = none from hh]
 refine wpAny_bind (wpAny_pure (wpAny_throw ?_))
 refine wpAny_bind (wpAny_isInstance (T := "StopIteration") (b := true) ⟨_, Heap.get?_push_size _ rfl, rfl⟩ isSubtype_stop ?_)
 exact wpAny_pure (hQ _ (((Heap.SameBut.update ..).extBut.push _).push _))
end
end
section
theorem RawAt.push {h : Heap} {d : Addr} {kvs : List (Value × Value)} {ep : Nat} (x : RawAt h d kvs ep) (o : Obj) : RawAt (h.push o) d kvs ep := x.at fun Z e => Heap.get?_push_of_some _ e
theorem RawAt.lt {h : Heap} {d : Addr} {kvs : List (Value × Value)} {ep : Nat} (x : RawAt h d kvs ep) : d < h.objs.size := let ⟨_, _, ho, _⟩ := x; Heap.lt_size ho
theorem KeptPair.keep {h h' : Heap} {it : Addr} {x0 : Value} (x : KeptPair h it x0) (k : ∀ a o, h.get? a = some o -> ∃ o', h'.get? a = some o') : KeptPair h' it x0 := by
 rcases x with e | ⟨a, oa, e, ha, hne⟩
 ·exact .inl e
 ·refine x1_1 (k a oa ha) fun o' ho' => ?_
  exact .inr ⟨a, o', e, ho', hne⟩
structure Gath (kvs : List (Value × Value)) (lo : Addr) (h : Heap) (as : List Addr) : Prop where
 above : ∀ a ∈ as, lo < a
 pairs : ∀ (j : Nat) (a : Addr), as[j]? = some a -> ∃ k x, kvs[j]? = some (k, x) /\ h.get? a = some { cls := .type "tuple", data := .seq #[k, x] }
theorem Gath.low {kvs : List (Value × Value)} {lo lo' : Addr} {h : Heap} {as : List Addr} (g : Gath kvs lo h as) (hl : lo' <= lo) : Gath kvs lo' h as := ⟨fun a ha => Nat.lt_of_le_of_lt hl (g.above a ha), g.pairs⟩
section
variable {prog : Program} {w : World} {A : Around} {s : Shared} {R : Result -> Shared -> Prop} {kvs : List (Value × Value)} {ep : Nat}
theorem pairs_loop {S I d : Addr} (hh : A.handled = none) (hSI : S < I) (hSd : d ≠ S) (hId : d ≠ I) (hn : kvs.length <= sizeLine) (res : Value) {h₁ : Heap}
  (hR : ∀ h' tk acc c as, (∀ b o, b ≠ S -> b ≠ I -> h₁.get? b = some o -> h'.get? b = some o) -> h'.get? S = some { cls := .type "list", dict := none, data := .seq acc c, slots := #[] } -> as.length = kvs.length -> Gath kvs I h' as ->
   acc.toList = as.map Value.ref -> R (.ok (.ret res)) { s with heap := h', toks := tk }) :
  ∀ (k i : Nat) (h : Heap) (tk c : Nat) (acc : Array Value) (as : List Addr), kvs.length - i = k -> i <= kvs.length -> (∃ x0 ok ov f, PairIt h I d i kvs.length ep x0 ok ov f /\ KeptPair h I x0) -> RawAt h d kvs ep -> (∀ b o, b ≠ S -> b ≠ I -> h₁.get? b = some o -> h.get? b = some o) ->
   h.get? S = some { cls := .type "list", dict := none, data := .seq acc c, slots := #[] } -> acc.toList = as.map Value.ref -> as.length = i -> Gath kvs I h as -> I < h.objs.size ->
   codeAny (model prog w) A (.builtin "list.extend.loop" ⟨[.ref S, .ref I, res], []⟩) R { s with heap := h, toks := tk } := by
 have hne : S ≠ I := Nat.ne_of_lt hSI
 intro k
 induction k with
 | zero =>
  intro i h tk c acc as hk hi hst hD hkeep hS hacc hal hG hIs
  refine x4_2 hst fun x0 ok ov f hit hx0 => ?_; clear hst
  refine codeAny_builtin PySem.F.entry_extend_loop ?_
  rw [Around.under_plainId PySem.F.plain_extend_loop _]
  show wpAny _ A.in1 (pyNext (.ref I) >>= _) _ _ _
  refine wpAny_bind (next_none (s := { s with heap := h, toks := tk }) (A := A.in1) hh hit hD (by lia) fun h' he => ?_)
  refine wpAny_pure (hR h' tk acc c as (fun b o h1 h2 e => he b o h2 (hkeep b o h1 h2 e)) (he S _ hne hS) (by lia) ⟨hG.above, fun j a hj => ?_⟩ hacc)
  refine x2_2 (hG.pairs j a hj) fun kk x e1 e3 => ?_
  exact ⟨kk, x, e1, he a _ (Nat.ne_of_gt (hG.above a (List.mem_of_getElem? hj))) e3⟩
 | succ k ih =>
  intro i h tk c acc as hk hi hst hD hkeep hS hacc hal hG hIs
  refine x4_2 hst fun x0 ok ov f hit hx0 => ?_; clear hst
  have hlt : i < kvs.length := by lia
  obtain ⟨⟨kk, x⟩, hx⟩ : ∃ p, kvs[i]? = some p := ⟨kvs[i], List.getElem?_eq_getElem hlt⟩
  have hsz : acc.size = i := by rw [<- Array.length_toList, hacc, List.length_map, hal]
  refine codeAny_builtin PySem.F.entry_extend_loop ?_
  rw [Around.under_plainId PySem.F.plain_extend_loop _]
  show wpAny _ A.in1 (pyNext (.ref I) >>= _) _ _ _
  refine wpAny_bind (next_pair (s := { s with heap := h, toks := tk }) hit hx0 hD hx fun h' x0' ok' ov' f' hit' hx0' ht hz hkp => ?_)
  dsimp only at ht hz hkp ⊢
  have hS' := hkp S _ hne hS
  have hSl : S < h.objs.size := Heap.lt_size hS
  let h2 := h'.update S (Obj.mapSeq (·.push (Value.ref h.objs.size)))
  have up : ∀ b o, b ≠ S -> h'.get? b = some o -> h2.get? b = some o := fun b o hb e => (Heap.get?_update_other _ _ (Ne.symm hb)).trans e
  have hS2 : h2.get? S = some { cls := .type "list", dict := none, data := .seq (acc.push (Value.ref h.objs.size)) _, slots := #[] } := Heap.get?_update_self _ hS' rfl
  show wpAny _ A.in1 (updateSeq S (·.push (Value.ref h.objs.size)) >>= _) _ _ _
  refine wpAny_bind ?_
  refine wpAny_updateSeq hS' rfl (wpAny_pure ⟨plainId_quiet PySem.F.plain_extend_loop _, ih (i + 1) h2 tk _ (acc.push (Value.ref h.objs.size)) (as ++ [h.objs.size]) (by lia) hlt ⟨x0', ok', ov', f', up _ _ (Ne.symm hne) hit', hx0'.keep fun a o e => ?_⟩ (hD.at fun o e => up d o hSd (hkp d o hId e))
   (fun b o h1 h2 e => up b o h1 (hkp b o h2 (hkeep b o h1 h2 e))) hS2 (by rw [Array.toList_push, hacc, List.map_append]; rfl) (by rw [List.length_append, hal]; rfl) ⟨?_, ?_⟩ ?_⟩) (by rw [hsz]; lia) (by show (acc.push (Value.ref h.objs.size)).size <= sizeLine + 1; rw [Array.size_push, hsz]; lia)
  ·by_cases hb : a = S
   ·rw [hb]; exact ⟨_, hS2⟩
   ·exact ⟨o, up a o hb e⟩
  ·intro a ha
   rcases List.mem_append.mp ha with ha | ha
   ·exact hG.above a ha
   ·rw [List.mem_singleton.mp ha]; exact hIs
  ·intro j b hj
   rcases Nat.lt_trichotomy j as.length with h1 | h1 | h1
   ·rw [List.getElem?_append_left h1] at hj
    refine x2_2 (hG.pairs j b hj) fun k' x' e1 e3 => ?_
    have hb := hG.above b (List.mem_of_getElem? hj)
    exact ⟨k', x', e1, up b _ (Nat.ne_of_gt (Nat.lt_trans hSI hb)) (hkp b _ (Nat.ne_of_gt hb) e3)⟩
   ·subst h1
    have hb : h.objs.size = b := by simpa using hj
    subst hb
    exact ⟨kk, x, by rw [hal]; exact hx, up _ _ (Nat.ne_of_gt hSl) ht⟩
   ·have hnone : (as ++ [h.objs.size])[j]? = none := List.getElem?_eq_none (by rw [List.length_append, List.length_singleton]; lia)
    rw [hnone] at hj; cases hj
  ·have e : h2.get? h.objs.size = _ := up _ _ (Nat.ne_of_gt hSl) ht
   exact Nat.lt_trans hIs (Heap.lt_size e)
end
section
variable {prog : Program} {w : World} {A : Around} {E : Value -> Shared -> Prop} {s : Shared} {r d : Addr} {kvs : List (Value × Value)} {ep : Nat}
theorem iter_pairs {Q : Value -> Shared -> Prop} (hv : s.heap.IsItemsView r d) (hm : RawAt s.heap d kvs ep)
  (hQ : Q (.ref s.heap.objs.size) { s with heap := s.heap.push { cls := .type "dict_itemiterator", data := .fields #[.none, .bool false, .ref d, .int 0 0, .int kvs.length 0, .int ep 0, .none, .none] } }) :
  wpAny (model prog w) A (pyIter (.ref r)) Q E s := by
 refine x1_3 (id hv) fun ov hov hcv hdv => ?_
 refine x2_4 (id hm) fun o es ho hc hdat hp => ?_
 refine wpAny_pyIter_slot hv.typeIs PySem.F.slot_dict_items_iter (wpAny_call_entry PySem.F.slot_dict_items_iter hv.typeIs PySem.F.entry_dict_items_iter ?_ (PySem.F.args_dict_items_iter_1 _))
 unfold Builtin.«dict_items.__iter__»
 refine wpAny_bind (wpAny_pure (wpAny_bind ?_))
 unfold Builtin.Dict_items.dictOf
 refine wpAny_bind (wpAny_field hov hdv (x := .ref d) rfl (wpAny_pure (wpAny_bind ?_)))
 unfold Builtin.Dict_items.newIterator
 refine wpAny_bind (wpAny_dictEntries ho hdat (wpAny_bind (wpAny_dictEpoch ho hdat ?_)))
 have hsz : es.size = kvs.length := by rw [<- hp]; simp
 have hown : Builtin.Dict_items.ownsTuple "dict_itemiterator" = true := by decide
 simp only [hown, if_true]
 refine wpAny_newObj_type (wpAny_pure ⟨_, rfl, "dict_itemiterator", _, ⟨_, Heap.get?_push_size _ rfl, rfl⟩, PySem.F.slot_dict_itemiterator_next.lookup, ?_⟩)
  (by simp only [sizeOk, Builtin.Dict_items.ownedTupleFields, List.size_toArray, List.length_append, List.length_cons, List.length_nil, sizeLine_eq]; lia)
 simpa [rawInt, hsz, Builtin.Dict_items.ownedTupleFields] using hQ
theorem pairs_extend {R : Result -> Shared -> Prop} (hh : A.handled = none) (hv : s.heap.IsItemsView r d) (hm : RawAt s.heap d kvs ep) (S : Addr) (hSr : S ≠ r) (hSd : d ≠ S) (res : Value) (c₀ : Nat) (hS : s.heap.get? S = some { cls := .type "list", data := .seq #[] c₀ })
  (hR : ∀ h' tk acc c as, (∀ b o, b ≠ S -> s.heap.get? b = some o -> h'.get? b = some o) -> h'.get? S = some { cls := .type "list", dict := none, data := .seq acc c, slots := #[] } -> as.length = kvs.length -> Gath kvs s.heap.objs.size h' as ->
   acc.toList = as.map Value.ref -> R (.ok (.ret res)) { s with heap := h', toks := tk }) (hn : kvs.length <= sizeLine) :
  wpAny (model prog w) A.in1 (Builtin.List.listExtendWith (.ref S) (.ref r) res)
   (fun fin s' => match fin with | .done f => R (.ok f) s' | .again c' => c'.quiet = true /\ codeAny (model prog w) A c' R s') (fun e s' => R (.error e) s') s := by
 have hSI : S < s.heap.objs.size := Heap.lt_size hS
 have hdI : d < s.heap.objs.size := hm.lt
 let io : Obj := { cls := .type "dict_itemiterator", data := .fields #[.none, .bool false, .ref d, .int 0 0, .int kvs.length 0, .int ep 0, .none, .none] }
 have key : ∀ (h : Heap) (c₁ tk : Nat), (∀ b o, b ≠ S -> (s.heap.push io).get? b = some o -> h.get? b = some o) ->
   h.get? S = some { cls := .type "list", data := .seq #[] c₁ } -> codeAny (model prog w) A (.builtin "list.extend.loop" ⟨[.ref S, .ref s.heap.objs.size, res], []⟩) R { s with heap := h, toks := tk } := by
  intro h c₁ tk hk hS₁
  have hI := hk s.heap.objs.size _ (Nat.ne_of_gt hSI) (Heap.get?_push_size _ rfl)
  refine pairs_loop (kvs := kvs) (ep := ep) (s := s) (h₁ := s.heap) hh hSI hSd (Nat.ne_of_lt hdI) hn res (fun h' tk' acc c as hk' hS' hl hG hacc => hR h' tk' acc c as (fun b o hb e => hk' b o hb (Nat.ne_of_lt (Heap.lt_size e)) e) hS' hl hG hacc)
   kvs.length 0 h tk c₁ #[] [] (Nat.sub_zero _) (Nat.zero_le _) ⟨_, _, _, _, hI, .inl rfl⟩ (hm.at fun o e => hk d o hSd (Heap.get?_push_of_some _ e)) (fun b o hb Z e => hk b o hb (Heap.get?_push_of_some _ e)) hS₁ rfl rfl
   ⟨(fun Z ha => nomatch ha), (fun j a hj => by simp at hj)⟩ (Heap.lt_size hI)
 unfold Builtin.List.listExtendWith
 refine wpAny_bind (wpAny_typeOf (T := "dict_items") hv.typeIs ?_)
 have h1 : Builtin.List.listSameRef (.ref S) (.ref r) = false := by simp [Builtin.List.listSameRef, hSr]
 have h2 : (Value.type "dict_items" == Value.type "list") = false := by decide
 have h3 : (Value.type "dict_items" == Value.type "tuple") = false := by decide
 simp only [h1, h2, h3, Bool.or_false, Bool.false_eq_true, if_false]
 refine wpAny_bind (iter_pairs hv hm ?_)
 have hS₁ := Heap.get?_push_of_some io hS
 refine wpAny_bind (wpAny_holding (kdx_hint (let ⟨o, ho, hc, _⟩ := hv; ⟨o, Heap.get?_push_of_some _ ho, hc⟩) ?_))
 refine wpAny_ite_split (fun Z => ?_) (fun Z => wpAny_pure ⟨plainId_quiet PySem.F.plain_extend_loop _, key _ c₀ _ (fun b o Z e => e) hS₁⟩)
 refine wpAny_bind (wpAny_rule ?_)
 refine wpAny_bind ?_
 show wpAny _ _ (updateSeq S (·.push .none) >>= fun Z => updateSeq S (·.pop)) _ _ _
 refine wpAny_bind (wpAny_updateSeq hS₁ rfl ?_)
 have hS₂ := Heap.get?_update_self (Obj.mapSeq (·.push Value.none)) hS₁ rfl
 refine wpAny_updateSeq (hz := by seq_fits) hS₂ rfl ?_
 have hS₃ := Heap.get?_update_self (Obj.mapSeq (·.pop)) hS₂ rfl
 refine wpAny_pure ⟨plainId_quiet PySem.F.plain_extend_loop _, key _ _ _ (fun b o hb e => ?_) hS₃⟩
 exact (Heap.get?_update_other _ _ (Ne.symm hb)).trans ((Heap.get?_update_other _ _ (Ne.symm hb)).trans e)
theorem pairs_collect {R : List Value -> Shared -> Prop} (hh : A.handled = none) (hv : s.heap.IsItemsView r d) (hm : RawAt s.heap d kvs ep) (hn : kvs.length <= sizeLine)
  (h : ∀ (h' : Heap) (tk : Nat) (as : List Addr), (∀ b o, s.heap.get? b = some o -> h'.get? b = some o) -> as.length = kvs.length -> Gath kvs s.heap.objs.size h' as -> R (as.map Value.ref) { s with heap := h', toks := tk }) :
  wpAny (model prog w) A (collect (.ref r)) R E s := by
 have hr : r < s.heap.objs.size := let ⟨_, ho, _⟩ := hv; Heap.lt_size ho
 have hd : d < s.heap.objs.size := hm.lt
 unfold collect
 refine wpAny_bind (wpAny_runValue (codeAny_builtin entry_proto_collect' ?_))
 rw [Around.under_plainId PySem.F.plain_proto_collect _]
 show wpAny _ A.in1 (newList [] >>= fun l => again (.builtin "list.__iadd__" ⟨[l, .ref r], []⟩)) _ _ s
 refine wpAny_bind (wpAny_newObj_type ?_)
 refine wpAny_pure ⟨plainId_quiet PySem.F.plain_list_iadd _, codeAny_builtin entry_list_iadd' ?_⟩
 rw [Around.under_plainId PySem.F.plain_list_iadd _]
 let lo : Obj := { cls := .type "list", data := .seq ([] : List Value).toArray }
 have hS₁ : (s.heap.push lo).get? s.heap.objs.size = some { cls := .type "list", data := .seq #[] } := Heap.get?_push_size _ rfl
 show wpAny _ A.in1 (Builtin.List.listExtendWith (.ref s.heap.objs.size) (.ref r) (.ref s.heap.objs.size)) _ _ _
 have key := pairs_extend (prog := prog) (w := w) (A := A) (s := { s with heap := s.heap.push lo }) (kvs := kvs) (ep := ep)
  (R := fun (q : Result) (s' : Shared) => ∃ (h' : Heap) (tk : Nat) (acc' : Array Value) (c' : Nat) (as : List Addr), q = .ok (.ret (.ref s.heap.objs.size)) /\ s' = { s with heap := h', toks := tk } /\
   (∀ b o, s.heap.get? b = some o -> h'.get? b = some o) /\ h'.get? s.heap.objs.size = some { cls := .type "list", dict := none, data := .seq acc' c', slots := #[] } /\ as.length = kvs.length /\ Gath kvs s.heap.objs.size h' as /\ acc'.toList = as.map Value.ref)
  hh (let ⟨o, ho, x⟩ := hv; ⟨o, Heap.get?_push_of_some _ ho, x⟩) (hm.push _) s.heap.objs.size (Nat.ne_of_gt hr) (Nat.ne_of_lt hd) (.ref s.heap.objs.size) 0 hS₁
  (fun h' tk acc' c' as hk hS' hl hG hacc => ⟨h', tk, acc', c', as, rfl, rfl, fun b o e => hk b o (Nat.ne_of_lt (Heap.lt_size e)) (Heap.get?_push_of_some _ e), hS', hl, hG.low (by show s.heap.objs.size <= (s.heap.push _).objs.size; rw [Heap.size_push]; exact Nat.le_succ _), hacc⟩) hn
 refine wpAny_mono key (fun fin s' x => ?_) fun e s' x => ?_
 ·cases fin with
  | done f =>
   obtain ⟨h', tk, acc', c', as, e, rfl, hk, hS', hl, hG, hacc⟩ := x
   cases e
   show wpAny _ A (load s.heap.objs.size >>= _) _ _ _
   refine wpAny_bind (wpAny_load hS' (wpAny_pure ?_))
   show R acc'.toList _
   rw [hacc]
   exact h h' tk as hk hl hG
  | again c₁ =>
   refine ⟨x.1, codeAny_mono x.2 fun q s₂ y => ?_⟩
   obtain ⟨h', tk, acc', c', as, rfl, rfl, hk, hS', hl, hG, hacc⟩ := y
   show wpAny _ A (load s.heap.objs.size >>= _) _ _ _
   refine wpAny_bind (wpAny_load hS' (wpAny_pure ?_))
   show R acc'.toList _
   rw [hacc]
   exact h h' tk as hk hl hG
 ·refine x5_2 x fun Z Z Z Z Z e' Z => ?_; clear x
  cases e'
end
end
section
inductive Gets (n : Nat) (c : Nat -> Nat -> Bool) {α : Type} : KasT α -> α -> Prop
 | ret {a : α} : Gets n c (.ret a) a
 | ask {i j : Nat} {k : Bool -> KasT α} {a : α} : i < n -> j < n -> i ≠ j -> Gets n c (k (c i j)) a -> Gets n c (.ask i j k) a
theorem Gets.bind {n : Nat} {c : Nat -> Nat -> Bool} {α β : Type} {t : KasT α} {f : α -> KasT β} {a : α} {b : β} (h : Gets n c t a) (hf : Gets n c (f a) b) : Gets n c (t.bind f) b := by
 induction h with
 | ret => exact hf
 | ask h1 h2 h3 _ ih => exact .ask h1 h2 h3 (ih hf)
theorem Gets.wp {n : Nat} {c : Nat -> Nat -> Bool} {α : Type} {t : KasT α} {a : α} (h : Gets n c t a) {cmp : Nat -> Nat -> (Bool -> Shared -> Prop) -> Shared -> Prop} {I : Shared -> Prop} {Q : α -> Shared -> Prop}
  (hc : ∀ i j s C, i < n -> j < n -> i ≠ j -> I s -> (∀ s', I s' -> C (c i j) s') -> cmp i j C s) (hq : ∀ s', I s' -> Q a s') : ∀ s, I s -> t.kasWp cmp Q s := by
 induction h with
 | ret => exact hq
 | @ask i j k a h1 h2 h3 _ ih => exact fun s hs => hc i j s _ h1 h2 h3 hs fun s' hs' => ih hq s' hs'
section
variable {n : Nat} {r : Nat -> Int} (hr : ∀ i j, i < n -> j < n -> r i = r j -> i = j)
noncomputable abbrev rc (r : Nat -> Int) : Nat -> Nat -> Bool := fun i j => decide (r i < r j)
noncomputable def kk (r : Nat -> Int) (p : Array Nat) (i : Nat) : Int := r (p.getD i 0)
theorem kk_congr {p q : Array Nat} {i j : Nat} (h : p[i]? = q[j]?) : kk r p i = kk r q j := by
 unfold kk; rw [Array.getD_eq_getD_getElem?, Array.getD_eq_getD_getElem?, h]
structure Pm (n : Nat) (p : Array Nat) : Prop where
 perm : p.Perm (List.range n).toArray
theorem Pm.size {p : Array Nat} (h : Pm n p) : p.size = n := by have := h.perm.size_eq; simpa using this
theorem Pm.lt {p : Array Nat} (h : Pm n p) {i : Nat} (hi : i < n) : p.getD i 0 < n := by
 have hs := h.size
 have hi' : i < p.size := hs.symm ▸ hi
 have e : p.getD i 0 = p[i] := dif_pos hi'
 have hm : p[i] ∈ p := Array.getElem_mem hi'
 have := h.perm.mem_iff.mp hm
 rw [e]
 simpa using this
theorem Pm.inj {p : Array Nat} (h : Pm n p) {i j : Nat} (hi : i < n) (hj : j < n) (e : p.getD i 0 = p.getD j 0) : i = j := by
 have hs := h.size
 have hi' : i < p.size := hs.symm ▸ hi
 have hj' : j < p.size := hs.symm ▸ hj
 have e1 : p.getD i 0 = p[i] := dif_pos hi'
 have e2 : p.getD j 0 = p[j] := dif_pos hj'
 have hnd : p.toList.Nodup := (Array.perm_iff_toList_perm.mp h.perm).nodup_iff.mpr (by simpa using List.nodup_range)
 have q : p.toList[i]'(by simpa using hi') = p.toList[j]'(by simpa using hj') := by simpa using (e1.symm.trans (e.trans e2))
 exact (List.getElem_inj hnd).mp q
include hr in
theorem Pm.ne {p : Array Nat} (h : Pm n p) {i j : Nat} (hi : i < n) (hj : j < n) (hne : i ≠ j) : kk r p i ≠ kk r p j := fun e => hne (h.inj hi hj (hr _ _ (h.lt hi) (h.lt hj) e))
noncomputable def Up (r : Nat -> Int) (p : Array Nat) (m : Nat) : Prop := ∀ i j, i < j -> j < m -> kk r p i < kk r p j
noncomputable def Dn (r : Nat -> Int) (p : Array Nat) (m : Nat) : Prop := ∀ i j, i < j -> j < m -> kk r p j < kk r p i
theorem Pm.rev {p : Array Nat} (h : Pm n p) (i j : Nat) : Pm n (kas_rev p i j) := ⟨(mirror_perm _ _ _ _).trans h.perm⟩
theorem kk_rev {p : Array Nat} {i j k : Nat} (hj : j <= p.size) : kk r (kas_rev p i j) k = if i <= k /\ k < j then kk r p (i + j - 1 - k) else kk r p k := by
 have e := getElem?_mirror_all (i := i) hj k
 split
 ·rename_i h1; rw [if_pos h1] at e; exact kk_congr e
 ·rename_i h1; rw [if_neg h1] at e; exact kk_congr e
include hr in
theorem Pm.lo {p : Array Nat} (h : Pm n p) {i j : Nat} (hi : i < n) (hj : j < n) (hne : i ≠ j) (hl : ¬ kk r p i < kk r p j) : kk r p j < kk r p i :=
 Int.lt_iff_le_and_ne.mpr ⟨Int.not_lt.mp hl, h.ne hr hj hi hne.symm⟩
theorem Gets.tt {p : Array Nat} (hp : Pm n p) {i j : Nat} (hi : i < n) (hj : j < n) (hne : i ≠ j) {α : Type} {k : Bool -> KasT α} {a : α} (h : kk r p i < kk r p j) (g : Gets n (rc r) (k true) a) : Gets n (rc r) (.ask (p.getD i 0) (p.getD j 0) k) a :=
 .ask (hp.lt hi) (hp.lt hj) (fun e => hne (hp.inj hi hj e)) (by rw [show rc r (p.getD i 0) (p.getD j 0) = true from decide_eq_true h]; exact g)
theorem Gets.ff {p : Array Nat} (hp : Pm n p) {i j : Nat} (hi : i < n) (hj : j < n) (hne : i ≠ j) {α : Type} {k : Bool -> KasT α} {a : α} (h : ¬ kk r p i < kk r p j) (g : Gets n (rc r) (k false) a) : Gets n (rc r) (.ask (p.getD i 0) (p.getD j 0) k) a :=
 .ask (hp.lt hi) (hp.lt hj) (fun e => hne (hp.inj hi hj e)) (by rw [show rc r (p.getD i 0) (p.getD j 0) = false from decide_eq_false h]; exact g)
theorem step {R : Nat -> Nat -> Prop} (tr : ∀ {a b c}, R a b -> R b c -> R a c) {m : Nat} (h : ∀ i j, i < j -> j < m + 1 -> R i j) (h1 : R m (m + 1)) : ∀ i j, i < j -> j < m + 2 -> R i j :=
 fun i j hij hj => (Nat.lt_or_eq_of_le (Nat.le_of_lt_succ hj)).elim (h i j hij) fun e => by
  subst e
  exact (Nat.lt_or_eq_of_le (Nat.le_of_lt_succ hij)).elim (fun hi => tr (h i m hi (Nat.lt_succ_self m)) h1) fun e => e ▸ h1
theorem none1 {R : Nat -> Nat -> Prop} : ∀ i j, i < j -> j < 1 -> R i j := fun i Z h h' => absurd (Nat.lt_of_lt_of_le h (Nat.le_of_lt_succ h')) (Nat.not_lt_zero i)
inductive AscR (n : Nat) (r : Nat -> Int) (p : Array Nat) (t : KasT Nat) : Prop
 | mk (m : Nat) : Gets n (rc r) t (m + 1) -> m < n -> Up r p (m + 1) -> (m + 1 = n \/ kk r p (m + 1) < kk r p m) -> AscR n r p t
include hr in
theorem asc_gets {p : Array Nat} (hp : Pm n p) : ∀ f m, m + 1 + f = n -> Up r p (m + 1) -> AscR n r p (kas_asc p f (m + 1))
 | 0, m, hf, hu => ⟨m, .ret, Nat.le_of_eq hf, hu, .inl hf⟩
 | f + 1, m, hf, hu => by
  have h1 : m + 1 < n := Nat.lt_of_lt_of_le (Nat.lt_add_of_pos_right (Nat.succ_pos f)) (Nat.le_of_eq hf)
  have h0 := Nat.lt_of_succ_lt h1
  by_cases h : kk r p (m + 1) < kk r p m
  ·exact ⟨m, .tt hp h1 h0 (Nat.succ_ne_self m) h .ret, h0, hu, .inr h⟩
  ·obtain ⟨m', g, a, a2, a3⟩ := asc_gets hp f (m + 1) ((Nat.succ_add_eq_add_succ (m + 1) f).trans hf) (step (R := fun a b => kk r p a < kk r p b) Int.lt_trans hu (hp.lo hr h1 h0 (Nat.succ_ne_self m) h))
   exact ⟨m', .ff hp h1 h0 (Nat.succ_ne_self m) h g, a, a2, a3⟩
inductive DescR (n : Nat) (r : Nat -> Int) (p : Array Nat) (t : KasT (Array Nat × Nat × Nat)) : Prop
 | mk (m : Nat) : Gets n (rc r) t (p, m + 1, 0) -> m < n -> Dn r p (m + 1) -> DescR n r p t
include hr in
theorem desc_gets {p : Array Nat} (hp : Pm n p) : ∀ f m, m + 1 + f = n -> Dn r p (m + 1) -> DescR n r p (kas_desc f p (m + 1) 0)
 | 0, m, hf, hu => ⟨m, .ret, Nat.le_of_eq hf, hu⟩
 | f + 1, m, hf, hu => by
  have h1 : m + 1 < n := Nat.lt_of_lt_of_le (Nat.lt_add_of_pos_right (Nat.succ_pos f)) (Nat.le_of_eq hf)
  have h0 := Nat.lt_of_succ_lt h1
  by_cases h : kk r p (m + 1) < kk r p m
  ·obtain ⟨m', g, a, a2⟩ := desc_gets hp f (m + 1) ((Nat.succ_add_eq_add_succ (m + 1) f).trans hf) (step (R := fun a b => kk r p b < kk r p a) (fun a b => Int.lt_trans b a) hu h)
   exact ⟨m', .tt hp h1 h0 (Nat.succ_ne_self m) h g, a, a2⟩
  ·exact ⟨m, .ff hp h1 h0 (Nat.succ_ne_self m) h (.tt hp h0 h1 (Nat.succ_ne_self m).symm (hp.lo hr h1 h0 (Nat.succ_ne_self m) h) .ret), h0, hu⟩
theorem kk_rev0 {p : Array Nat} {m k : Nat} (hm : m < p.size) (hk : k <= m) : kk r (kas_rev p 0 (m + 1)) k = kk r p (m - k) := by
 rw [kk_rev hm, if_pos ⟨Nat.zero_le _, Nat.lt_succ_of_le hk⟩, Nat.zero_add]; rfl
inductive CntR (n : Nat) (r : Nat -> Int) (t : KasT (Nat × Array Nat)) : Prop
 | mk (m : Nat) (p : Array Nat) : Gets n (rc r) t (m + 1, p) -> m < n -> Up r p (m + 1) -> Pm n p -> CntR n r t
include hr in
theorem tail3_gets {p : Array Nat} (hp : Pm n p) {m : Nat} (hm : m < n) (hd : Dn r p (m + 1)) : CntR n r (kas_tail3 (m + 1) n p) := by
 have hu : Up r (kas_rev p 0 (m + 1)) (m + 1) := by
  intro i j hij hj
  have hj := Nat.le_of_lt_succ hj
  have hi := Nat.lt_of_lt_of_le hij hj
  have hs := hp.size.symm ▸ hm
  rw [kk_rev0 hs (Nat.le_of_lt hi), kk_rev0 hs hj]
  exact hd _ _ (Nat.sub_lt_sub_left hi hij) (Nat.lt_succ_of_le (Nat.sub_le _ _))
 obtain ⟨m', g, a, a3, _⟩ := asc_gets hr (hp.rev 0 (m + 1)) (n - (m + 1)) m (Nat.add_sub_cancel' hm) hu
 exact ⟨m', _, g.bind .ret, a, a3, hp.rev _ _⟩
include hr in
theorem descPart_gets {p : Array Nat} (hp : Pm n p) (hn : 2 <= n) (hd : Dn r p 2) : CntR n r (kas_descPart 1 n p) := by
 obtain ⟨m, g, a, a3⟩ := desc_gets hr hp (n - 2) 1 (Nat.add_sub_cancel' hn) hd
 obtain ⟨m', p', g', b, b2, b3⟩ := tail3_gets hr hp a a3
 exact ⟨m', p', g.bind (b := (m' + 1, p')) g', b, b2, b3⟩
include hr in
theorem count_gets {p : Array Nat} (hp : Pm n p) (h1 : 1 <= n) : CntR n r (kas_count n p) := by
 obtain ⟨m, g, a, a3, a4⟩ := asc_gets hr hp (n - 1) 0 (Nat.add_sub_cancel' h1) none1
 by_cases hm : m + 1 = n
 ·exact ⟨m, p, g.bind (by rw [if_pos (beq_iff_eq.mpr hm)]; exact .ret), a, a3, hp⟩
 ·have h4 := a4.resolve_left hm
  have hm' : m + 1 < n := Nat.lt_of_le_of_ne a hm
  cases m with
  | zero =>
   obtain ⟨m', p', g', b, b2, b3⟩ := descPart_gets hr hp hm' (step (R := fun a b => kk r p b < kk r p a) (fun a b => Int.lt_trans b a) none1 h4)
   exact ⟨m', p', g.bind (by rw [if_neg (fun e => hm (beq_iff_eq.mp e))]; exact g'), b, b2, b3⟩
  | succ m => exact ⟨m + 1, p, g.bind (by rw [if_neg (fun e => hm (beq_iff_eq.mp e)), if_pos (Nat.succ_lt_succ (Nat.succ_pos m))]; exact .tt hp h1 a (Nat.succ_ne_zero m).symm (a3 0 (m + 1) (Nat.succ_pos m) (Nat.lt_succ_self _)) .ret), a, a3, hp⟩
inductive PlaceR (n : Nat) (r : Nat -> Int) (p : Array Nat) (k : Nat) (t : KasT Nat) : Prop
 | mk (l : Nat) : Gets n (rc r) t l -> l <= k -> (∀ i, i < l -> kk r p i < kk r p k) -> (∀ i, l <= i -> i < k -> kk r p k < kk r p i) -> PlaceR n r p k t
theorem half {l q : Nat} (h : l < q) : l <= (l + q) / 2 /\ (l + q) / 2 < q := by lia
theorem Up.le {p : Array Nat} {m i j : Nat} (hu : Up r p m) (hj : j < m) (hi : i <= j) : kk r p i <= kk r p j :=
 (Nat.lt_or_eq_of_le hi).elim (fun h => Int.le_of_lt (hu _ _ h hj)) fun e => e ▸ Int.le_refl _
include hr in
theorem place_gets {p : Array Nat} (hp : Pm n p) {k : Nat} (hk : k < n) (hu : Up r p k) : ∀ f l q, l <= q -> q <= k -> q <= l + f -> (∀ i, i < l -> kk r p i < kk r p k) -> (∀ i, q <= i -> i < k -> kk r p k < kk r p i) -> PlaceR n r p k (kas_place p k f l q)
 | 0, l, q, h1, h2, h3, hlo, hhi => by
  obtain rfl := Nat.le_antisymm h1 h3
  exact ⟨l, .ret, h2, hlo, hhi⟩
 | f + 1, l, q, h1, h2, h3, hlo, hhi => by
  show PlaceR n r p k (if l ≥ q then .ret l else .ask (p.getD k 0) (p.getD ((l + q) / 2) 0) fun c => if c = true then kas_place p k f l ((l + q) / 2) else kas_place p k f ((l + q) / 2 + 1) q)
  by_cases hge : l ≥ q
  ·obtain rfl := Nat.le_antisymm h1 hge
   rw [if_pos hge]
   exact ⟨l, .ret, h2, hlo, hhi⟩
  ·rw [if_neg hge]
   have hM := half (Nat.lt_of_not_le hge)
   revert hM
   generalize (l + q) / 2 = M
   intro hM
   have hMk := Nat.lt_of_lt_of_le hM.2 h2
   have hMn := Nat.lt_trans hMk hk
   by_cases h : kk r p k < kk r p M
   ·obtain ⟨l', g, a, a2, a3⟩ := place_gets hp hk hu f l M hM.1 (Nat.le_of_lt hMk) (Nat.le_of_lt_succ (Nat.lt_of_lt_of_le hM.2 h3)) hlo fun i hi1 hi2 => Int.lt_of_lt_of_le h (hu.le hi2 hi1)
    exact ⟨l', .tt hp hk hMn (Nat.ne_of_gt hMk) h g, a, a2, a3⟩
   ·obtain ⟨l', g, a, a2, a3⟩ := place_gets hp hk hu f (M + 1) q hM.2 h2 (Nat.le_trans h3 (Nat.le_trans (Nat.le_of_eq (Nat.succ_add_eq_add_succ l f).symm) (Nat.add_le_add_right (Nat.succ_le_succ hM.1) f))) (fun i hi => Int.lt_of_le_of_lt (hu.le hMk (Nat.le_of_lt_succ hi)) (hp.lo hr hk hMn (Nat.ne_of_gt hMk) h)) hhi
    exact ⟨l', .ff hp hk hMn (Nat.ne_of_gt hMk) h g, a, a2, a3⟩
theorem kk_bubble {p : Array Nat} {src l : Nat} (hs : src < p.size) (hl : l <= src) (k : Nat) : kk r (bubble p src (src - l)) k = if k = l then kk r p src else if l < k /\ k <= src then kk r p (k - 1) else kk r p k := by
 have e := getElem?_bubble hs (src - l) (Nat.sub_le _ _) k
 rw [Nat.sub_sub_self hl] at e
 by_cases h1 : k = l
 ·rw [if_pos h1] at e ⊢; exact kk_congr e
 ·rw [if_neg h1] at e ⊢
  by_cases h2 : l < k /\ k <= src
  ·rw [if_pos h2] at e ⊢; exact kk_congr e
  ·rw [if_neg h2] at e ⊢; exact kk_congr e
theorem ins_up {f g : Nat -> Int} {k l : Nat} (hl : l <= k) (hu : ∀ i j, i < j -> j < k -> f i < f j) (lo : ∀ i, i < l -> f i < f k) (hi : ∀ i, l <= i -> i < k -> f k < f i) (g1 : g l = f k) (g2 : ∀ i, i < l -> g i = f i) (g3 : ∀ i, l <= i -> i < k -> g (i + 1) = f i) : ∀ i j, i < j -> j < k + 1 -> g i < g j := by
 intro i j hij hj
 have hj := Nat.le_of_lt_succ hj
 obtain h | rfl | h := Nat.lt_trichotomy j l
 ·rw [g2 _ h, g2 _ (Nat.lt_trans hij h)]; exact hu _ _ hij (Nat.lt_of_lt_of_le h hl)
 ·rw [g1, g2 _ hij]; exact lo _ hij
 ·cases j with
  | zero => exact absurd hij (Nat.not_lt_zero i)
  | succ j =>
   have h := Nat.le_of_lt_succ h
   rw [g3 _ h hj]
   have hij := Nat.le_of_lt_succ hij
   obtain q | rfl | q := Nat.lt_trichotomy i l
   ·rw [g2 _ q]; exact hu _ _ (Nat.lt_of_lt_of_le q h) hj
   ·rw [g1]; exact hi _ h hj
   ·cases i with
    | zero => exact absurd q (Nat.not_lt_zero l)
    | succ i => rw [g3 _ (Nat.le_of_lt_succ q) (Nat.lt_trans hij hj)]; exact hu _ _ hij hj
include hr in
theorem bin_gets : ∀ f (p : Array Nat) k, Pm n p -> k + f = n -> Up r p k -> ∃ p', Gets n (rc r) (kas_bin f p k) p' /\ Up r p' n /\ Pm n p'
 | 0, p, k, hp, hk, hu => ⟨p, .ret, hk ▸ hu, hp⟩
 | f + 1, p, k, hp, hk, hu => by
  have hkn : k < n := Nat.lt_of_lt_of_le (Nat.lt_add_of_pos_right (Nat.succ_pos f)) (Nat.le_of_eq hk)
  obtain ⟨l, g, h1, h2, h3⟩ := place_gets hr hp hkn hu k 0 k (Nat.zero_le _) (Nat.le_refl _) (Nat.le_add_left _ _) (fun i hi => absurd hi (Nat.not_lt_zero i)) (fun i h1 h2 => absurd h1 (Nat.not_le_of_lt h2))
  have hb := fun x => kk_bubble (r := r) (hp.size.symm ▸ hkn : k < p.size) h1 x
  obtain ⟨p', g', b⟩ := bin_gets f (bubble p k (k - l)) (k + 1) ⟨(bubble_perm _ _ _).trans hp.perm⟩ ((Nat.succ_add_eq_add_succ k f).trans hk)
   (ins_up h1 hu h2 h3 ((hb l).trans (if_pos rfl))
    (fun i hi => (hb i).trans ((if_neg (Nat.ne_of_lt hi)).trans (if_neg fun q => Nat.lt_asymm hi q.1)))
    (fun i hi hik => (hb (i + 1)).trans ((if_neg (Nat.ne_of_gt (Nat.lt_succ_of_le hi))).trans (if_pos ⟨Nat.lt_succ_of_le hi, hik⟩))))
  exact ⟨p', g.bind g', b⟩
include hr in
theorem sort_gets (h1 : 1 <= n) : ∃ p, Gets n (rc r) (kas_sort n) p /\ Up r p n /\ Pm n p := by
 have hp : Pm n (List.range n).toArray := ⟨Array.Perm.refl _⟩
 obtain ⟨m, p, g, a2, a3, a4⟩ := count_gets hr hp h1
 by_cases hm : m + 1 < n
 ·refine x1_2 (bin_gets hr (n - (m + 1)) p (m + 1) a4 (Nat.add_sub_cancel' a2) a3) fun p' g' b => ?_
  refine ⟨p', g.bind ?_, b⟩
  rw [if_pos hm, Nat.max_eq_left (Nat.succ_le_succ (Nat.zero_le m))]; exact g'
 ·refine ⟨p, g.bind ?_, Nat.le_antisymm a2 (Nat.le_of_not_lt hm) ▸ a3, a4⟩
  rw [if_neg hm]; exact .ret
end
end
section
noncomputable def pltB : List Int -> List Int -> Bool
 | [], [] => false
 | [], _ :: _ => true
 | _ :: _, [] => false
 | x :: xs, y :: ys => if x = y then pltB xs ys else decide (x < y)
theorem pltB_0 : pltB [] [] = (false) := rfl
theorem pltB_n {x : Int} {xs : List Int} : pltB [] (x :: xs) = (true) := rfl
theorem pltB_m {x : Int} {xs : List Int} : pltB (x :: xs) [] = (false) := rfl
theorem pltB_c {x : Int} {xs : List Int} {y : Int} {ys : List Int} : pltB (x :: xs) (y :: ys) = (if x = y then pltB xs ys else decide (x < y)) := rfl
theorem pltB_irrefl : ∀ x : List Int, pltB x x = false
 | [] => rfl
 | x :: xs => by rw [pltB_c, if_pos rfl]; exact pltB_irrefl xs
theorem pltB_trans : ∀ {x y z : List Int}, pltB x y = true -> pltB y z = true -> pltB x z = true
 | [], [], _, h, _ => by simp [pltB_0, pltB_n, pltB_m, pltB_c] at h
 | [], _ :: _, [], _, h => by simp [pltB_0, pltB_n, pltB_m, pltB_c] at h
 | [], _ :: _, _ :: _, _, _ => rfl
 | _ :: _, [], _, h, _ => by simp [pltB_0, pltB_n, pltB_m, pltB_c] at h
 | _ :: _, _ :: _, [], _, h => by simp [pltB_0, pltB_n, pltB_m, pltB_c] at h
 | x :: xs, y :: ys, z :: zs, h1, h2 => by
  rw [pltB_c] at h1 h2 ⊢
  by_cases hxy : x = y
  ·subst hxy
   rw [if_pos rfl] at h1
   by_cases hyz : x = z
   ·subst hyz
    rw [if_pos rfl] at h2 ⊢
    exact pltB_trans h1 h2
   ·rw [if_neg hyz] at h2 ⊢
    exact h2
  ·rw [if_neg hxy, decide_eq_true_eq] at h1
   by_cases hyz : y = z
   ·subst hyz
    rw [if_neg hxy, decide_eq_true_eq]; exact h1
   ·rw [if_neg hyz, decide_eq_true_eq] at h2
    rw [if_neg (by lia), decide_eq_true_eq]; lia
theorem pltB_total : ∀ {x y : List Int}, x ≠ y -> pltB x y = true \/ pltB y x = true
 | [], [], h => absurd rfl h
 | [], _ :: _, _ => .inl rfl
 | _ :: _, [], _ => .inr rfl
 | x :: xs, y :: ys, h => by
  rw [pltB_c, pltB_c]
  by_cases hxy : x = y
  ·subst hxy
   rw [if_pos rfl, if_pos rfl]
   exact pltB_total fun e => h (by rw [e])
  ·rw [if_neg hxy, if_neg fun e => hxy e.symm, decide_eq_true_eq, decide_eq_true_eq]; lia
noncomputable def rankP (ps : List (List Int)) (i : Nat) : Int := ((ps.filter fun q => pltB q (ps.getD i [])).length : Nat)
theorem filter_lt {α : Type} {f g : α -> Bool} : ∀ {l : List α}, (∀ x ∈ l, f x = true -> g x = true) -> (∃ x ∈ l, g x = true /\ f x = false) -> (l.filter f).length < (l.filter g).length
 | [], _, h => by obtain ⟨x, hx, _⟩ := h; cases hx
 | y :: l, h1, h2 => by
  have hle : ∀ {l : List α}, (∀ x ∈ l, f x = true -> g x = true) -> (l.filter f).length <= (l.filter g).length := by
   intro l
   induction l with
   | nil => intro _; exact Nat.le_refl _
   | cons z l ih =>
    intro h
    have := ih fun x hx => h x (.tail _ hx)
    have hz := h z (.head _)
    rw [List.filter_cons, List.filter_cons]
    by_cases hf : f z = true
    ·rw [if_pos hf, if_pos (hz hf), List.length_cons, List.length_cons]; lia
    ·rw [if_neg hf]
     split <;> simp <;> lia
  have h1' : ∀ x ∈ l, f x = true -> g x = true := fun x hx => h1 x (.tail _ hx)
  rw [List.filter_cons, List.filter_cons]
  by_cases hf : f y = true
  ·rw [if_pos hf, if_pos (h1 y (.head _) hf), List.length_cons, List.length_cons]
   refine x1_3 h2 fun x hx e1 e2 => ?_; clear h2
   rcases List.mem_cons.mp hx with rfl | hx
   ·rw [hf] at e2; cases e2
   ·have := filter_lt h1' ⟨x, hx, e1, e2⟩; lia
  ·rw [if_neg hf]
   by_cases hg : g y = true
   ·rw [if_pos hg, List.length_cons]; have := hle h1'; lia
   ·rw [if_neg hg]
    refine x1_3 h2 fun x hx e1 e2 => ?_; clear h2
    rcases List.mem_cons.mp hx with rfl | hx
    ·exact absurd e1 hg
    ·exact filter_lt h1' ⟨x, hx, e1, e2⟩
theorem rank_lt {ps : List (List Int)} {i j : Nat} (hi : i < ps.length) (h : pltB (ps.getD i []) (ps.getD j []) = true) : rankP ps i < rankP ps j := by
 unfold rankP
 refine Int.ofNat_lt.mpr (filter_lt (fun x Z hx => pltB_trans hx h) ⟨ps.getD i [], ?_, h, pltB_irrefl _⟩)
 have e : ps.getD i [] = ps[i] := by simp [hi]
 rw [e]; exact List.getElem_mem hi
theorem rank_iff {ps : List (List Int)} (hn : ps.Nodup) {i j : Nat} (hi : i < ps.length) (hj : j < ps.length) : rc (rankP ps) i j = pltB (ps.getD i []) (ps.getD j []) := by
 show decide (rankP ps i < rankP ps j) = _
 by_cases hij : i = j
 ·subst hij; rw [pltB_irrefl, decide_eq_false_iff_not]; lia
 ·have hne : ps.getD i [] ≠ ps.getD j [] := fun e => hij ((List.getElem_inj hn).mp (by simpa [hi, hj] using e))
  rcases pltB_total hne with h | h
  ·rw [h, decide_eq_true_eq]; exact rank_lt hi h
  ·have h' : pltB (ps.getD i []) (ps.getD j []) = false := by
    cases q : pltB (ps.getD i []) (ps.getD j []) with
    | false => rfl
    | true => have := pltB_trans q h; rw [pltB_irrefl] at this; cases this
   have := rank_lt hj h
   rw [h', decide_eq_false_iff_not]; lia
theorem rank_inj {ps : List (List Int)} (hn : ps.Nodup) : ∀ i j, i < ps.length -> j < ps.length -> rankP ps i = rankP ps j -> i = j := fun i j hi hj e => by
 by_cases hij : i = j
 ·exact hij
 ·have hne : ps.getD i [] ≠ ps.getD j [] := fun e => hij ((List.getElem_inj hn).mp (by simpa [hi, hj] using e))
  rcases pltB_total hne with h | h
  ·have := rank_lt hi h; lia
  ·have := rank_lt hj h; lia
section
variable {prog : Program} {w : World} {A : Around} {E : Value -> Shared -> Prop} {s : Shared}
theorem tuple_lt_tree {x y : List Int} {a b : Addr} {P : PySem.Fin -> Shared -> Prop} (hx : IsTupleKey (intKind prog w) s.heap x a) (hy : IsTupleKey (intKind prog w) s.heap y b) (h : P (.done (.ret (.bool (pltB x y)))) s) :
  wpAny (model prog w) A (Builtin.«tuple.__lt__» ⟨[.ref a, .ref b], []⟩) P E s := by
 have hTb := hy.typeIs
 refine x3_4 hx fun oa xs na hoa Z hda hia => ?_; clear hx
 refine x3_4 hy fun ob ys nb hob Z hdb hib => ?_; clear hy
 show wpAny _ _ (isInstance (.ref b) (.type "tuple") >>= _) _ _ s
 refine wpAny_bind (wpAny_isInstance hTb isSubtype_tuple_tuple ?_)
 simp only [Bool.not_true, Bool.false_eq_true, if_false]
 refine wpAny_bind (wpAny_tupleItemsOf hoa hda ?_)
 refine wpAny_bind (wpAny_tupleItemsOf hob hdb ?_)
 refine wpAny_bind ?_
 refine wpAny_forIn_list _
  (fun rest r s' => r.1 = none /\ s' = s /\ ∃ x' y' xs' ys', rest = List.zip xs' ys' /\ ItemsAre (intKind prog w) x' xs' /\ ItemsAre (intKind prog w) y' ys' /\ pltB x' y' = pltB x y /\ decide (xs'.length < ys'.length) = decide (xs.size < ys.size))
  _ ?_ ?_ _ _ ⟨rfl, rfl, x, y, xs.toList, ys.toList, rfl, hia, hib, rfl, by simp⟩
 ·rintro ⟨u, v⟩ rest r s' ⟨hr, rfl, x', y', xs', ys', hz, hx', hy', hdec, hlen⟩
  cases hx' with
  | nil => simp at hz
  | @cons k1 u' x'' xs'' h1 hx'' =>
   cases hy' with
   | nil => simp at hz
   | @cons k2 v' y'' ys'' h2 hy'' =>
    simp only [List.zip_cons_cons, List.cons.injEq, Prod.mk.injEq] at hz
    obtain ⟨⟨rfl, rfl⟩, rfl⟩ := hz
    refine wpAny_bind ((intKind prog w).eqBool (a := k1) (b := k2) h1 h2 ?_)
    by_cases hk : k1 = k2
    ·subst hk
     rw [decide_eq_true rfl]
     simp only [Bool.not_true, Bool.false_eq_true, if_false]
     rw [pltB_c, if_pos rfl] at hdec
     exact wpAny_pure ⟨rfl, rfl, x'', y'', xs'', ys'', rfl, hx'', hy'', hdec, by simpa using hlen⟩
    ·rw [decide_eq_false hk]
     simp only [Bool.not_false, if_true]
     rw [pltB_c, if_neg hk] at hdec
     rw [<- hdec] at h
     refine x1_1 (Value.isInt_shape h1) fun t1 Q => ?_; subst Q
     refine x1_1 (Value.isInt_shape h2) fun t2 Q => ?_; subst Q
     refine wpAny_bind (wpAny_rule (wpAny_bind ?_))
     refine wpAny_mono (show wpAny (model prog w) A (compareOp .Lt (.int k1 t1) (.int k2 t2)) (fun v s'' => v = .bool (decide (k1 < k2)) /\ s'' = s') E s' from PyProof.Rows.lt_int ⟨rfl, rfl⟩) ?_ fun Z Z e => e
     rintro _ _ ⟨rfl, rfl⟩
     exact wpAny_bind (wpAny_pure (wpAny_pure (wpAny_pure h)))
 ·rintro ⟨r1, r2⟩ s' ⟨hr, rfl, x', y', xs', ys', hz, hx', hy', hdec, hlen⟩
  simp only at hr
  subst hr
  refine wpAny_pure ?_
  have hfin : decide (xs.size < ys.size) = pltB x y := by
   rw [<- hdec, <- hlen]
   cases hx' with
   | nil =>
    cases hy' with
    | nil => simp [pltB_0, pltB_n, pltB_m, pltB_c]
    | cons _ _ => simp [pltB_0, pltB_n, pltB_m, pltB_c]
   | cons _ _ =>
    cases hy' with
    | nil => simp [pltB_0, pltB_n, pltB_m, pltB_c]
    | cons _ _ => simp at hz
  show P (.done (.ret (.bool (decide (xs.size < ys.size))))) s'
  rw [hfin]; exact h
theorem plt_any {x y : List Int} {a b : Addr} {Q : Value -> Shared -> Prop} (hu : A.units < cLine) (hx : IsTupleKey (intKind prog w) s.heap x a) (hy : IsTupleKey (intKind prog w) s.heap y b) (h : Q (.bool (pltB x y)) s) :
  wpAny (model prog w) A (compareOp .Lt (.ref a) (.ref b)) Q E s :=
 wpAny_richCompare_same_room (op := .Lt) hx.typeIs hy.typeIs PySem.F.slot_tuple_lt (wpAny_call_entry PySem.F.slot_tuple_lt hx.typeIs PySem.F.entry_tuple_lt (tuple_lt_tree hx hy ⟨_, rfl, (fun e => nomatch e), h⟩) (PySem.F.args_tuple_lt_2 _ _)) hu
theorem row_lt {x y : List Int} {p q a b : Addr} {u v : Value} {m n : Nat} {Q : Bool -> Shared -> Prop} (hu : A.units < cLine) (hne : x ≠ y) (hx : IsTupleKey (intKind prog w) s.heap x a) (hy : IsTupleKey (intKind prog w) s.heap y b)
  (hp : s.heap.get? p = some { cls := .type "tuple", data := .seq #[.ref a, u] m }) (hq : s.heap.get? q = some { cls := .type "tuple", data := .seq #[.ref b, v] n }) (h : Q (pltB x y) s) :
  wpAny (model prog w) A (keyLt' (tuples' false) (.ref p) (.ref q)) Q E s := by
 refine kat_lt hp rfl hq rfl ?_
 refine kat_cons (wpAny_eqBool_tuple hu hx hy ?_)
 rw [decide_eq_false hne]
 refine kat_no (kat_one _ _ (plt_any hu hx hy ?_))
 exact h
end
end
section
noncomputable abbrev Keeps1 (a : Addr) (h h' : Heap) : Prop := ∀ b o, b ≠ a -> h.get? b = some o -> h'.get? b = some o
section
variable {prog : Program} {w : World} {A : Around} {E : Value -> Shared -> Prop} {s : Shared}
theorem range_map (vs : List Value) : (List.range vs.length).map (fun i => vs.getD i Value.none) = vs := by
 refine List.ext_getElem (by simp) fun i h1 h2 => ?_
 simp at h1 ⊢
 simp [h1]
theorem zip_snd (vs : List Value) : (vs.toArray.zip vs.toArray).map (fun x => x.2) = vs.toArray := by
 apply Array.ext
 ·simp
 ·intro i h1 h2; simp
theorem sort_rows {a : Addr} {vs : List Value} {n : Nat} {r : Nat -> Int} {P : PySem.Fin -> Shared -> Prop} (hr : ∀ i j, i < vs.length -> j < vs.length -> r i = r j -> i = j)
  (ho : s.heap.get? a = some (seqObj "list" vs.toArray n)) (h64 : vs.length < 64)
  (hK : 2 <= vs.length -> ∀ h', Keeps1 a s.heap h' -> ∀ Q : SortKind -> Shared -> Prop, Q (tuples' false) { s with heap := h' } -> wpAny (model prog w) A (keyKind' vs.toArray) Q E { s with heap := h' })
  (hC : ∀ h', Keeps1 a s.heap h' -> ∀ i j C, i < vs.length -> j < vs.length -> i ≠ j -> C (rc r i j) { s with heap := h' } -> kas_ask prog w A (tuples' false) vs i j C { s with heap := h' })
  (h : ∀ p h' m, Pm vs.length p -> Up r p vs.length -> Keeps1 a s.heap h' -> s.heap.objs.size <= h'.objs.size -> h'.get? a = some (seqObj "list" (List.toArray (p.toList.map fun i => vs.getD i Value.none)) m) -> P (.done (.ret .none)) { s with heap := h' }) :
  wpAny (model prog w) A (Builtin.«list.sort» ⟨[.ref a], []⟩) P E s := by
 have ha : a < s.heap.objs.size := Heap.lt_size ho
 have s1 := Heap.SameBut.update s.heap a (Obj.mapSeq fun Z => (#[] : Array Value))
 refine x1_1 (⟨_, get?_update_seq ho fun Z => #[]⟩ : ∃ e1, (s.heap.update a (Obj.mapSeq fun Z => (#[] : Array Value))).get? a = some (seqObj "list" #[] e1)) fun e1 ho1 => ?_
 let h3 := ((s.heap.update a (Obj.mapSeq fun Z => (#[] : Array Value))).push (seqObj "tuple" vs.toArray 0)).push (seqObj "list" #[] 0)
 have k3 : Keeps1 a s.heap h3 := fun b o hb e => Heap.get?_push_of_some _ (Heap.get?_push_of_some _ ((Heap.get?_update_other _ _ (Ne.symm hb)).trans e))
 have o3 : h3.get? a = some (seqObj "list" #[] e1) := Heap.get?_push_of_some _ (Heap.get?_push_of_some _ ho1)
 have z3 : s.heap.objs.size <= h3.objs.size := by
  show _ <= (((s.heap.update a _).push _).push _).objs.size
  rw [Heap.size_push, Heap.size_push, Heap.size_update]; lia
 rw [list_sort_plain]
 refine wpAny_bind (listItems_at ho rfl ?_)
 refine wpAny_bind (listUpdate_at ho rfl ?_ (by rw [List.size_toArray, sizeLine_eq]; lia) (Nat.zero_le _))
 refine wpAny_bind (seqEpoch_at ho1 rfl ?_)
 refine wpAny_bind (wpAny_newTuple ?_ (by show vs.length <= _; rw [sizeLine_eq]; lia))
 refine wpAny_bind (wpAny_newList ?_ (Nat.zero_le _))
 refine wpAny_holding ?_
 show wpAny (model prog w) A _ P E { s with heap := h3 }
 dsimp only
 have fin : ∀ (p : Array Nat) (out : Array Value), out = List.toArray (p.toList.map fun i => vs.getD i Value.none) -> Pm vs.length p -> Up r p vs.length -> ∀ (Q : Unit -> Shared -> Prop), (∀ h', P (.done (.ret .none)) { s with heap := h' } -> Q () { s with heap := h' }) ->
   wpAny (model prog w) A (Builtin.List.listUpdate (.ref a) fun Z => out) Q E { s with heap := h3 } := by
  intro p out ho hp hu Q hq
  have hsz : out.size = vs.length := by rw [ho, List.size_toArray, List.length_map, Array.length_toList, hp.size]
  refine listUpdate_at o3 rfl (hq _ ?_) (Nat.zero_le _) (Nat.le_trans (Nat.le_of_eq hsz) (by rw [sizeLine_eq]; lia))
  refine h p (h3.update a (Obj.mapSeq fun Z => out)) _ hp hu (fun b o hb e => (Heap.get?_update_other _ _ (Ne.symm hb)).trans (k3 b o hb e)) (by rw [Heap.size_update]; exact z3) (by rw [<- ho]; exact get?_update_seq o3 fun Z => out)
 by_cases h2 : vs.toArray.size < 2
 ·rw [if_pos h2, if_pos h2]
  refine wpAny_bind (wpAny_pure ?_)
  rw [StateT.run_pure]
  refine wpAny_bind (wpAny_pure ?_)
  dsimp only
  refine wpAny_bind (seqEpoch_at o3 rfl ?_)
  have hl : vs.length < 2 := by simpa using h2
  refine wpAny_bind (fin (List.range vs.length).toArray _ ?_ ⟨Array.Perm.refl _⟩ (fun i j h1 h2 => by lia) _ fun h' hP => ?_)
  ·show (vs.toArray.zip vs.toArray).map (fun x => x.2) = _
   rw [range_map]
   exact zip_snd vs
  ·show wpAny _ _ (if (e1 != e1) = true then _ else _) _ _ _
   rw [if_neg (by simp)]
   exact wpAny_pure hP
 ·have hl : 2 <= vs.length := by simpa using h2
  rw [if_neg h2, if_neg h2]
  refine wpAny_bind (hK hl h3 k3 _ ?_)
  have est : SortSt.mk' (tuples' false) (vs.toArray.zip vs.toArray) #[] 7 none = kas_st (tuples' false) (pairsOf vs) (List.toArray (List.range vs.length)) := by
   have e := kas_range (pairsOf vs)
   rw [pairsOf_size] at e
   show SortSt.mk' (tuples' false) (pairsOf vs) #[] 7 none = SortSt.mk' (tuples' false) ((List.toArray (List.range vs.length)).map (kas_item (pairsOf vs))) #[] 7 none
   rw [e]
  refine x1_3 (sort_gets hr (by lia)) fun p g hu hp => ?_
  have ask : (kas_sort vs.length).kasWp (kas_ask prog w A (tuples' false) vs) (fun p' s' => p' = p /\ s' = { s with heap := h3 }) { s with heap := h3 } :=
   g.wp (I := fun s' => s' = { s with heap := h3 }) (fun i j s' C h1 h2 hne e hc => by subst e; exact hC h3 k3 i j C h1 h2 hne (hc _ rfl)) (fun s' e => ⟨rfl, e⟩) _ rfl
  rw [kas_ask_eq] at ask
  have run := kas_runs (E := E) (Q := fun Z st' s' => arrOf st' = p.map (kas_item (pairsOf vs)) /\ failedOf st' = none /\ s' = { s with heap := h3 })
   hl h64 (fun p' st' s' a1 a2 a3 a4 => ⟨by rw [a2, a4.1], a3, a4.2⟩) ask
  rw [<- est] at run
  refine wpAny_bind (wpAny_mono run ?_ fun Z Z e => e)
  rintro ⟨⟨⟩, st'⟩ s' ⟨har, hf, rfl⟩
  dsimp only
  refine wpAny_bind (seqEpoch_at o3 rfl ?_)
  refine wpAny_bind (fin p _ ?_ hp hu _ fun h' hP => ?_)
  ·apply Array.toList_inj.mp
   rw [har, Array.map_map, Array.toList_map]
   exact List.map_congr_left fun i Z => by show (kas_item (pairsOf vs) i).2 = _; rw [kas_item_eq]
  ·rw [hf]
   simp only [bne_self_eq_false, Bool.false_eq_true, if_false]
   exact wpAny_pure hP
theorem sorted_pairs {v d : Addr} {kvs : List (Value × Value)} {ep : Nat} {r : Nat -> Int} {Q : Value -> Shared -> Prop} (hh : A.handled = none) (hv : s.heap.IsItemsView v d) (hm : RawAt s.heap d kvs ep) (h64 : kvs.length < 64) (hr : ∀ i j, i < kvs.length -> j < kvs.length -> r i = r j -> i = j)
  (hK : ∀ (as : List Addr) h' tk, (∀ b o, s.heap.get? b = some o -> h'.get? b = some o) -> as.length = kvs.length -> Gath kvs s.heap.objs.size h' as -> 2 <= kvs.length -> ∀ Q : SortKind -> Shared -> Prop, Q (tuples' false) { s with heap := h', toks := tk } -> wpAny (model prog w) A.in1.in1 (keyKind' (as.map Value.ref).toArray) Q E { s with heap := h', toks := tk })
  (hC : ∀ (as : List Addr) h' tk, (∀ b o, s.heap.get? b = some o -> h'.get? b = some o) -> as.length = kvs.length -> Gath kvs s.heap.objs.size h' as -> ∀ i j C, i < kvs.length -> j < kvs.length -> i ≠ j -> C (rc r i j) { s with heap := h', toks := tk } -> kas_ask prog w A.in1.in1 (tuples' false) (as.map Value.ref) i j C { s with heap := h', toks := tk })
  (h : ∀ (p : Array Nat) (as : List Addr) h' tk m l, Pm kvs.length p -> Up r p kvs.length -> (∀ b o, s.heap.get? b = some o -> h'.get? b = some o) -> as.length = kvs.length -> Gath kvs s.heap.objs.size h' as -> s.heap.objs.size <= l -> s.heap.objs.size <= h'.objs.size ->
   h'.get? l = some (seqObj "list" (List.toArray (p.toList.map fun i => (as.map Value.ref).getD i Value.none)) m) -> Q (.ref l) { s with heap := h', toks := tk }) :
  wpAny (model prog w) A (call (.builtin "sorted") [.ref v]) Q E s := by
 refine call_function_entry kind_sorted plain_sorted entry_sorted (args_sorted1 _) ?_
 unfold Builtin.«sorted»
 refine wpAny_bind (m := checkCount "sorted" 1 1 _) (wpAny_pure ?_)
 refine wpAny_bind (wpAny_size (pairs_collect (A := A.in1) (kvs := kvs) (ep := ep) hh hv hm (by rw [sizeLine_eq]; lia) fun h1 tk as hk hl hG hsz => ?_))
 replace hsz : s.heap.objs.size <= h1.objs.size := hsz
 refine wpAny_bind (wpAny_newList ?_ (by rw [List.length_map, hl, sizeLine_eq]; lia))
 let h2 := h1.push (seqObj "list" (as.map Value.ref).toArray 0)
 show wpAny _ _ _ _ _ { s with heap := h2, toks := tk }
 have hL : h2.get? h1.objs.size = some (seqObj "list" (as.map Value.ref).toArray 0) := Heap.get?_push_size _ rfl
 have hlen : (as.map Value.ref).length = kvs.length := by rw [List.length_map, hl]
 have hz2 : s.heap.objs.size <= h2.objs.size := by
  show _ <= (h1.push _).objs.size
  rw [Heap.size_push]; lia
 have up : ∀ {h' : Heap}, Keeps1 h1.objs.size h2 h' -> (∀ b o, s.heap.get? b = some o -> h'.get? b = some o) /\ Gath kvs s.heap.objs.size h' as := fun {h'} k => by
  have k1 : ∀ b o, h1.get? b = some o -> h'.get? b = some o := fun b o e => k b o (Nat.ne_of_lt (Heap.lt_size e)) (Heap.get?_push_of_some _ e)
  refine ⟨fun b o e => k1 b o (hk b o e), hG.above, fun j a hj => ?_⟩
  refine x2_2 (hG.pairs j a hj) fun kk x q1 q2 => ?_
  exact ⟨kk, x, q1, k1 _ _ q2⟩
 refine wpAny_bind (wpAny_holding (wpAny_call_entry slot_list_sort ⟨_, hL, rfl⟩ entry_list_sort (sort_rows (s := { s with heap := h2, toks := tk }) (r := r) (by rw [hlen]; exact hr) hL (by rw [hlen]; exact h64)
  (fun h2' h' k' Q' hq => hK as h' tk (up k').1 hl (up k').2 (by rw [<- hlen]; exact h2') Q' hq)
  (fun h' k' i j C hi hj hne hc => hC as h' tk (up k').1 hl (up k').2 i j C (by rw [<- hlen]; exact hi) (by rw [<- hlen]; exact hj) hne hc)
  (fun p h' m hp hu k' hz ho => ⟨_, rfl, ?_⟩)) (args_list_sort _)))
 rw [hlen] at hp hu
 exact wpAny_pure ⟨_, rfl, h p as h' tk m _ hp hu (up k').1 hl (up k').2 hsz (Nat.le_trans hz2 hz) ho⟩
end
end
section
theorem sorted_uniq {α : Type} {l₁ l₂ : List (List Int × α)} (hp : l₁.Perm l₂) (h1 : l₁.Pairwise fun a b => pltB a.1 b.1 = true) (h2 : l₂.Pairwise fun a b => pltB a.1 b.1 = true) : l₁ = l₂ :=
 List.Perm.eq_of_pairwise (fun a b Z Z h h' => by have := pltB_trans h h'; rw [pltB_irrefl] at this; cases this) h1 h2 hp
noncomputable def rowsOf (kvs : List (List Int × D)) (p : Array Nat) : List (List Int × D) := p.toList.map fun i => kvs.getD i ([], .none)
theorem getD_get {α : Type} {l : List α} {i : Nat} {d : α} (h : i < l.length) : l.getD i d = l[i] := by simp [h]
theorem rowsOf_perm {kvs : List (List Int × D)} {p : Array Nat} (hp : Pm kvs.length p) : (rowsOf kvs p).Perm kvs := by
 have h1 : p.toList.Perm (List.range kvs.length) := by simpa using Array.perm_iff_toList_perm.mp hp.perm
 have h2 : (List.range kvs.length).map (fun i => kvs.getD i ([], .none)) = kvs := by
  refine List.ext_getElem (by simp) fun i h1 h2 => ?_
  simp at h1 ⊢
  simp [h1]
 have := h1.map fun i => kvs.getD i ([], .none)
 rw [h2] at this
 exact this
theorem rowsOf_sorted {kvs : List (List Int × D)} {p : Array Nat} (hn : (kvs.map (fun x => x.1)).Nodup) (hp : Pm kvs.length p) (hu : Up (rankP (kvs.map (fun x => x.1))) p kvs.length) : (rowsOf kvs p).Pairwise fun a b => pltB a.1 b.1 = true := by
 rw [List.pairwise_iff_getElem]
 intro i j hi hj hij
 unfold rowsOf at hi hj ⊢
 rw [List.length_map, Array.length_toList, hp.size] at hi hj
 have hi' : i < p.size := by rw [hp.size]; exact hi
 have hj' : j < p.size := by rw [hp.size]; exact hj
 have e1 : p.getD i 0 = p[i] := by simp [Array.getD, hi']
 have e2 : p.getD j 0 = p[j] := by simp [Array.getD, hj']
 have l1 := hp.lt hi
 have l2 := hp.lt hj
 have h := hu i j hij hj
 have h' : rc (rankP (kvs.map (fun x => x.1))) (p.getD i 0) (p.getD j 0) = true := decide_eq_true h
 rw [rank_iff hn (by rw [List.length_map]; exact l1) (by rw [List.length_map]; exact l2), e1, e2] at h'
 rw [e1] at l1
 rw [e2] at l2
 rw [getD_get (by rw [List.length_map]; exact l1), getD_get (by rw [List.length_map]; exact l2), List.getElem_map, List.getElem_map] at h'
 simp only [List.getElem_map, Array.getElem_toList]
 rw [getD_get l1, getD_get l2]
 exact h'
noncomputable abbrev prD (x : List Int × D) : D := .tup [pathI x.1, x.2]
theorem ext_all {B : Bs} {σ : Sto} {c : St} {h' : Heap} {t : Nat} (s : Sim B σ c) (he : ∀ b o, c.h.get? b = some o -> h'.get? b = some o) (hz : c.sz <= h'.objs.size) :
  Le [] c ⟨fun b => if b < c.sz then c.G b else h'.get? b, c.β, { c.s with heap := h', toks := t }⟩ /\ Sim B σ ⟨fun b => if b < c.sz then c.G b else h'.get? b, c.β, { c.s with heap := h', toks := t }⟩ := by
 have hG : ∀ b o, c.G b = some o -> (if b < c.sz then c.G b else h'.get? b) = some o := fun b o h => by
  rw [if_pos (Heap.lt_size (s.sub _ _ h)), h]
 have hS : ∀ b o, (if b < c.sz then c.G b else h'.get? b) = some o -> h'.get? b = some o := fun b o h => by
  split at h
  ·exact he _ _ (s.sub _ _ h)
  ·exact h
 refine ⟨⟨hG, fun b h1 h2 Z => by show (if b < c.sz then c.G b else _) = none; rw [if_pos h2, h1], ⟨[], by simp, fun Z h => nomatch h⟩, fun b o h Z Z => ⟨o, he b o h, .refl o⟩, hz, rfl⟩, ?_⟩
 exact ⟨fun b o h => hG _ _ (s.base b o h), hS, s.len, s.nodup, s.mods, fun a ha => Nat.lt_of_lt_of_le (s.low a ha) hz, fun i a y h1 h2 h3 => by show (if a < c.sz then c.G a else _) = none; rw [if_pos (s.low a (List.mem_of_getElem? h1)), s.off i a y h1 h2 h3], fun i a y h1 h2 => (s.cells i a y h1 h2).mono hG (fun Z Z h => h) hS fun o h => he _ _ h⟩
section
variable {B : Bs} {gl : Gl} {n : Nat} {ρ : Loc} {σ σ1 : Sto}
theorem raw_of {c : St} {x : Nat} {a : Addr} {kvs : List (List Int × D)} (s : Sim B σ c) (ha : c.β[x]? = some a) (hx : σ[x]? = some (.pdct kvs)) :
  ∃ xs ep, RawAt c.h a (xs.map fun (y : List Int × Addr × Value) => (Value.ref y.2.1, y.2.2)) ep /\ PdRep c.G c.β xs kvs /\ (∀ y ∈ xs, (tK B.w).is c.h y.1 y.2.1) /\ c.s.TypeIs (.ref a) "dict" := by
 refine x1_2 (s.cells x a _ ha hx) fun xs hd r => ?_
 have ht := hd.typeIs (s := c.s)
 refine x3_6 hd fun o es ep e e1 e2 e3 e4 e5 => ?_; clear hd
 refine ⟨xs, ep, ⟨o, es, e, e1, e2, ?_⟩, r, e4, ht⟩
 rw [e3, List.map_map]; rfl
theorem pd_at {G : Gm} {β : List Addr} : ∀ {xs : List (List Int × Addr × Value)} {kvs : List (List Int × D)}, PdRep G β xs kvs -> ∀ {i : Nat} {y : List Int × Addr × Value}, xs[i]? = some y -> ∃ k, kvs[i]? = some k /\ y.1 = k.1 /\ Rep G β (.ref y.2.1) (pathI y.1) /\ Rep G β y.2.2 k.2
 | [], [], _, i, y, h => by simp at h
 | x :: xs, k :: ks, r, 0, y, h => by
  simp only [List.getElem?_cons_zero, Option.some.injEq] at h
  subst h
  exact ⟨k, rfl, r.1⟩
 | x :: xs, k :: ks, r, i + 1, y, h => by
  simp only [List.getElem?_cons_succ] at h ⊢
  exact pd_at r.2 h
theorem items_call {d : Addr} {A : Around} {s : Shared} {E Q : Want Value} (hT : s.TypeIs (.ref d) "dict") (hd : (d == sysModules) = false) (h : Q (.ref s.heap.objs.size) { s with heap := s.heap.push { cls := .type "dict_items", data := .fields #[.ref d] } }) :
  wpAny (model PG B.w) A (call (.builtin "dict.items") [.ref d]) Q E s := by
 refine wpAny_call_entry PySem.F.slot_dict_items hT PySem.F.entry_dict_items ?_ (PySem.F.args_dict_items_1 _)
 unfold Builtin.«dict.items»
 refine wpAny_bind ?_
 unfold Builtin.Dict.noArgs
 refine wpAny_bind (wpAny_notOrdered_dict hT ?_)
 show wpAny _ _ (pure d) _ _ s
 refine wpAny_pure ?_
 show wpAny _ _ (Builtin.Dict.showsAll d >>= _) _ _ s
 unfold Builtin.Dict.showsAll
 rw [if_neg (by rw [hd]; exact Bool.false_ne_true)]
 refine wpAny_bind (wpAny_pure ?_)
 exact wpAny_bind (wpAny_newObj_type (wpAny_pure ⟨_, rfl, h⟩))
theorem ev_items {o : Expr} {apos pos : Pos} {x : Nat} {kvs : List (List Int × D)} {A : Around} {env : Env} {c : St} {E Q : Want Value} (ho : Ev o (.obj x) B gl n ρ σ σ) (hx : σ[x]? = some (.pdct kvs)) (ok : Ok B A n σ c) (fr : Frm env gl ρ c)
  (he : ∀ env, attributeBase o (Str.ofString "items") env (eval o env) = eval o env := by intro _; rfl) (hpos : (apos.endLine == pos.line) = true := by decide)
  (k : ∀ v d c', Le [] c c' -> Sim B σ c' -> c'.β[x]? = some d -> v ∉ c'.β -> c'.h.IsItemsView v d -> Q (.ref v) c'.s) :
  wpAny (model PG B.w) A (eval (.Call (.Attribute o (Str.ofString "items") apos) [] [] pos) env) Q E c.s := by
 show wpAny _ A (do
  let ov <- attributeBase o (Str.ofString "items") env (eval o env)
  standAt apos.atName
  methodCall o (Str.ofString "items") apos pos env ov (([] : List Expr).length + 0) (backTo pos (starEach [] env)) []) Q E c.s
 rw [he]
 refine wpAny_bind (ho A env c ok fr _ _ fun u c1 l1 s1 r1 => wpAny_bind (wpAny_standAt ?_))
 unfold methodCall
 rw [show methodCallForm (([] : List Expr).length + 0) (backTo pos (starEach [] env)) [] = true from rfl]
 show wpAny _ A (holding [u] (calleeOf true o env u (Str.ofString "items")) >>= _) Q E _
 refine wpAny_bind (wpAny_holding ?_)
 unfold calleeOf
 rw [if_pos rfl]
 refine Meth.pdct hx PySem.F.slot_dict_items PySem.F.type_dict_items A c1 u n (ok.step l1 s1) r1 _ _ _ ?_
 show wpAny _ A (methodCallPos true o env apos pos >>= _) Q E _
 unfold methodCallPos
 rw [if_pos (by simp [hpos])]
 refine wpAny_bind (wpAny_pure ?_)
 refine x1_1 (.builtin : Keeps' (.builtin "dict.items") B) fun kp hkp => ?_
 refine callWith_any rfl (Evs.nil (ρ := ρ) (gl := gl) (n := n) (σ := σ) A env c1 pos (ok.step l1 s1) (fr.step l1) _ _ fun vs c2 l2 s2 r2 => ⟨kp, hkp _ _ _ s2.top, ?_⟩)
 cases r2
 have r2 := l2.rep r1
 cases r2 with
 | @obj _ d hd =>
  refine x2_4 (raw_of s2 hd hx) fun xs ep q1 q2 q3 q4 => ?_
  refine items_call q4 (not_mods s2 hd) ?_
  let vo : Obj := { cls := .type "dict_items", data := .fields #[.ref d] }
  have l3 := le_push [] c2 vo
  exact k c2.sz d ⟨c2.G, c2.β, { c2.s with heap := c2.s.heap.push vo }⟩ ((l1.trans l2).trans l3) (sim_push s2 vo) hd (fun h => absurd (s2.low _ h) (Nat.lt_irrefl _)) ⟨vo, Heap.get?_push_size _ rfl, rfl, rfl⟩
end
end
section
section
variable {B : Bs} {gl : Gl} {n : Nat} {ρ : Loc} {σ σ1 : Sto}
theorem kat_tups {h : Heap} {kvs : List (Value × Value)} {lo : Addr} : ∀ {as : List Addr} {xs : List (List Int × Addr × Value)} {k : Nat}, (∀ (j : Nat) (a : Addr), as[j]? = some a -> ∃ y : List Int × Addr × Value, xs[k + j]? = some y /\ h.get? a = some { cls := .type "tuple", data := .seq #[.ref y.2.1, y.2.2] }) ->
  KatTups h (as.map Value.ref) ((List.range as.length).map fun j => .ref ((xs.getD (k + j) default).2.1))
 | [], _, _, _ => trivial
 | a :: as, xs, k, g => by
  refine x1_2 (g 0 a rfl) fun y hy ha => ?_
  have e : ((List.range (a :: as).length).map fun j => Value.ref ((xs.getD (k + j) default).2.1)) = .ref y.2.1 :: ((List.range as.length).map fun j => Value.ref ((xs.getD (k + 1 + j) default).2.1)) := by
   rw [List.length_cons, List.range_succ_eq_map, List.map_cons, List.map_map]
   congr 1
   ·rw [List.getD_eq_getElem?_getD, hy]; rfl
   ·exact List.map_congr_left fun j Z => by simp [Function.comp, Nat.add_comm, Nat.add_left_comm]
  rw [e, List.map_cons]
  refine KatTups.cons ha rfl rfl (by rfl) (kat_tups (kvs := kvs) (lo := lo) fun j b hj => ?_)
  refine x1_2 (g (j + 1) b (by simpa using hj)) fun z hz hb => ?_
  exact ⟨z, by rw [<- hz]; congr 1; lia, hb⟩
theorem repAll_map {G : Gm} {β : List Addr} {α : Type} {f : α -> Value} {g : α -> D} : ∀ {l : List α}, (∀ x ∈ l, Rep G β (f x) (g x)) -> RepAll G β (l.map f) (l.map g)
 | [], _ => .nil
 | x :: l, h => .cons (h x (.head _)) (repAll_map fun y hy => h y (.tail _ hy))
theorem sorted_view {x : Nat} {kvs rs : List (List Int × D)} {A : Around} {c : St} {v d : Addr} {E Q : Want Value} (ok : Ok B A n σ c) (hx : σ[x]? = some (.pdct kvs)) (h64 : kvs.length < 64) (hn : (kvs.map (fun x => x.1)).Nodup) (hp : rs.Perm kvs) (hs : rs.Pairwise fun a b => pltB a.1 b.1 = true)
  (hd : c.β[x]? = some d) (hv : c.h.IsItemsView v d) (k : ∀ v c', Le [] c c' -> Sim B σ c' -> Rep c'.G c'.β v (.lst (rs.map prD)) -> Q v c'.s) : wpAny (model PG B.w) A (call (.builtin "sorted") [.ref v]) Q E c.s := by
 refine x2_4 (raw_of ok.sim hd hx) fun xs ep hm hr hk Z => ?_
 have hlen : xs.length = kvs.length := hr.length
 have hlen' : (xs.map fun (y : List Int × Addr × Value) => (Value.ref y.2.1, y.2.2)).length = kvs.length := by rw [List.length_map, hlen]
 have hu : A.in1.in1.units < cLine := by
  have := ok.uni
  show A.units + 1 + 1 < 9900
  lia
 have hri := rank_inj hn
 rw [List.length_map] at hri
 have pair : ∀ {as : List Addr} {h' : Heap} {lo : Addr}, as.length = (xs.map fun (y : List Int × Addr × Value) => (Value.ref y.2.1, y.2.2)).length -> Gath (xs.map fun (y : List Int × Addr × Value) => (Value.ref y.2.1, y.2.2)) lo h' as ->
   ∀ (j : Nat) (a : Addr), as[j]? = some a -> ∃ y : List Int × Addr × Value, xs[j]? = some y /\ h'.get? a = some { cls := .type "tuple", data := .seq #[.ref y.2.1, y.2.2] } := fun {as h' lo} hl g j a hj => by
  refine x2_2 (g.pairs j a hj) fun kk z q1 q2 => ?_
  rw [List.getElem?_map] at q1
  refine x1_2 (Option.map_eq_some_iff.mp q1) fun y hy e => ?_
  cases e
  exact ⟨y, hy, q2⟩
 have keyAt : ∀ {h' : Heap}, (∀ b o, c.h.get? b = some o -> h'.get? b = some o) -> ∀ y ∈ xs, IsTupleKey (intKind PG B.w) h' y.1 y.2.1 := fun {h'} he y hy => by
  refine x3_4 (hk y hy) fun o items m ho hc hdt hi => ?_
  exact ⟨o, items, m, he _ _ ho, hc, hdt, hi⟩
 refine sorted_pairs (r := rankP (kvs.map (fun x => x.1))) ok.hnd hv hm (by rw [hlen']; exact h64) (by rw [hlen']; exact hri) (fun as h' tk he hl g h2 Q' hq => ?_) (fun as h' tk he hl g i j C hi hj hne hc => ?_) fun p as h' tk m l hpm hup he hl g hlo hz ho => ?_
 ·have t := kat_tups (kvs := []) (lo := 0) (k := 0) (xs := xs) (as := as) (h := h') fun j a hj => by rw [Nat.zero_add]; exact pair hl g j a hj
  refine kat_kind (s := { c.s with heap := h', toks := tk }) (T := .type "tuple") t (by rw [List.length_map, List.length_range, hl]; lia) (fun z hz => ?_) (by decide) hq
  refine x1_2 (List.mem_map.mp hz) fun j hj Q => ?_; subst Q
  rw [List.mem_range, hl, hlen', <- hlen] at hj
  rw [Nat.zero_add, getD_get hj]
  refine x3_3 (keyAt he xs[j] (List.getElem_mem hj)) fun o items m q1 q2 Z => ?_
  rw [<- q2]
  exact (Looks.ld q1).andThen .now
 ·rw [hlen'] at hi hj
  have hi' : i < as.length := by rw [hl, hlen']; exact hi
  have hj' : j < as.length := by rw [hl, hlen']; exact hj
  refine x1_2 (pair hl g i as[i] (List.getElem?_eq_getElem hi')) fun y hy py => ?_
  refine x1_2 (pair hl g j as[j] (List.getElem?_eq_getElem hj')) fun z hz pz => ?_
  refine x1_3 (pd_at hr hy) fun k1 e1 f1 Z => ?_
  refine x1_3 (pd_at hr hz) fun k2 e2 f2 Z => ?_
  have g1 : (kvs.map (fun x => x.1)).getD i [] = y.1 := by rw [List.getD_eq_getElem?_getD, List.getElem?_map, e1, f1]; rfl
  have g2 : (kvs.map (fun x => x.1)).getD j [] = z.1 := by rw [List.getD_eq_getElem?_getD, List.getElem?_map, e2, f2]; rfl
  rw [rank_iff hn (by rw [List.length_map]; exact hi) (by rw [List.length_map]; exact hj), g1, g2] at hc
  unfold kas_ask
  rw [getD_get (by rw [List.length_map]; exact hi'), getD_get (by rw [List.length_map]; exact hj'), List.getElem_map, List.getElem_map]
  refine row_lt (s := { c.s with heap := h', toks := tk }) hu (fun e => ?_) (keyAt he y (List.mem_of_getElem? hy)) (keyAt he z (List.mem_of_getElem? hz)) py pz hc
  refine hne ((List.getElem_inj (i := i) (j := j) (h₀ := by rw [List.length_map]; exact hi) (h₁ := by rw [List.length_map]; exact hj) hn).mp ?_)
  rw [<- getD_get (d := []) (by rw [List.length_map]; exact hi), <- getD_get (d := []) (by rw [List.length_map]; exact hj), g1, g2, e]
 ·rw [hlen'] at hpm hup
  refine x0_2 (ext_all (t := tk) ok.sim he hz) fun l1 s1 => ?_
  have ers : rs = rowsOf kvs p := sorted_uniq (hp.trans (rowsOf_perm hpm).symm) hs (rowsOf_sorted hn hpm hup)
  refine k (.ref l) _ l1 s1 ?_
  refine Rep.lst (o := seqObj "list" (List.toArray (p.toList.map fun i => (as.map Value.ref).getD i Value.none)) m) ?_ rfl rfl ?_
  ·show (if l < c.sz then _ else _) = _
   rw [if_neg (Nat.not_lt.mpr hlo)]; exact ho
  ·rw [ers]
   unfold rowsOf
   rw [List.map_map]
   refine repAll_map fun i hi => ?_
   have hi2 : i < kvs.length := by
    have := (Array.perm_iff_toList_perm.mp hpm.perm).mem_iff.mp hi
    simpa using this
   have hi' : i < as.length := by rw [hl, hlen']; exact hi2
   refine x1_2 (pair hl g i as[i] (List.getElem?_eq_getElem hi')) fun y hy py => ?_
   refine x1_4 (pd_at hr hy) fun k1 e1 f1 r1 r2 => ?_
   have g1 : kvs.getD i ([], .none) = k1 := by rw [List.getD_eq_getElem?_getD, e1]; rfl
   show Rep _ _ ((as.map Value.ref).getD i Value.none) (prD (kvs.getD i ([], .none)))
   rw [g1, getD_get (by rw [List.length_map]; exact hi'), List.getElem_map]
   refine Rep.tup (o := { cls := .type "tuple", data := .seq #[.ref y.2.1, y.2.2] }) (vs := [.ref y.2.1, y.2.2]) (n := 0) ?_ rfl rfl (.cons ?_ (.cons ?_ .nil))
   ·show (if as[i] < c.sz then _ else _) = _
    rw [if_neg (Nat.not_lt.mpr (Nat.le_of_lt (g.above _ (List.getElem_mem hi'))))]; exact py
   ·rw [<- f1]; exact l1.rep r1
   ·exact l1.rep r2
theorem Ev.sortedItems {func o : Expr} {apos p1 pos : Pos} {x : Nat} {kvs rs : List (List Int × D)} (hf : Ev func (.raw (.builtin "sorted")) B gl n ρ σ σ) (ho : Ev o (.obj x) B gl n ρ σ σ) (hx : σ[x]? = some (.pdct kvs)) (h64 : kvs.length < 64) (hn : (kvs.map (fun x => x.1)).Nodup) (hp : rs.Perm kvs) (hs : rs.Pairwise fun a b => pltB a.1 b.1 = true)
  (he : ∀ env, eval (.Call func [.Call (.Attribute o (Str.ofString "items") apos) [] [] p1] [] pos) env = (do callWith pos (<- eval func env) [] (backTo pos (starEach [.Call (.Attribute o (Str.ofString "items") apos) [] [] p1] env)) []) := by intro _; rfl)
  (ha : ∀ env, attributeBase o (Str.ofString "items") env (eval o env) = eval o env := by intro _; rfl) (hpos : (apos.endLine == p1.line) = true := by decide) :
  Ev (.Call func [.Call (.Attribute o (Str.ofString "items") apos) [] [] p1] [] pos) (.lst (rs.map prD)) B gl n ρ σ σ := by
 intro A env c ok fr E Q k
 rw [he]
 refine wpAny_bind (hf A env c ok fr _ _ fun v c1 l1 s1 r1 => ?_)
 cases r1
 refine x1_1 (.builtin : Keeps' (.builtin "sorted") B) fun kp hkp => ?_
 refine callWith_any rfl ?_
 show wpAny _ A (spliced ((false, eval (.Call (.Attribute o (Str.ofString "items") apos) [] [] p1) env) :: backTo pos (starEach [] env))) _ _ _
 refine spliced_cons (ev_items ho hx (ok.step l1 s1) (fr.step l1) ha hpos fun v d c2 l2 s2 hd hnb hv => ?_)
 refine Evs.nil (ρ := ρ) (gl := gl) (n := n) (σ := σ) A env c2 pos (ok.step (l1.trans l2) s2) (fr.step (l1.trans l2)) _ _ fun vs c3 l3 s3 r3 => ?_
 cases r3
 refine ⟨kp, hkp _ _ _ s3.top, ?_⟩
 have hv3 : c3.h.IsItemsView v d := by
  refine x1_3 hv fun ov q1 q2 q3 => ?_; clear hv
  refine x1_2 (l3.keep v ov q1 hnb (fun h => nomatch h)) fun o' e1 kk => ?_
  exact ⟨o', e1, by rw [kept_data kk (by rintro ⟨es, ep, q⟩; rw [q3] at q; cases q)]; exact ⟨q2, q3⟩⟩
 exact sorted_view (ok.step ((l1.trans l2).trans l3) s3) hx h64 hn hp hs (l3.bget hd) hv3 fun v c4 l4 s4 r4 => k v c4 (((l1.trans l2).trans l3).trans l4) s4 r4
end
end
section
theorem slot_bytes_join : Slot "bytes" "join" "bytes.join" :=
 .of (owner := "bytes") (n := "join") (by rw [typeLookup_type, builtinLookup_eq_fast]; kernel_rfl) (by decide +kernel) (by decide +kernel) (by decide +kernel)
  (by first | exact .inl (by decide +kernel) | exact .inr (by decide +kernel)) (by rw [isSubtype_type]; kernel_rfl)
theorem type_bytes_join : typeOf (.builtin "bytes.join") = pure (.type "method_descriptor") := by show builtinType _ = _; rw [builtinType_eq_fast]; kernel_rfl
theorem entry_bytes_join : entryFor table "bytes.join" = some Builtin.«bytes.join» := entryFor_of_fast (by kernel_rfl)
theorem args_bytes_join (a b : Value) : argsOk "bytes.join" ⟨[a, b], []⟩ := by unfold argsOk; kernel_rfl
theorem buffer_eqF {id : String} {b : Array UInt8} {t : Tok} {full : Bool} : Builtin.Bytes.buffer? id (.bytes b t) full = pure (some b) := by
 unfold Builtin.Bytes.buffer?
 rw [KBy.special_eq KBy.look_buffer, KBy.own_buffer, KBy.own_release]
 kernel_rfl
theorem take_eq {id : String} {b : Array UInt8} {t : Tok} : Builtin.Bytes.takeBufferQuiet? id (.bytes b t) 0 = pure (some (b, none)) := by
 unfold Builtin.Bytes.takeBufferQuiet? Builtin.Bytes.takeBuffer?
 rw [KBy.special_eq KBy.look_buffer, KBy.own_buffer, buffer_eqF]
 kernel_rfl
theorem joined_nil : ∀ (ps : List (Array UInt8)), Builtin.Bytes.joined #[] ps = (ps.map (·.toList)).flatten.toArray := by
 intro ps
 unfold Builtin.Bytes.joined
 have key : ∀ (ps : List (Array UInt8)) (k : Nat) (acc : Array UInt8), (ps.zipIdx k).foldl (fun out (p, i) => (if i > 0 then out ++ #[] else out) ++ p) acc = acc ++ (ps.map (·.toList)).flatten.toArray := by
  intro ps
  induction ps with
  | nil => intro k acc; simp
  | cons p ps ih =>
   intro k acc
   rw [List.zipIdx_cons, List.foldl_cons, ih]
   apply Array.toList_inj.mp
   simp
 have := key ps 0 #[]
 rw [this]; simp
theorem bytes_of_rep {G : Gm} {β : List Addr} : ∀ {bs : List (List UInt8)} {vs : List Value}, RepAll G β vs (bs.map D.bytes) -> ∀ i (h : i < vs.length), ∃ b t, bs[i]? = some b /\ vs[i] = .bytes b.toArray t
 | [], _, p, i, h => by cases p; exact absurd h (Nat.not_lt_zero _)
 | b :: bs, _, p, 0, h => by
  cases p with | cons p r =>
  cases p
  exact ⟨b, _, rfl, rfl⟩
 | b :: bs, _, p, i + 1, h => by cases p with | cons _ r => exact bytes_of_rep r i (Nat.lt_of_succ_lt_succ h)
section
variable {M : Model} {A : Around} {E : Value -> Shared -> Prop} {s : Shared}
theorem joinLetGo_any : ∀ (vs keep : List Value) {Q : Unit -> Shared -> Prop}, Q () s -> wpAny M A (Builtin.Bytes.joinLetGo (vs.map fun v => (v, none)) keep) Q E s
 | [], _, _, h => wpAny_pure h
 | v :: vs, keep, Q, h => by
  show wpAny M A (letGo _ _ >>= fun Z => Builtin.Bytes.joinLetGo (vs.map fun v => (v, none)) keep) Q E s
  exact wpAny_bind (wpAny_letGo (joinLetGo_any vs keep h))
end
theorem seqItems_at {M : Model} {A : Around} {E : Value -> Shared -> Prop} {s : Shared} {l : Addr} {o : Obj} {xs : Array Value} {n : Nat} {Q : Option (Array Value) -> Shared -> Prop} (ho : s.heap.get? l = some o) (hd : o.data = .seq xs n) (h : Q (some xs) s) : wpAny M A (seqItems? (.ref l)) Q E s := by
 unfold seqItems?
 refine wpAny_bind (wpAny_load ho ?_)
 rw [hd]
 exact wpAny_pure h
theorem arr_get {vs : List Value} {x : Nat} {v : Value} (hx : x < vs.length) (h : vs[x] = v) : vs.toArray.getD x Value.none = v := by rw [<- h]; simp [Array.getD, hx]
theorem any_not {vs : List Value} {bs : List (List UInt8)} (hb : ∀ i (h : i < vs.length), ∃ b u, bs[i]? = some b /\ vs[i] = .bytes b.toArray u) (x : Nat) : ((vs.take x).map fun v => (v, (none : Option Value))).any (fun x => x.1.onHeap) = false := by
 rw [List.any_eq_false]
 intro p hp
 obtain ⟨v, hv, rfl⟩ := List.mem_map.mp hp
 obtain ⟨j, hj, rfl⟩ := List.mem_iff_getElem.mp (List.mem_of_mem_take hv)
 obtain ⟨b', u', _, h4⟩ := hb j hj
 rw [h4]; exact Bool.false_ne_true
theorem take_more {vs : List Value} {bs : List (List UInt8)} {x : Nat} {b : List UInt8} {v : Value} (hl : vs.length = bs.length) (hx : x < vs.length) (h1 : bs[x]? = some b) (h2 : vs[x] = v) :
  ((((bs.take x).map List.toArray).toArray).push b.toArray, ((vs.take x).map fun v => (v, (none : Option Value))) ++ [(v, none)]) = (((bs.take (x + 1)).map List.toArray).toArray, (vs.take (x + 1)).map fun v => (v, none)) := by
 have hbx : x < bs.length := by lia
 have hbe : bs[x] = b := by rw [List.getElem?_eq_getElem hbx] at h1; exact Option.some.inj h1
 rw [List.take_succ_eq_append_getElem hx, List.take_succ_eq_append_getElem hbx, hbe, h2]
 simp
theorem sum_sizes (bs : List (List UInt8)) (k : Nat) : ((bs.map List.toArray).toArray).foldl (fun x1 x2 => x1 + x2.size) k = k + bs.flatten.length := by
 have : ∀ (bs : List (List UInt8)) (k : Nat), (bs.map List.toArray).foldl (fun x1 x2 => x1 + x2.size) k = k + bs.flatten.length := by
  intro bs
  induction bs with
  | nil => intro k; simp
  | cons b bs ih => intro k; rw [List.map_cons, List.foldl_cons, ih]; simp; lia
 simp [this]
theorem jm1 {motive : Array Value -> Type} (vs : List Value) (a : (x : Value) -> motive #[x]) (b : (x : Array Value) -> motive x) (h : ¬ ∃ x, vs = [x]) : PySem.Builtin.Bytes.joinM.match_1 motive vs.toArray a b = b vs.toArray := by
 match vs, h with
 | [], _ => rfl
 | _ :: _ :: _, _ => rfl
 | [x], h => exact absurd ⟨x, rfl⟩ h
theorem bytes_join_tree {prog : Program} {w : World} {A : Around} {E : Value -> Shared -> Prop} {s : Shared} {l : Addr} {o : Obj} {vs : List Value} {n : Nat} {bs : List (List UInt8)} {t : Tok} {P : PySem.Fin -> Shared -> Prop}
  (ho : s.heap.get? l = some o) (hc : o.cls = .type "list") (hd : o.data = .seq vs.toArray n) (hl : vs.length = bs.length) (hb : ∀ i (h : i < vs.length), ∃ b u, bs[i]? = some b /\ vs[i] = .bytes b.toArray u) (hz : bs.flatten.length <= 1000000)
  (h : ∀ u k, P (.done (.ret (.bytes bs.flatten.toArray u))) { s with toks := k }) : wpAny (model prog w) A (Builtin.«bytes.join» ⟨[.bytes #[] t, .ref l], []⟩) P E s := by
 unfold Builtin.«bytes.join» Builtin.Bytes.joinM
 refine wpAny_bind (wpAny_of_eq (a := (.bytes #[] t, .ref l)) rfl ?_)
 dsimp only
 refine wpAny_bind (wpAny_bind (wpAny_typeOf (T := "list") ⟨o, ho, hc⟩ ?_))
 refine wp_pos (by decide) ?_
 refine wpAny_pure (wpAny_bind (seqItems_at ho hd ?_))
 dsimp only
 refine wp_pos (by decide) ?_
 by_cases h1 : ∃ x, vs = [x]
 ·obtain ⟨x, rfl⟩ := h1
  obtain ⟨b, u, h1, h2⟩ := hb 0 (by simp)
  have hbs : bs = [b] := by
   match bs, hl, h1 with
   | [b'], _, h1 => simp at h1; rw [h1]
  subst hbs
  have h2 : x = .bytes b.toArray u := h2
  subst h2
  refine wpAny_bind (wpAny_typeOf (T := "bytes") (typeIs_bytes _ _ _) ?_)
  refine wp_pos (by decide) ?_
  refine wpAny_bind (wpAny_rule (wpAny_pure ?_))
  have := h u s.toks
  rw [show ([b] : List (List UInt8)).flatten = b by simp] at this
  exact this
 ·suffices hs : ∀ (K : Array (Array UInt8) × List (Value × Option Value) -> Sem PySem.Fin) (F : Nat -> Array (Array UInt8) × List (Value × Option Value) -> Sem (ForInStep (Array (Array UInt8) × List (Value × Option Value)))),
    (∀ s', s' = s -> wpAny (model prog w) A (K (((bs).map List.toArray).toArray, vs.map fun v => (v, none))) P E s') ->
    (∀ x (hx : x < vs.length) (Q : _ -> Shared -> Prop), Q (.yield (((bs.take (x + 1)).map List.toArray).toArray, (vs.take (x + 1)).map fun v => (v, none))) s -> wpAny (model prog w) A (F x (((bs.take x).map List.toArray).toArray, (vs.take x).map fun v => (v, none))) Q E s) ->
    wpAny (model prog w) A (forIn [:vs.toArray.size] (#[], []) F >>= K) P E s by
   have fin : ∀ (vs : List Value) s', s' = s -> wpAny (model prog w) A (do
     let result <- Builtin.Bytes.Kind.bytes.new (Builtin.Bytes.joined #[] (bs.map List.toArray))
     holding (result :: List.flatMap (fun (x : Value × Option Value) => x.fst :: x.snd.toList) (vs.map (fun v => (v, none)))) point
     Builtin.Bytes.joinLetGo (vs.map (fun v => (v, none))) [result]
     ret result) P E s' := by
    rintro vs s' rfl
    show wpAny _ _ (mkBytes (Builtin.Bytes.joined #[] (bs.map List.toArray)) >>= _) _ _ _
    rw [joined_nil]
    have e : ((bs.map List.toArray).map (·.toList)).flatten = bs.flatten := by
     rw [List.map_map, show ((fun (x : Array UInt8) => x.toList) ∘ List.toArray) = id from rfl, List.map_id]
    rw [e]
    refine wpAny_bind (wpAny_mkBytes ?_ (by rw [List.size_toArray, sizeLine_eq]; lia))
    exact wpAny_bind (wpAny_holding (wpAny_point (wpAny_bind (joinLetGo_any _ _ (wpAny_pure (h _ _))))))
   rw [jm1 vs _ _ h1]
   refine hs _ _ ?_ ?_
   ·rintro s' rfl
    refine wpAny_bind (wpAny_of_eq (a := #[]) rfl ?_)
    dsimp only
    rw [sum_sizes, if_neg (by rw [KBy.tooLong_not (by rw [List.size_toArray, List.length_nil]; lia)]; decide)]
    exact fin _ s' rfl
   ·intro x hx Q hq
    obtain ⟨b, u, h1, h2⟩ := hb x hx
    refine wpAny_bind (seqItems_at ho hd ?_)
    dsimp only
    rw [if_neg (by rw [any_not hb]; decide), arr_get hx h2]
    refine wpAny_bind (wpAny_holding (wpAny_of_eq take_eq ?_))
    refine wpAny_bind (seqItems_at ho hd ?_)
    dsimp only
    rw [if_neg (by simp), take_more hl hx h1 h2]
    exact wpAny_pure hq
  intro K F hK hF
  refine wpAny_bind ?_
  rw [Std.Legacy.Range.forIn_eq_forIn_range']
  have hsz : ([:vs.toArray.size] : Std.Legacy.Range).size = vs.length := by simp [Std.Legacy.Range.size]
  rw [hsz]
  show wpAny _ _ (forIn (List.range' 0 vs.length 1) _ _) _ _ _
  refine wpAny_forIn_list _ (fun rest (r : Array (Array UInt8) × List (Value × Option Value)) s' => ∃ i, i <= vs.length /\ rest = List.range' i (vs.length - i) 1 /\ s' = s /\ r = (((bs.take i).map List.toArray).toArray, (vs.take i).map fun v => (v, none))) _ ?_ ?_ _ _ ⟨0, Nat.zero_le _, rfl, rfl, rfl⟩
  ·rintro x rest r s' ⟨i, hi, hr, rfl, rfl⟩
   have hi' : i < vs.length := by
    rcases Nat.lt_or_ge i vs.length with q | q
    ·exact q
    ·rw [show vs.length - i = 0 by lia] at hr; cases hr
   rw [show vs.length - i = (vs.length - (i + 1)) + 1 by lia, List.range'_succ] at hr
   injection hr with hx hrest
   subst hx
   exact hF x hi' _ ⟨x + 1, by lia, hrest, rfl, rfl⟩
  ·rintro r s' ⟨i, hi, hr, rfl, rfl⟩
   have hi' : i = vs.length := by
    rcases Nat.lt_or_ge i vs.length with q | q
    ·rw [show vs.length - i = (vs.length - (i + 1)) + 1 by lia, List.range'_succ] at hr; cases hr
    ·lia
   have e1 : bs.take i = bs := by rw [hi', hl, List.take_length]
   have e2 : vs.take i = vs := by rw [hi', List.take_length]
   rw [e1, e2]
   exact hK _ rfl
section
variable {B : Bs} {n : Nat} {σ : Sto}
theorem Meth.join {b : List UInt8} : Meth (.bytes b) (Str.ofString "join") (.builtin "bytes.join") B σ := by
 intro A c u n ok r pl E Q k
 cases r with | bytes _ t => exact PySem.getMethod_builtin (typeIs_bytes _ _ _) FB.plainAttrs_bytes slot_bytes_join type_bytes_join (by intro _ e; cases e) k
theorem CallV.join {bs : List (List UInt8)} (hz : bs.flatten.length <= 1000000) : CallV (.builtin "bytes.join") [.bytes [], .lst (bs.map D.bytes)] (.bytes bs.flatten) B n σ σ := by
 intro A c vs ok r E Q k
 cases r with | cons q r =>
 cases r with | cons r r' =>
 cases r'
 cases q with | bytes _ t =>
 cases r with
 | @lst a o vs m p1 p2 p3 p4 =>
  refine wpAny_call_entry slot_bytes_join (typeIs_bytes _ _ _) entry_bytes_join ?_ (args_bytes_join _ _)
  refine bytes_join_tree (ok.sim.sub _ _ p1) p2 p3 (by rw [p4.length, List.length_map]) (bytes_of_rep p4) hz fun u kk => ⟨_, rfl, ?_⟩
  exact k _ (c.tk kk) (.tk _ _ _) (ok.sim.tk _) (.bytes _ _)
end
end
section
section
variable {B : Bs} {gl : Gl} {n : Nat} {ρ ρ' : Loc} {σ σ' : Sto}
theorem EvT.eq {e : Expr} {b b' : Bool} (h : EvT e b B gl n ρ σ σ') (hb : b = b') : EvT e b' B gl n ρ σ σ' := hb ▸ h
theorem Ev.eq {e : Expr} {d d' : D} (h : Ev e d B gl n ρ σ σ') (hb : d = d') : Ev e d' B gl n ρ σ σ' := hb ▸ h
end
noncomputable def lcp {α : Type} [DecidableEq α] : List α -> List α -> Nat
 | x :: xs, y :: ys => if x = y then lcp xs ys + 1 else 0
 | [], _ | _ :: _, [] => 0
theorem lcp_c {α : Type} [DecidableEq α] {x y : α} {p q : List α} : lcp (x :: p) (y :: q) = if x = y then lcp p q + 1 else 0 := rfl
theorem lcpE {α : Type} [DecidableEq α] : (∀ q : List α, lcp [] q = 0) /\ ∀ (x : α) p, lcp (x :: p) [] = 0 := ⟨fun Z => rfl, fun Z Z => rfl⟩
theorem lcp_le_left {α : Type} [DecidableEq α] : ∀ (p q : List α), lcp p q <= p.length
 | [], _ => by simp [lcpE]
 | _ :: _, [] => by simp [lcpE]
 | x :: xs, y :: ys => by rw [lcp_c]; split; simp [lcp_le_left xs ys]; simp
theorem lcp_le_right {α : Type} [DecidableEq α] : ∀ (p q : List α), lcp p q <= q.length
 | [], _ => by simp [lcpE]
 | _ :: _, [] => by simp [lcpE]
 | x :: xs, y :: ys => by rw [lcp_c]; split; simp [lcp_le_right xs ys]; simp
theorem lcp_in {α : Type} [DecidableEq α] : ∀ {p q : List α} {k : Nat}, k < lcp p q -> ∃ x, p[k]? = some x /\ q[k]? = some x
 | [], q, k, h => by simp [lcpE] at h
 | _ :: _, [], k, h => by simp [lcpE] at h
 | x :: xs, y :: ys, k, h => by
  rw [lcp_c] at h
  split at h
  ·rename_i e
   subst e
   cases k with
   | zero => exact ⟨x, rfl, rfl⟩
   | succ k => exact lcp_in (p := xs) (q := ys) (by lia)
  ·lia
theorem lcp_end {α : Type} [DecidableEq α] : ∀ {p q : List α}, lcp p q < p.length -> lcp p q < q.length -> ∃ x y, p[lcp p q]? = some x /\ q[lcp p q]? = some y /\ x ≠ y
 | [], q, h, _ => by simp [lcpE] at h
 | _ :: _, [], _, h => by simp [lcpE] at h
 | x :: xs, y :: ys, h1, h2 => by
  rw [lcp_c] at h1 h2 ⊢
  split
  ·rename_i e
   rw [if_pos e] at h1 h2
   simp only [List.length_cons] at h1 h2
   exact lcp_end (p := xs) (q := ys) (by lia) (by lia)
  ·rename_i e
   exact ⟨x, y, rfl, rfl, e⟩
theorem Item.path {B : Bs} {n : Nat} {σ : Sto} {p : List Int} {i x : Int} (h0 : 0 <= i) (h : p[i.toNat]? = some x) (hz : p.length <= 1000000) : Item (pathI p) (.int i) (.int x) B n σ :=
 .tup h0 (by rw [List.getElem?_map, h]; rfl) (by rw [List.length_map]; exact hz)
theorem CallV.lenP {B : Bs} {n : Nat} {σ : Sto} {p : List Int} (hz : p.length <= 1000000) : CallV (.builtin "len") [pathI p] (.int p.length) B n σ σ := by
 have := CallV.lenT (B := B) (n := n) (σ := σ) (ds := p.map D.int) (by rw [List.length_map]; exact hz)
 rwa [List.length_map] at this
theorem shared_loop {B : Bs} {n : Nat} {σ : Sto} {p q : List Int} (hp : p.length <= 100000) (hq : q.length <= 100000) : ∀ (m k : Nat), k + m = lcp p q ->
  Wh (loopTgt (sAt 1 (bodyIn (KK B.w) 72))) (loopBody (sAt 1 (bodyIn (KK B.w) 72))) B gl_shared n m .next [(Str.ofString "one", some (pathI p)), (Str.ofString "other", some (pathI q)), (Str.ofString "most", some (.int (min (p.length : Int) (q.length : Int)))), (Str.ofString "many", some (.int k))]
   [(Str.ofString "one", some (pathI p)), (Str.ofString "other", some (pathI q)), (Str.ofString "most", some (.int (min (p.length : Int) (q.length : Int)))), (Str.ofString "many", some (.int (lcp p q : Nat)))] σ σ := by
 have l1 := lcp_le_left p q
 have l2 := lcp_le_right p q
 intro m
 induction m with
 | zero =>
  intro k hk
  obtain rfl : k = lcp p q := by omega
  refine .done ?_
  by_cases h : lcp p q < p.length /\ lcp p q < q.length
  ·refine x2_3 (lcp_end h.1 h.2) fun x y e1 e2 hne => ?_
   refine EvT.eq (EvT.and (y := x == y) (EvT.cmp Ev.name Ev.name .lt) (fun Z => EvT.cmp (Ev.sub Ev.name Ev.name (Item.path (by lia) (by simpa using e1) (by lia))) (Ev.sub Ev.name Ev.name (Item.path (by lia) (by simpa using e2) (by lia))) .eqI) (fun Z => rfl)) ?_
   simp [hne]
  ·have hx : decide (((lcp p q : Nat) : Int) < min (p.length : Int) (q.length : Int)) = false := by simp; lia
   refine EvT.eq (EvT.and (y := true) (EvT.cmp Ev.name Ev.name .lt) (fun h => by rw [hx] at h; cases h) (fun Z => rfl)) ?_
   simp only [hx, Bool.false_and]
 | succ m ih =>
  intro k hk
  refine x1_2 (lcp_in (p := p) (q := q) (k := k) (by lia)) fun x e1 e2 => ?_
  have ih' := ih (k + 1) (by lia)
  rw [show (((k + 1 : Nat)) : Int) = (k : Int) + 1 from rfl] at ih'
  refine .step (σ1 := σ) (σ2 := σ) ?_ ?_ ih'
  ·refine EvT.eq (EvT.and (y := x == x) (EvT.cmp Ev.name Ev.name .lt) (fun Z => EvT.cmp (Ev.sub Ev.name Ev.name (Item.path (by lia) (by simpa using e1) (by lia))) (Ev.sub Ev.name Ev.name (Item.path (by lia) (by simpa using e2) (by lia))) .eqI) (fun Z => rfl)) ?_
   simp; lia
  ·exact Ex.seq (St1.augAdd (by walk_at "v") .cint (by walk_at "v")) .nil
theorem shared_ok {B : Bs} {n : Nat} {σ : Sto} {p q : List Int} (hp : p.length <= 100000) (hq : q.length <= 100000) : Call 72 [pathI p, pathI q] (.int (lcp p q : Nat)) B (n + 1) σ σ := by
 have h0 := shared_loop (B := B) (n := n) (σ := σ) hp hq (lcp p q) 0 (by lia)
 rw [show ((0 : Nat) : Int) = 0 from rfl] at h0
 refine' Call.ret (fn_shared _) (Ex.seq (St1.unpack (Ev.tuple (.cons (Ev.call (Ev.g g_min) .builtin (.cons (Ev.call (Ev.g g_len) .builtin (.cons Ev.name .nil) (CallV.lenP (by lia))) (.cons (Ev.call (Ev.g g_len) .builtin (.cons Ev.name .nil) (CallV.lenP (by lia))) .nil)) .min2) (.cons .cint .nil))) (by walk_at "v") (hw := fun env hk => swapped_or rfl (by decide) env hk)) (Ex.seq (St1.of (StX.while_ h0)) (Ex.ret Ev.name))) rfl
end
section
theorem ups_succ (a s : Int) (m : Nat) : ups a s (m + 1) = .int a :: ups (a + s) s m := by
 unfold ups
 rw [List.range_succ_eq_map, List.map_cons, List.map_map]
 congr 1
 ·simp
 ·refine List.map_congr_left fun k Z => ?_
  show D.int (a + s * ((k + 1 : Nat) : Int)) = _
  rw [Int.natCast_add, Int.mul_add, Int.natCast_one, Int.mul_one]
  congr 1; lia
section
variable {B : Bs} {n : Nat} {σ : Sto}
theorem Bin.addP {p q : List Int} (h : p.length + q.length <= 1000000) : Bin .Add (pathI p) (pathI q) (pathI (p ++ q)) B n σ := by
 unfold pathI
 rw [List.map_append]
 exact .addT (by rw [List.length_map, List.length_map]; exact h)
theorem Its.path {p : List Int} : Its (pathI p) (p.map D.int) := .tup
theorem CallV.tupP {p : List Int} : CallV (.type "tuple") [pathI p] (pathI p) B n σ σ := .tupT
theorem Slc.path {p : List Int} {l u : D} {lo hi : Option Int} (hl : Part l lo) (hu : Part u hi) (hz : p.length <= 1000000) : Slc (pathI p) l u .none (pathI (pick lo hi p)) B n σ := by
 have := Slc.tup (B := B) (n := n) (σ := σ) (ds := p.map D.int) hl hu (by rw [List.length_map]; exact hz)
 unfold pathI pick at *
 rwa [List.length_map, <- List.map_drop, <- List.map_take] at this
theorem Truth.path {p : List Int} (h : p.length <= 1000000) : Truth (pathI p) (!p.isEmpty) B σ := by
 have := Truth.tup (B := B) (σ := σ) (ds := p.map D.int) (by rw [List.length_map]; exact h)
 rwa [List.isEmpty_map] at this
theorem eqDs_path (k : Nat) : ∀ (p q : List Int), EqDs k (p.map D.int) (q.map D.int) (decide (p = q))
 | [], [] => .nil
 | [], _ :: _ => .nc
 | _ :: _, [] => .cn
 | x :: p, y :: q => by
  have h : EqDs k (D.int x :: p.map D.int) (D.int y :: q.map D.int) ((x == y) && decide (p = q)) := .cons .ii (eqDs_path k p q)
  have e : decide (x :: p = y :: q) = ((x == y) && decide (p = q)) := by
   rw [Bool.eq_iff_iff]; simp
  rw [e]; exact h
theorem Cmp.eqP {p q : List Int} : Cmp .Eq (pathI p) (pathI q) (decide (p = q)) B n σ := .eqT (k := 0) (eqDs_path 0 p q)
theorem Cmp.neP {p q : List Int} : Cmp .NotEq (pathI p) (pathI q) (!decide (p = q)) B n σ := .neT (k := 0) (eqDs_path 0 p q)
end
noncomputable def prs : List Int -> List Int
 | a :: b :: r => (16 * a + b) :: prs r
 | [] | [_] => []
theorem prs_c {a b : Int} {r : List Int} : prs (a :: b :: r) = (16 * a + b) :: prs r := rfl
noncomputable def aheadI (p : List Int) (leaf : Bool) : List Int := if p.length % 2 = 1 then [(if leaf then 2 else 0) + 1] else [if leaf then 2 else 0, 0]
noncomputable def packI (p : List Int) (leaf : Bool) : List UInt8 := (prs (aheadI p leaf ++ p)).map fun k => k.toNat.toUInt8
theorem prs_in : ∀ {r : List Int}, (∀ x ∈ r, 0 <= x /\ x <= 15) -> ∀ x ∈ prs r, 0 <= x /\ x < 256
 | [], _, x, hx => nomatch hx
 | [_], _, x, hx => nomatch hx
 | a :: b :: r, h, x, hx => by
  rw [prs_c] at hx
  rcases List.mem_cons.mp hx with rfl | hx
  ·have := h a (by simp)
   have := h b (by simp)
   lia
  ·exact prs_in (fun y hy => h y (by simp [hy])) x hx
theorem prs_length : ∀ {r : List Int} {m : Nat}, r.length = 2 * m -> (prs r).length = m
 | [], m, h => by simp at h; show 0 = m; lia
 | [_], m, h => by simp at h; lia
 | a :: b :: r, m, h => by
  simp only [List.length_cons] at h
  rw [prs_c, List.length_cons, prs_length (m := m - 1) (by lia)]; lia
theorem ahead_in (p : List Int) (leaf : Bool) : ∀ x ∈ aheadI p leaf, 0 <= x /\ x <= 15 := by
 unfold aheadI
 intro x hx
 split at hx <;> cases leaf <;> simp at hx <;> lia
theorem ahead_even (p : List Int) (leaf : Bool) : ∃ m, (aheadI p leaf ++ p).length = 2 * m /\ m <= p.length + 1 := by
 unfold aheadI
 rw [List.length_append]
 by_cases h : p.length % 2 = 1
 ·exact ⟨(p.length + 1) / 2, by rw [if_pos h]; simp; lia, by lia⟩
 ·exact ⟨(p.length + 2) / 2, by rw [if_neg h]; simp; lia, by lia⟩
section
variable {B : Bs} {n : Nat} {σ : Sto}
noncomputable abbrev pkLoc (p : D) (leaf nib flag ahead row found place : Option D) : Loc := [(Str.ofString "nibbles", some p), (Str.ofString "is_leaf", leaf), (Str.ofString "nibble", nib), (Str.ofString "flag", flag), (Str.ofString "ahead", ahead), (Str.ofString "row", row), (Str.ofString "found", found), (Str.ofString "place", place)]
theorem packed_loop1 {p : List Int} {leaf : Option D} {q : D} : ∀ (r : List Int) (o : Option D), (∀ x ∈ r, 0 <= x /\ x <= 15) -> ∃ o',
  ForL (loopTgt (sAt 0 (bodyIn (KK B.w) 79))) (loopBody (sAt 0 (bodyIn (KK B.w) 79))) B gl_packed n (r.map D.int) .next (pkLoc q leaf o none none none none none) (pkLoc q leaf o' none none none none none) σ σ := by
 intro r
 induction r with
 | nil => intro o _; exact ⟨o, .nil⟩
 | cons x r ih =>
  intro o h
  refine x1_1 (ih (some (.int x)) fun y hy => h y (.tail _ hy)) fun o' hl => ?_
  have hx := h x (.head _)
  refine ⟨o', .step (Tgt.name (by walk_at "v")) (Ex.ifF (EvT.eq (EvT.or (y := decide ((15 : Int) < x)) (EvT.cmp Ev.name .cint .lt) (fun Z => EvT.cmp Ev.name .cint .gt) (fun Z => rfl)) ?_) .nil) hl⟩
  simp; lia
theorem packed_loop2 {nib : Option D} {p leaf flag ahead : D} {row : List Int} : ∀ (m k : Nat) (r acc : List Int) (o : Option D), row.drop (2 * k) = r -> r.length = 2 * m -> row.length <= 200000 -> acc.length = k -> ∃ o',
  ForL (loopTgt (sAt 4 (bodyIn (KK B.w) 79))) (loopBody (sAt 4 (bodyIn (KK B.w) 79))) B gl_packed n (ups (2 * (k : Int)) 2 m) .next (pkLoc p leaf nib flag ahead (some (pathI row)) (some (.obj σ.length)) o) (pkLoc p leaf nib flag ahead (some (pathI row)) (some (.obj σ.length)) o') (σ ++ [.lst (acc.map D.int)]) (σ ++ [.lst ((acc ++ prs r).map D.int)]) := by
 intro m
 induction m with
 | zero =>
  intro k r acc o hr hm hz hk
  obtain rfl : r = [] := List.eq_nil_of_length_eq_zero (by lia)
  exact ⟨o, by rw [show prs [] = [] from rfl, List.append_nil]; exact .nil⟩
 | succ m ih =>
  intro k r acc o hr hm hz hk
  match r, hm with
  | a :: b :: r, hm =>
   simp only [List.length_cons] at hm
   refine x0_2 (drop_cons hr) fun e1 e2 => ?_
   refine x0_2 (drop_cons e2) fun e3 e4 => ?_
   have hlen : 2 * k < row.length := (List.getElem?_eq_some_iff.mp e1).1
   refine x1_1 (ih (k + 1) r (acc ++ [16 * a + b]) (some (.int (2 * (k : Int)))) (by rw [<- e4]; congr 1) (by lia) hz (by simp [hk])) fun o' hl => ?_
   rw [show (2 : Int) * ((k + 1 : Nat) : Int) = 2 * (k : Int) + 2 from by lia] at hl
   refine ⟨o', ?_⟩
   rw [ups_succ]
   refine .step (Tgt.name (by walk_at "v")) (Ex.seq (St1.expr (Ev.meth Ev.name (Meth.append get_last) .builtin (.cons (Ev.bin (Ev.bin .cint (Ev.sub Ev.name Ev.name (Item.path (x := a) (by lia) (by rw [<- e1]; congr 1) (by lia))) (.mul (.inl (by decide)))) (Ev.sub Ev.name (Ev.bin Ev.name .cint .add) (Item.path (x := b) (by lia) (by rw [<- e3]; congr 1) (by lia))) .add) .nil) (CallV.appendL (by rw [List.length_map]; lia)))) .nil) ?_
   simpa [prs_c] using hl
theorem no_pylong {x s : Int} (h : s = 2 \/ s = 1 \/ s = -1) : Builtin.divisionGoesByPylong x s = false := by
 unfold Builtin.divisionGoesByPylong
 refine Bool.and_eq_false_iff.mpr (.inl ?_)
 rcases h with rfl | rfl | rfl <;> decide
theorem fitsLong {x : Int} (h1 : -1000000000 <= x) (h2 : x <= 1000000000) : Builtin.Range.rangeFitsLong x = true := by
 unfold Builtin.Range.rangeFitsLong
 rw [Bool.and_eq_true, decide_eq_true_iff, decide_eq_true_iff]
 constructor <;> lia
theorem rsize2 (m : Nat) : (Builtin.Range.rangeSize 0 (2 * (m : Int)) 2).toNat = m := by
 unfold Builtin.Range.rangeSize
 rw [if_pos (by decide)]
 split <;> lia
theorem rsmall2 {m : Nat} (h : m <= 1000000) : Builtin.Range.small 0 (2 * (m : Int)) 2 = true := by
 unfold Builtin.Range.small
 have e : Builtin.Range.rangeSize 0 (2 * (m : Int)) 2 = (m : Int) := by
  unfold Builtin.Range.rangeSize
  rw [if_pos (by decide)]
  split <;> lia
 rw [e, fitsLong (x := 0) (by decide) (by decide), fitsLong (x := 2 * (m : Int)) (by lia) (by lia), fitsLong (x := 2) (by decide) (by decide), fitsLong (x := (m : Int)) (by lia) (by lia), if_pos (by decide), fitsLong (x := 2 * (m : Int) + (2 - 1)) (by lia) (by lia)]
 simp
theorem EvI.range2 {gl : Gl} {ρ : Loc} {σ1 : Sto} {func : Expr} {args : List Expr} {pos : Pos} {m : Nat} (hf : Ev func (.raw (.type "range")) B gl n ρ σ σ) (ha : Evs args [.int 0, .int (2 * (m : Int)), .int 2] B gl n ρ σ σ1) (hm : m <= 1000000)
  (he : ∀ env, eval (.Call func args [] pos) env = (do callWith pos (<- eval func env) [] (backTo pos (starEach args env)) []) := by intro _; rfl) (hst : ∀ env, (backTo pos (starEach args env)).any (fun x => x.1) = false := by intro _; rfl) :
  EvI (.Call func args [] pos) (ups 0 2 m) B gl n ρ σ σ1 := by
 have := EvI.range hf ha (.inr ⟨rfl, by decide, no_pylong (.inl rfl)⟩) (rsmall2 hm) he hst
 rwa [rsize2] at this
theorem EvI.range1 {gl : Gl} {ρ : Loc} {σ1 : Sto} {func : Expr} {args : List Expr} {pos : Pos} {m : Int} (hf : Ev func (.raw (.type "range")) B gl n ρ σ σ) (ha : Evs args [.int m] B gl n ρ σ σ1) (h0 : 0 <= m) (hm : m <= 1000000)
  (he : ∀ env, eval (.Call func args [] pos) env = (do callWith pos (<- eval func env) [] (backTo pos (starEach args env)) []) := by intro _; rfl) (hst : ∀ env, (backTo pos (starEach args env)).any (fun x => x.1) = false := by intro _; rfl) :
  EvI (.Call func args [] pos) (ups 0 1 m.toNat) B gl n ρ σ σ1 := by
 have := EvI.range hf ha (.inl ⟨rfl, rfl, rfl⟩) (small_one (by decide) (by decide) (by lia) (by lia)) he hst
 have e : (Builtin.Range.rangeSize 0 m 1).toNat = m.toNat := by rw [rangeSize_one]; split <;> lia
 rwa [e] at this
theorem rsmallD {m : Nat} (h : m <= 1000000) : Builtin.Range.small (m : Int) (-1) (-1) = true := small_down (by lia) (by lia) (by decide) (by decide)
theorem EvI.rangeD {gl : Gl} {ρ : Loc} {σ1 : Sto} {func : Expr} {args : List Expr} {pos : Pos} {m : Nat} (hf : Ev func (.raw (.type "range")) B gl n ρ σ σ) (ha : Evs args [.int (m : Int), .int (-1), .int (-1)] B gl n ρ σ σ1) (hm : m <= 1000000)
  (he : ∀ env, eval (.Call func args [] pos) env = (do callWith pos (<- eval func env) [] (backTo pos (starEach args env)) []) := by intro _; rfl) (hst : ∀ env, (backTo pos (starEach args env)).any (fun x => x.1) = false := by intro _; rfl) :
  EvI (.Call func args [] pos) (ups (m : Int) (-1) (m + 1)) B gl n ρ σ σ1 := by
 have := EvI.range hf ha (.inr ⟨rfl, by decide, no_pylong (.inr (.inr rfl))⟩) (rsmallD hm) he hst
 have e : (Builtin.Range.rangeSize (m : Int) (-1) (-1)).toNat = m + 1 := by rw [rangeSize_down]; split <;> lia
 rwa [e] at this
theorem packed_ok {p : List Int} {leaf : Bool} (hp : ∀ x ∈ p, 0 <= x /\ x <= 15) (hz : p.length <= 90000) : Call 79 [pathI p, .bool leaf] (.bytes (packI p leaf)) B (n + 1) σ σ := by
 refine x1_1 (packed_loop1 (B := B) (n := n) (σ := σ) (p := p) (leaf := some (.bool leaf)) (q := pathI p) p none hp) fun o1 l1 => ?_
 refine x1_2 (ahead_even p leaf) fun m hm hm2 => ?_
 refine x1_1 (packed_loop2 (B := B) (n := n) (σ := σ) (p := pathI p) (leaf := .bool leaf) (nib := o1) (flag := .int (if leaf then 2 else 0)) (ahead := pathI (aheadI p leaf)) (row := aheadI p leaf ++ p) m 0 (aheadI p leaf ++ p) [] none rfl hm (by lia) rfl) fun o2 l2 => ?_
 have hrow : ∀ x ∈ aheadI p leaf ++ p, 0 <= x /\ x <= 15 := fun x hx => (List.mem_append.mp hx).elim (ahead_in p leaf x) (hp x)
 refine' Call.ret0 (σj := [.lst ((prs (aheadI p leaf ++ p)).map D.int)]) (fn_packed _) (Ex.seq (St1.of (StX.for_ (EvI.val Ev.name .path) l1))
  (Ex.seq (St1.assign (d := .int (if leaf then 2 else 0)) (Ev.ifexp (EvT.val Ev.name .bool) (fun h => Ev.eq (Ev.g g_LEAF) (by rw [h]; rfl)) (fun h => Ev.eq .cint (by rw [h]; rfl))) (by walk_at "v"))
  (Ex.seq (St1.assign (d := pathI (aheadI p leaf)) (Ev.ifexp (EvT.val (Ev.bin (Ev.call (Ev.g g_len) .builtin (.cons Ev.name .nil) (CallV.lenP (by lia))) .cint (.mod (by decide))) .int)
    (fun h => Ev.eq (Ev.tuple (.cons (Ev.bin Ev.name (Ev.g g_ODD) .add) .nil)) ?_) (fun h => Ev.eq (Ev.tuple (.cons Ev.name (.cons .cint .nil))) ?_)) (by walk_at "v"))
  (Ex.seq (St1.unpack (Ev.tuple (.cons (Ev.bin Ev.name (Ev.call (Ev.g g_tuple) .type (.cons Ev.name .nil) .tupP) (Bin.addP ?_)) (.cons (.listM .nil) .nil))) (by walk_at "v") (hw := fun env hk => swapped_or rfl (by decide) env hk))
  (Ex.seq (St1.of (StX.for_ (EvI.range2 (m := m) (Ev.g g_range) (.cons .cint (.cons (Ev.eq (Ev.call (Ev.g g_len) .builtin (.cons Ev.name .nil) (CallV.lenP ?_)) ?_) (.cons .cint .nil))) (by lia)) l2))
  (Ex.ret (Ev.call (Ev.g g_bytes) .type (.cons Ev.name .nil) (CallV.bytO get_last ?_ ?_)))))))) rfl
 ·skip
  have : p.length % 2 = 1 := by
   rw [Int.fmod_eq_emod_of_nonneg _ (by decide)] at h
   have h' : ((p.length : Int) % 2) ≠ 0 := by simpa using h
   lia
  rw [aheadI, if_pos this]
  cases leaf <;> rfl
 ·skip
  have : ¬ p.length % 2 = 1 := by
   rw [Int.fmod_eq_emod_of_nonneg _ (by decide)] at h
   have h' : ((p.length : Int) % 2) = 0 := by simpa using h
   lia
  rw [aheadI, if_neg this]
  cases leaf <;> rfl
 ·rw [List.length_append] at hm; lia
 ·lia
 ·rw [hm]; simp
 ·exact prs_in hrow
 ·rw [prs_length hm]; lia
end
end
section
inductive It where
 | b (x : List UInt8)
 | l (xs : List It)
mutual
noncomputable def itD : It -> D
 | .b x => .bytes x
 | .l xs => .lst (itDs xs)
noncomputable def itDs : List It -> List D
 | [] => []
 | x :: xs => itD x :: itDs xs
end
theorem itDs_0 : itDs [] = [] := rfl
theorem itDs_c {x : It} {xs : List It} : itDs (x :: xs) = itD x :: itDs xs := rfl
theorem itDx_b {x : List UInt8} : itD (.b x) = .bytes x := rfl
theorem itDx_l {xs : List It} : itD (.l xs) = .lst (itDs xs) := rfl
mutual
noncomputable def It.deep : It -> Nat
 | .b _ => 0
 | .l xs => deeps xs + 1
noncomputable def deeps : List It -> Nat
 | [] => 0
 | x :: xs => max x.deep (deeps xs)
end
theorem deeps_0 : deeps [] = 0 := rfl
theorem deeps_c {x : It} {xs : List It} : deeps (x :: xs) = max x.deep (deeps xs) := rfl
theorem deep_b {x : List UInt8} : (It.b x).deep = 0 := rfl
theorem deep_l {xs : List It} : (It.l xs).deep = deeps xs + 1 := rfl
noncomputable def beN (n : Nat) : List UInt8 := (leB ((Builtin.Int.intBits n + 7) / 8) n).reverse
noncomputable def headI (low size : Nat) : List UInt8 := if size <= 55 then [(low + size).toUInt8] else (low + 55 + (beN size).length).toUInt8 :: beN size
mutual
noncomputable def encI : It -> List UInt8
 | .b x => if x.length = 1 /\ (x.getD 0 0).toNat < 128 then x else headI 128 x.length ++ x
 | .l xs => headI 192 (encIs xs).length ++ encIs xs
noncomputable def encIs : List It -> List UInt8
 | [] => []
 | x :: xs => encI x ++ encIs xs
end
theorem encIs_0 : encIs [] = [] := rfl
theorem encIs_c {x : It} {xs : List It} : encIs (x :: xs) = encI x ++ encIs xs := rfl
theorem encI_b {x : List UInt8} : encI (.b x) = (if x.length = 1 /\ (x.getD 0 0).toNat < 128 then x else headI 128 x.length ++ x) := rfl
theorem encI_l {xs : List It} : encI (.l xs) = headI 192 (encIs xs).length ++ encIs xs := rfl
theorem itDs_length : ∀ xs : List It, (itDs xs).length = xs.length
 | [] => by rw [itDs_0]; rfl
 | x :: xs => by rw [itDs_c, List.length_cons, List.length_cons, itDs_length xs]
section
variable {B : Bs} {n : Nat} {σ : Sto}
theorem Cmp.le {i j : Int} : Cmp .LtE (.int i) (.int j) (decide (i <= j)) B n σ := fun A c u v ok p q E Q k => by
 cases p; cases q; exact PyProof.Rows.le_int (k c (.refl _ _) ok.sim)
theorem Cmp.ge {i j : Int} : Cmp .GtE (.int i) (.int j) (decide (j <= i)) B n σ := fun A c u v ok p q E Q k => by
 cases p; cases q; exact PyProof.Rows.ge_int (k c (.refl _ _) ok.sim)
theorem no_pylong8 {x s : Int} (h : (if s == 0 then 0 else s.natAbs.log2 / 30 + 1) <= 300) : Builtin.divisionGoesByPylong x s = false := by
 unfold Builtin.divisionGoesByPylong
 exact Bool.and_eq_false_iff.mpr (.inl (decide_eq_false (Nat.not_lt.mpr h)))
theorem bits_lo {k m : Nat} (h : k < 2 ^ m) : Builtin.Int.intBits (k : Int) <= m := intBits_le_iff.mpr (by simpa using h)
theorem bits_hi (k : Nat) : (k : Int) < 256 ^ ((Builtin.Int.intBits (k : Int) + 7) / 8) := by
 have h := intBits_le_iff.mp (Nat.le_refl (Builtin.Int.intBits (k : Int)))
 rw [Int.natAbs_natCast] at h
 have h2 : k < 2 ^ (8 * ((Builtin.Int.intBits (k : Int) + 7) / 8)) := Nat.lt_of_lt_of_le h (Nat.pow_le_pow_right (by decide) (by lia))
 rw [Nat.pow_mul, show (2 : Nat) ^ 8 = 256 from by decide] at h2
 rw [KTBy.p256]
 exact Int.ofNat_lt.mpr h2
theorem number_octets_ok {k : Nat} (hk : k <= 1000000) : Call 93 [.int k] (.bytes (beN k)) B (n + 1) σ σ := by
 have hb : Builtin.Int.intBits (k : Int) <= 20 := bits_lo (by lia)
 refine' Call.ret (fn_number_octets _) (Ex.ifF (EvT.eq (EvT.cmp Ev.name .cint .lt) ?_)
  (Ex.ret (Ev.meth Ev.name Meth.toBytes .builtin (.cons (Ev.bin (Ev.bin (Ev.meth Ev.name Meth.bitLength .builtin .nil .bitLength) .cint .add) .cint (.floordiv (by decide) (no_pylong8 (by decide)))) (.cons .cstr .nil)) (CallV.toBig (k' := (Builtin.Int.intBits k + 7) / 8) ?_ ?_ ?_ ?_)))) rfl
 ·exact decide_eq_false (by lia)
 ·rw [Int.fdiv_eq_ediv_of_nonneg _ (by decide)]; rfl
 ·lia
 ·lia
 ·exact bits_hi k
theorem beN_length {k : Nat} (hk : k <= 1000000) : (beN k).length <= 3 := by
 have hb : Builtin.Int.intBits (k : Int) <= 20 := bits_lo (by lia)
 unfold beN leB
 rw [List.length_reverse, KTBy.low_length]
 lia
theorem head_ok {low size : Nat} (hk : size <= 1000000) (hl : low <= 192) : Call 100 [.int low, .int size] (.bytes (headI low size)) B (n + 2) σ σ := by
 have h3 := beN_length hk
 by_cases h : size <= 55
 ·rw [headI, if_pos h]
  refine' Call.ret (fn_head _) (Ex.ifT (EvT.eq (EvT.cmp Ev.name (Ev.g g_SHORT) .le) ?_)
   (Ex.ret (Ev.eq (Ev.call (Ev.g g_bytes) .type (.cons (Ev.list (.cons (Ev.bin Ev.name Ev.name .add) .nil)) .nil) (CallV.bytL (ks := [(low : Int) + size]) ?_ (by simp))) ?_))) rfl
  ·exact decide_eq_true (by lia)
  ·intro k hk; rw [List.mem_singleton.mp hk]; lia
  ·rfl
 ·rw [headI, if_neg h]
  refine' Call.ret (fn_head _) (Ex.ifF (EvT.eq (EvT.cmp Ev.name (Ev.g g_SHORT) .le) ?_)
   (Ex.seq (St1.assign (Ev.call (Ev.g g_number_octets) (Keeps'.fn rfl) (.cons Ev.name .nil) (Call.v (number_octets_ok (n := n) hk))) (by walk_at "v"))
   (Ex.ret (Ev.eq (Ev.bin (Ev.call (Ev.g g_bytes) .type (.cons (Ev.list (.cons (Ev.bin (Ev.bin Ev.name (Ev.g g_SHORT) .add) (Ev.call (Ev.g g_len) .builtin (.cons Ev.name .nil) (CallV.lenY (by lia))) .add) .nil)) .nil) (CallV.bytL (ks := [(low : Int) + 55 + ((beN size).length : Nat)]) ?_ (by simp))) Ev.name (.addY ?_)) ?_)))) rfl
  ·exact decide_eq_false (by lia)
  ·intro k hk; rw [List.mem_singleton.mp hk]; lia
  ·simp; lia
  ·rfl
theorem headI_length {low size : Nat} (hk : size <= 1000000) : (headI low size).length <= 4 := by
 have := beN_length hk
 unfold headI
 split <;> simp <;> lia
noncomputable abbrev enLoc (it : D) (d : Int) (body part : Option D) : Loc := [(Str.ofString "item", some it), (Str.ofString "depth", some (.int d)), (Str.ofString "body", body), (Str.ofString "part", part)]
theorem encI_len_l {xs : List It} : (encIs xs).length <= (encI (.l xs)).length := by rw [encI_l, List.length_append]; lia
theorem encIs_cons_len {x : It} {xs : List It} : (encIs (x :: xs)).length = (encI x).length + (encIs xs).length := by rw [encIs_c, List.length_append]
mutual
theorem encoded_at_ok : ∀ (it : It) {d : Int} {n : Nat}, (it.deep : Int) + d <= 60 -> (encI it).length <= 100000 -> it.deep + 3 <= n -> Call 107 [itD it, .int d] (.bytes (encI it)) B n σ σ
 | .b x, d, 0, h1, h2, h3 => by lia
 | .b x, d, 1, h1, h2, h3 => by rw [deep_b] at h3; lia
 | .b x, d, 2, h1, h2, h3 => by rw [deep_b] at h3; lia
 | .b x, d, n + 3, h1, h2, h3 => by
  have hx : x.length <= 100000 := by
   rw [encI_b] at h2
   split at h2
   ·lia
   ·rw [List.length_append] at h2; lia
  have hh := headI_length (low := 128) (size := x.length) (by lia)
  have e1 : ∀ {ρ : Loc} {o : Option D}, Ex (((bodyIn (KK B.w) 107).drop 3)) (.ret (.bytes (encI (.b x)))) B gl_encoded_at (n + 2) (enLoc (.bytes x) d none none) (enLoc (.bytes x) d none none) σ σ := fun {ρ o} => by
   rw [encI_b]
   by_cases h : x.length = 1 /\ (x.getD 0 0).toNat < 128
   ·rw [if_pos h]
    refine' Ex.ifT (EvT.eq (EvT.and (y := decide (((x.getD 0 0).toNat : Int) < 128)) (EvT.cmp (Ev.call (Ev.g g_len) .builtin (.cons Ev.name .nil) (CallV.lenY (by lia))) .cint .eqI) (fun Z => EvT.cmp (Ev.sub Ev.name .cint (.byt (by decide) (by lia) (by lia))) (Ev.g g_OCTETS) .lt) (fun Z => rfl)) ?_)
     (Ex.ret Ev.name)
    rw [h.1]
    simp
    exact_mod_cast h.2
   ·rw [if_neg h]
    refine' Ex.ifF (EvT.eq (EvT.and (y := decide (((x.getD 0 0).toNat : Int) < 128)) (EvT.cmp (Ev.call (Ev.g g_len) .builtin (.cons Ev.name .nil) (CallV.lenY (by lia))) .cint .eqI) (fun e => EvT.cmp (Ev.sub Ev.name .cint (.byt (by decide) (by simp at e; lia) (by lia))) (Ev.g g_OCTETS) .lt) (fun Z => rfl)) ?_)
     (Ex.ret (Ev.bin (Ev.call (Ev.g g_head) (Keeps'.fn rfl) (.cons (Ev.g g_OCTETS) (.cons (Ev.call (Ev.g g_len) .builtin (.cons Ev.name .nil) (CallV.lenY (b := x) (by lia))) .nil)) (Call.v (head_ok (n := n) (low := 128) (size := x.length) (by lia) (by decide)))) Ev.name (.addY ?_)))
    ·rw [Bool.and_eq_false_iff]
     by_cases h1 : x.length = 1
     ·right; exact decide_eq_false (by lia)
     ·left; exact beq_false_of_ne (by lia)
    ·lia
  rw [itDx_b]
  refine' Call.ret (fn_encoded_at _) (Ex.ifF (EvT.eq (EvT.cmp Ev.name (Ev.g g_DEEPEST) .gt) ?_)
   (Ex.ifF (EvT.val (Ev.call (Ev.g g_isinstance) .builtin (.cons Ev.name (.cons (Ev.g g_list) .nil)) .isListY) .bool)
   (Ex.ifF (EvT.not (EvT.val (Ev.call (Ev.g g_isinstance) .builtin (.cons Ev.name (.cons (Ev.g g_bytes) .nil)) .isBytesY) .bool)) (e1 (ρ := []) (o := none))))) rfl
  exact decide_eq_false (by lia)
 | .l xs, d, 0, h1, h2, h3 => by lia
 | .l xs, d, n + 1, h1, h2, h3 => by
  rw [deep_l] at h1 h3
  have hl := @encI_len_l xs
  refine x1_1 (encs_loop (d := d) (n := n) xs [] (itD (.l xs)) none (by lia) (by simp; lia) (by lia)) fun o l => ?_
  refine x1_1 (⟨n - 2, by lia⟩ : ∃ k, n = k + 2) fun n Q => ?_; subst Q
  have hh := headI_length (low := 192) (size := (encIs xs).length) (by lia)
  rw [itDx_l] at l ⊢
  rw [encI_l]
  rw [List.nil_append] at l
  refine' Call.ret (fn_encoded_at _) (Ex.ifF (EvT.eq (EvT.cmp Ev.name (Ev.g g_DEEPEST) .gt) ?_)
   (Ex.ifT (EvT.val (Ev.call (Ev.g g_isinstance) .builtin (.cons Ev.name (.cons (Ev.g g_list) .nil)) .isList) .bool)
   (Ex.seq (St1.assign .cbytes (by walk_at "v"))
   (Ex.seq (St1.of (StX.for_ (EvI.val Ev.name .lst) l))
   (Ex.ret (Ev.bin (Ev.call (Ev.g g_head) (Keeps'.fn rfl) (.cons (Ev.g g_LIST) (.cons (Ev.call (Ev.g g_len) .builtin (.cons Ev.name .nil) (CallV.lenY (by lia))) .nil)) (Call.v (head_ok (n := n) (low := 192) (by lia) (by decide)))) Ev.name (.addY ?_))))))) rfl
  ·exact decide_eq_false (by lia)
  ·lia
theorem encs_loop : ∀ (xs : List It) {d : Int} {n : Nat} (acc : List UInt8) (q : D) (o : Option D), (deeps xs : Int) + d + 1 <= 60 -> acc.length + (encIs xs).length <= 100000 -> deeps xs + 3 <= n -> ∃ o',
  ForL (loopTgt (sAt 1 (loopBody (sAt 1 (bodyIn (KK B.w) 107))))) (loopBody (sAt 1 (loopBody (sAt 1 (bodyIn (KK B.w) 107))))) B gl_encoded_at n (itDs xs) .next (enLoc q d (some (.bytes acc)) o) (enLoc q d (some (.bytes (acc ++ encIs xs))) o') σ σ
 | [], d, n, acc, q, o, h1, h2, h3 => ⟨o, by rw [itDs_0, encIs_0, List.append_nil]; exact .nil⟩
 | x :: xs, d, n, acc, q, o, h1, h2, h3 => by
  rw [deeps_c] at h1 h3
  rw [encIs_cons_len] at h2
  refine x1_1 (encs_loop xs (d := d) (n := n) (acc ++ encI x) q (some (itD x)) (by lia) (by rw [List.length_append]; lia) (by lia)) fun o' l => ?_
  refine ⟨o', ?_⟩
  rw [itDs_c]
  refine .step (Tgt.name (by walk_at "v")) (Ex.seq (St1.assign (Ev.bin Ev.name (Ev.call (Ev.g g_encoded_at) (Keeps'.fn rfl) (.cons Ev.name (.cons (Ev.bin Ev.name .cint .add) .nil)) (Call.v (encoded_at_ok x (d := d + 1) (n := n) (by lia) (by lia) (by lia)))) (.addY ?_)) (by walk_at "v")) .nil) ?_
  ·lia
  ·rw [encIs_c, <- List.append_assoc]; exact l
end
theorem encoded_ok {it : It} (h1 : it.deep <= 60) (h2 : (encI it).length <= 100000) (h3 : it.deep + 4 <= n) : Call 114 [itD it] (.bytes (encI it)) B n σ σ := by
 refine x1_1 (⟨n - 1, by lia⟩ : ∃ k, n = k + 1) fun n Q => ?_; subst Q
 refine' Call.ret (fn_encoded _) (Ex.ret (Ev.call (Ev.g g_encoded_at) (Keeps'.fn rfl) (.cons Ev.name (.cons .cint .nil)) (Call.v (encoded_at_ok it (by lia) h2 (by lia))))) rfl
end
end
section
noncomputable abbrev Pth := List (Fin 16)
noncomputable def toI (p : Pth) : List Int := p.map fun x => (x.val : Int)
noncomputable abbrev pth (p : Pth) : D := pathI (toI p)
theorem toI_length (p : Pth) : (toI p).length = p.length := List.length_map _
theorem toI_in {p : Pth} : ∀ x ∈ toI p, 0 <= x /\ x <= 15 := by
 intro x hx
 refine x1_2 (List.mem_map.mp hx) fun y Z Q => ?_; subst Q
 have := y.isLt
 omega
theorem toI_append (p q : Pth) : toI (p ++ q) = toI p ++ toI q := List.map_append
theorem toI_drop (p : Pth) (k : Nat) : (toI p).drop k = toI (p.drop k) := (List.map_drop ..).symm
theorem toI_take (p : Pth) (k : Nat) : (toI p).take k = toI (p.take k) := (List.map_take ..).symm
theorem toI_inj {p q : Pth} : toI p = toI q ↔ p = q := by
 constructor
 ·intro h
  unfold toI at h
  exact List.map_inj_right (fun x y h => Fin.ext (Int.ofNat.inj h)) |>.mp h
 ·rintro rfl; rfl
theorem toI_cons (x : Fin 16) (p : Pth) : toI (x :: p) = (x.val : Int) :: toI p := rfl
theorem lcp_toI : ∀ (p q : Pth), lcp (toI p) (toI q) = lcp p q
 | [], _ => by simp [toI, lcpE]
 | _ :: _, [] => by simp [toI, lcpE]
 | x :: p, y :: q => by
  rw [toI_cons, toI_cons, lcp_c, lcp_c, lcp_toI p q]
  by_cases h : x = y
  ·rw [if_pos h, if_pos (by rw [h])]
  ·rw [if_neg h, if_neg (show ¬ ((x.val : Int) = (y.val : Int)) from fun e => h (Fin.ext (Int.ofNat.inj e)))]
inductive Nd where
 | nil
 | leaf (p : Pth) (v : List UInt8)
 | ext (p : Pth) (n : Nd)
 | br (ks : Fin 16 -> Nd) (v : List UInt8)
noncomputable def nodeD : Nd -> D
 | .nil => .none
 | .leaf p v => .tup [.str "leaf", pth p, .bytes v]
 | .ext p n => .tup [.str "ext", pth p, nodeD n]
 | .br ks v => .tup [.str "branch", .tup (List.ofFn fun i => nodeD (ks i)), .bytes v]
theorem nodeD_0 : nodeD .nil = (.none) := rfl
theorem nodeD_l {p : Pth} {v : List UInt8} : nodeD (.leaf p v) = (.tup [.str "leaf", pth p, .bytes v]) := rfl
theorem nodeD_e {p : Pth} {n : Nd} : nodeD (.ext p n) = (.tup [.str "ext", pth p, nodeD n]) := rfl
theorem nodeD_b {ks : (_root_.Fin 16 -> Nd)} {v : List UInt8} : nodeD (.br ks v) = (.tup [.str "branch", .tup (List.ofFn fun i => nodeD (ks i)), .bytes v]) := rfl
noncomputable def kidsD (ks : Fin 16 -> Nd) : List D := List.ofFn fun i => nodeD (ks i)
noncomputable abbrev leafD (p : Pth) (v : List UInt8) : D := .tup [.str "leaf", pth p, .bytes v]
noncomputable abbrev extD (p : Pth) (n : Nd) : D := .tup [.str "ext", pth p, nodeD n]
noncomputable abbrev brD (ks : Fin 16 -> Nd) (v : List UInt8) : D := .tup [.str "branch", .tup (kidsD ks), .bytes v]
theorem nodeD_leaf {p : Pth} {v : List UInt8} : nodeD (.leaf p v) = leafD p v := by rw [nodeD_l]
theorem nodeD_ext {p : Pth} {n : Nd} : nodeD (.ext p n) = extD p n := by rw [nodeD_e]
theorem nodeD_br {ks : Fin 16 -> Nd} {v : List UInt8} : nodeD (.br ks v) = brD ks v := by rw [nodeD_b]; rfl
theorem nodeD_nil : nodeD .nil = .none := by rw [nodeD_0]
theorem kidsD_length (ks : Fin 16 -> Nd) : (kidsD ks).length = 16 := List.length_ofFn
theorem kidsD_get (ks : Fin 16 -> Nd) (i : Fin 16) : (kidsD ks)[i.val]? = some (nodeD (ks i)) := by
 unfold kidsD
 rw [List.getElem?_ofFn]
 simp
noncomputable def upd (ks : Fin 16 -> Nd) (i : Fin 16) (x : Nd) : Fin 16 -> Nd := fun j => if j = i then x else ks j
theorem kidsD_set (ks : Fin 16 -> Nd) (i : Fin 16) (x : Nd) : (kidsD ks).set i.val (nodeD x) = kidsD (upd ks i x) := by
 refine List.ext_getElem (by rw [List.length_set, kidsD_length, kidsD_length]) fun j h1 h2 => ?_
 rw [kidsD_length] at h2
 rw [List.getElem_set]
 simp only [kidsD, List.getElem_ofFn, upd]
 by_cases h : i.val = j
 ·rw [if_pos h, if_pos (by exact Fin.ext h.symm)]
 ·rw [if_neg h, if_neg (fun e => h (by rw [<- e]))]
theorem low_nodeD (k : Nat) : ∀ a : Nd, (nodeD a).low k = true
 | .nil => by rw [nodeD_0]; rfl
 | .leaf p v => by rw [nodeD_l]; simp only [lowE, low_pathI]; rfl
 | .ext p n => by rw [nodeD_e]; simp only [lowE, low_pathI, low_nodeD k n]; rfl
 | .br ks v => by
  have h : D.lowL k (List.ofFn fun i => nodeD (ks i)) = true := D.lowL_iff.mpr fun d hd => by
   refine x1_1 (List.mem_ofFn.mp hd) fun i Q => ?_; subst Q
   exact low_nodeD k (ks i)
  rw [nodeD_b]; simp only [lowE, h]; rfl
theorem nodeD_raw {a : Nd} : ∀ w, nodeD a ≠ .raw w := by
 intro w
 cases a <;> exact nofun
noncomputable def Nd.isNil : Nd -> Bool
 | .nil => true
 | .leaf .. | .ext .. | .br .. => false
theorem isNilE : Nd.nil.isNil = true /\ (∀ p v, (Nd.leaf p v).isNil = false) /\ (∀ p a, (Nd.ext p a).isNil = false) /\ ∀ ks v, (Nd.br ks v).isNil = false := ⟨rfl, fun Z Z => rfl, fun Z Z => rfl, fun Z Z => rfl⟩
theorem nodeD_isNone (a : Nd) : (nodeD a).isNone = a.isNil := by cases a <;> rfl
section
variable {B : Bs} {n : Nat} {σ : Sto}
theorem Item.pth {p : Pth} {i : Int} {x : Fin 16} (h0 : 0 <= i) (h : p[i.toNat]? = some x) (hz : p.length <= 1000000) : Item (Pq.pth p) (.int i) (.int x.val) B n σ :=
 .path h0 (by unfold toI; rw [List.getElem?_map, h]; rfl) (by rw [toI_length]; exact hz)
theorem CallV.lenPth {p : Pth} (hz : p.length <= 1000000) : CallV (.builtin "len") [pth p] (.int p.length) B n σ σ := by
 have := CallV.lenP (B := B) (n := n) (σ := σ) (p := toI p) (by rw [toI_length]; exact hz)
 rwa [toI_length] at this
theorem Bin.addPth {p q : Pth} (h : p.length + q.length <= 1000000) : Bin .Add (pth p) (pth q) (pth (p ++ q)) B n σ := by
 unfold pth
 rw [toI_append]
 exact .addP (by rw [toI_length, toI_length]; exact h)
theorem Slc.from {p : Pth} {k : Nat} (hz : p.length <= 1000000) : Slc (pth p) (.int k) .none .none (pth (p.drop k)) B n σ := by
 have := Slc.path (B := B) (n := n) (σ := σ) (p := toI p) (.int (i := k)) .none (by rw [toI_length]; exact hz)
 rw [pick_from (Int.natCast_nonneg k), Int.toNat_natCast, toI_drop] at this
 exact this
theorem Slc.from1 {p : Pth} (hz : p.length <= 1000000) : Slc (pth p) (.int 1) .none .none (pth (p.drop 1)) B n σ := Slc.from (k := 1) hz
theorem Slc.upto {p : Pth} {k : Nat} (hz : p.length <= 1000000) : Slc (pth p) .none (.int k) .none (pth (p.take k)) B n σ := by
 have := Slc.path (B := B) (n := n) (σ := σ) (p := toI p) .none (.int (i := k)) (by rw [toI_length]; exact hz)
 rw [pick_upto (Int.natCast_nonneg k), Int.toNat_natCast, toI_take] at this
 exact this
theorem Truth.pth {p : Pth} (h : p.length <= 1000000) : Truth (Pq.pth p) (!p.isEmpty) B σ := by
 have := Truth.path (B := B) (σ := σ) (p := toI p) (by rw [toI_length]; exact h)
 rw [show (toI p).isEmpty = p.isEmpty from by unfold toI; exact List.isEmpty_map] at this
 exact this
theorem Cmp.eqPth {p q : Pth} : Cmp .Eq (pth p) (pth q) (decide (p = q)) B n σ := by
 have := Cmp.eqP (B := B) (n := n) (σ := σ) (p := toI p) (q := toI q)
 rwa [decide_eq_decide.mpr (toI_inj (p := p) (q := q))] at this
theorem Cmp.nePth {p q : Pth} : Cmp .NotEq (pth p) (pth q) (!decide (p = q)) B n σ := by
 have := Cmp.neP (B := B) (n := n) (σ := σ) (p := toI p) (q := toI q)
 rwa [decide_eq_decide.mpr (toI_inj (p := p) (q := q))] at this
theorem shared_pth {p q : Pth} (hp : p.length <= 100000) (hq : q.length <= 100000) : Call 72 [pth p, pth q] (.int (lcp p q : Nat)) B (n + 1) σ σ := by
 have := shared_ok (B := B) (n := n) (σ := σ) (p := toI p) (q := toI q) (by rw [toI_length]; exact hp) (by rw [toI_length]; exact hq)
 rwa [lcp_toI] at this
end
end
section
noncomputable def Rt (ss : List Stmt) (d : D) (B : Bs) (gl : Gl) (n : Nat) (ρ : Loc) (σ σ' : Sto) : Prop := ∃ ρ', Ex ss (.ret d) B gl n ρ ρ' σ σ'
section
variable {B : Bs} {gl : Gl} {n : Nat} {ρ ρ1 ρ' : Loc} {σ σ1 σ' : Sto} {rest : List Stmt} {d : D}
theorem Rt.seq {s : Stmt} (h : St1 s B gl n ρ ρ1 σ σ1) (hr : Rt rest d B gl n ρ1 σ1 σ') : Rt (s :: rest) d B gl n ρ σ σ' := hr.imp fun Z h' => .seq h h'
theorem Rt.ret {e : Expr} {pos : Pos} (h : Ev e d B gl n ρ σ σ') : Rt (.Return (some e) pos :: rest) d B gl n ρ σ σ' := ⟨ρ, .ret h⟩
theorem Rt.retNone {pos : Pos} : Rt (.Return none pos :: rest) .none B gl n ρ σ σ := ⟨ρ, .retNone⟩
theorem Rt.ifT {test : Expr} {body orelse : List Stmt} {pos : Pos} (h : EvT test true B gl n ρ σ σ1) (hr : Rt (body ++ rest) d B gl n ρ σ1 σ') : Rt (.If test body orelse pos :: rest) d B gl n ρ σ σ' := hr.imp fun Z h' => .ifT h h'
theorem Rt.ifF {test : Expr} {body orelse : List Stmt} {pos : Pos} (h : EvT test false B gl n ρ σ σ1) (hr : Rt (orelse ++ rest) d B gl n ρ σ1 σ') : Rt (.If test body orelse pos :: rest) d B gl n ρ σ σ' := hr.imp fun Z h' => .ifF h h'
theorem Rt.last {s : Stmt} (h : StX s (.ret d) B gl n ρ ρ' σ σ') : Rt (s :: rest) d B gl n ρ σ σ' := ⟨ρ', .last h⟩
theorem Call.rt0 {f : Addr} {names vars : List Str} {args : List D} {σj : Sto} (K : FnAt B.w f names gl vars) (h : Rt (bodyIn (KK B.w) f) d B gl n (locs0 names args vars) σ (σ ++ σj)) (hlow : d.low σ.length = true) (ha : args.length = names.length := by rfl) : Call f args d B (n + 1) σ σ :=
 h.elim fun Z h => .ret0 K h hlow ha
theorem Call.rt {f : Addr} {names vars : List Str} {args : List D} (K : FnAt B.w f names gl vars) (h : Rt (bodyIn (KK B.w) f) d B gl n (locs0 names args vars) σ σ) (hlow : d.low σ.length = true) (ha : args.length = names.length := by rfl) : Call f args d B (n + 1) σ σ :=
 h.elim fun Z h => .ret K h hlow ha
end
section
variable {B : Bs} {n : Nat} {σ : Sto}
theorem Cmp.isS {x y : Str} {b : Bool} (h : (x == y) = b) : Cmp .Eq (.str x) (.str y) b B n σ := h ▸ .eqS
theorem Item.t0 {a b c : D} : Item (.tup [a, b, c]) (.int 0) a B n σ := .tup (by decide) rfl (by simp)
theorem Item.t1 {a b c : D} : Item (.tup [a, b, c]) (.int 1) b B n σ := .tup (by decide) rfl (by simp)
theorem Item.t2 {a b c : D} : Item (.tup [a, b, c]) (.int 2) c B n σ := .tup (by decide) rfl (by simp)
theorem SetI.last {ds : List D} {d : D} {i : Int} (h0 : 0 <= i) (h1 : i.toNat < ds.length) (hz : ds.length <= 1000000) : SetI (.obj σ.length) (.int i) d B n (σ ++ [.lst ds]) (σ ++ [.lst (ds.set i.toNat d)]) := by
 have := SetI.lst (B := B) (n := n) (d := d) (i := i) (get_last (σ := σ) (y := .lst ds)) h0 h1 hz
 rwa [set_last] at this
theorem with_kid_ok {ks : Fin 16 -> Nd} {v : List UInt8} {i : Fin 16} {x : Nd} : Call 121 [brD ks v, .int i.val, nodeD x] (brD (upd ks i x) v) B (n + 1) σ σ := by
 refine' Call.ret0 (σj := [.lst ((kidsD ks).set i.val (nodeD x))]) (fn_with_kid _) (Ex.seq (St1.assign (Ev.call (Ev.g g_list) .type (.cons (Ev.sub Ev.name .cint .t1) .nil) (CallV.lstT (σ := σ) (ds := kidsD ks) ?_)) (by walk_at "v"))
  (Ex.seq (St1.setitem (v := nodeD x) Ev.name Ev.name Ev.name (.last (i := (i.val : Int)) (by lia) ?_ ?_))
  (Ex.ret (Ev.tuple (.cons .cstr (.cons (Ev.eq (Ev.call (Ev.g g_tuple) .type (.cons Ev.name .nil) (CallV.tupO (ds := (kidsD ks).set i.val (nodeD x)) (by exact get_last) ?_)) ?_) (.cons (Ev.sub Ev.name .cint .t2) .nil))))))) ?_
 ·rw [kidsD_length]; decide
 ·rw [kidsD_length]; omega
 ·rw [kidsD_length]; decide
 ·rw [List.length_set, kidsD_length]; decide
 ·rw [kidsD_set]
 ·have := low_nodeD σ.length (.br (upd ks i x) v)
  rwa [nodeD_br] at this
theorem put_br_nil {ks : Fin 16 -> Nd} {v w : List UInt8} : Call 128 [brD ks w, pth [], .bytes v] (brD ks v) B (n + 1) σ σ := by
 refine' Call.ret (fn_put_in_branch _) (Ex.seq (St1.assign (Ev.sub Ev.name .cint .t1) (by walk_at "v"))
  (Ex.ifT (EvT.not (EvT.val Ev.name (Truth.pth (p := []) (by decide)))) (Ex.ret (Ev.tuple (.cons .cstr (.cons Ev.name (.cons Ev.name .nil))))))) ?_
 have := low_nodeD σ.length (.br ks v)
 rwa [nodeD_br] at this
theorem put_br_cons {ks : Fin 16 -> Nd} {v w : List UInt8} {x : Fin 16} {r : Pth} {y : Nd} (hz : r.length <= 100000) (h : Call 142 [nodeD (ks x), pth r, .bytes v] (nodeD y) B (n + 1) σ σ) :
  Call 128 [brD ks w, pth (x :: r), .bytes v] (brD (upd ks x y) w) B (n + 2) σ σ := by
 refine' Call.ret (fn_put_in_branch _) (Ex.seq (St1.assign (Ev.sub Ev.name .cint .t1) (by walk_at "v"))
  (Ex.ifF (EvT.not (EvT.val Ev.name (Truth.pth (p := x :: r) (by simp; lia)))) (Ex.ret (Ev.call (Ev.g g_with_kid) (Keeps'.fn rfl) (.cons Ev.name (.cons (Ev.sub Ev.name .cint (.pth (p := x :: r) (x := x) (by decide) rfl (by simp; lia))) (.cons (Ev.call (Ev.g g_put_in) (Keeps'.fn rfl) (.cons (Ev.sub Ev.name (Ev.sub Ev.name .cint (.pth (p := x :: r) (x := x) (by decide) rfl (by simp; lia))) (.tup (ds := kidsD ks) (by lia) ?_ ?_)) (.cons (Ev.slice Ev.name (.some .cint) .none .none (Slc.from1 (p := x :: r) (by simp; lia))) (.cons Ev.name .nil))) (Call.v h)) .nil))) (Call.v with_kid_ok))))) ?_
 ·exact kidsD_get ks x
 ·rw [kidsD_length]; decide
 ·have := low_nodeD σ.length (.br (upd ks x y) w)
  rwa [nodeD_br] at this
theorem put_nil {p : Pth} {v : List UInt8} : Call 142 [.none, pth p, .bytes v] (leafD p v) B (n + 1) σ σ := by
 refine' Call.ret (fn_put_in _) (Ex.ifT (EvT.cmp Ev.name .cnone (.isN (d := .none))) (Ex.ret (Ev.tuple (.cons .cstr (.cons Ev.name (.cons Ev.name .nil)))))) ?_
 have := low_nodeD σ.length (.leaf p v)
 rwa [nodeD_leaf] at this
end
noncomputable def noKids : Fin 16 -> Nd := fun Z => .nil
theorem kidsD_none : D.tup (List.replicate (16 : Int).toNat .none) = D.tup (kidsD noKids) := by
 unfold kidsD noKids
 simp only [nodeD_nil]
 rfl
noncomputable def forkL : Pth -> List UInt8 -> (Fin 16 -> Nd) × List UInt8
 | [], w => (noKids, w)
 | x :: r, w => (upd noKids x (.leaf r w), [])
noncomputable def forkE : Pth -> Nd -> (Fin 16 -> Nd)
 | [], _ => noKids
 | x :: r, a => upd noKids x (if r.length = 0 then a else .ext r a)
noncomputable def putF (ks : Fin 16 -> Nd) (w : List UInt8) : Pth -> List UInt8 -> Nd
 | [], v => .br ks v
 | x :: r, v => .br (upd ks x (.leaf r v)) w
noncomputable def exts (p : Pth) (a : Nd) : Nd := if p.length = 0 then a else .ext p a
noncomputable def putIn : Nd -> Pth -> List UInt8 -> Nd
 | .nil, p, v => .leaf p v
 | .leaf q w, p, v => if lcp q p = q.length /\ lcp q p = p.length then .leaf p v else exts (p.take (lcp q p)) (putF (forkL (q.drop (lcp q p)) w).1 (forkL (q.drop (lcp q p)) w).2 (p.drop (lcp q p)) v)
 | .ext q a, p, v => if lcp q p = q.length then .ext q (putIn a (p.drop (lcp q p)) v) else exts (p.take (lcp q p)) (putF (forkE (q.drop (lcp q p)) a) [] (p.drop (lcp q p)) v)
 | .br ks w, p, v => match p with
  | [] => .br ks v
  | x :: r => .br (upd ks x (putIn (ks x) r v)) w
theorem putIn_0 {p : Pth} {v : List UInt8} : putIn .nil p v = (.leaf p v) := rfl
theorem putIn_l {q : Pth} {w : List UInt8} {p : Pth} {v : List UInt8} : putIn (.leaf q w) p v = (if lcp q p = q.length /\ lcp q p = p.length then .leaf p v else exts (p.take (lcp q p)) (putF (forkL (q.drop (lcp q p)) w).1 (forkL (q.drop (lcp q p)) w).2 (p.drop (lcp q p)) v)) := rfl
theorem putIn_e {q : Pth} {a : Nd} {p : Pth} {v : List UInt8} : putIn (.ext q a) p v = (if lcp q p = q.length then .ext q (putIn a (p.drop (lcp q p)) v) else exts (p.take (lcp q p)) (putF (forkE (q.drop (lcp q p)) a) [] (p.drop (lcp q p)) v)) := rfl
theorem putIn_b0 {ks : (_root_.Fin 16 -> Nd)} {w : List UInt8} {v : List UInt8} : putIn (.br ks w) [] v = (.br ks v) := rfl
theorem putIn_b1 {ks : (_root_.Fin 16 -> Nd)} {w : List UInt8} {x : _root_.Fin 16} {r : Pth} {v : List UInt8} : putIn (.br ks w) (x :: r) v = (.br (upd ks x (putIn (ks x) r v)) w) := rfl
section
variable {B : Bs} {n : Nat} {σ : Sto}
theorem parted_leaf {q : Pth} {w : List UInt8} {s : Nat} (hq : q.length <= 100000) : Call 135 [leafD q w, .int s] (brD (forkL (q.drop s) w).1 (forkL (q.drop s) w).2) B (n + 3) σ σ := by
 have hd : (q.drop s).length <= 100000 := by rw [List.length_drop]; lia
 have hc : Call 128 [brD noKids [], pth (q.drop s), .bytes w] (brD (forkL (q.drop s) w).1 (forkL (q.drop s) w).2) B (n + 2) σ σ := by
  revert hd
  generalize q.drop s = r
  intro hd
  cases r with
  | nil => exact put_br_nil
  | cons x r => exact put_br_cons (by simp at hd; lia) (by rw [show nodeD (noKids x) = .none from nodeD_nil, nodeD_leaf]; exact put_nil)
 refine' Call.ret (fn_parted _) (Ex.seq (St1.unpack (ds := [.str "leaf", pth q, .bytes w]) Ev.name (by walk_at "v"))
  (Ex.seq (St1.unpack (ds := [pth (q.drop s), brD noKids []]) (Ev.tuple (.cons (Ev.slice Ev.name (.some Ev.name) .none .none (Slc.from (p := q) (k := s) (by lia))) (.cons (Ev.tuple (.cons .cstr (.cons (Ev.eq (Ev.bin (Ev.tuple (.cons .cnone .nil)) .cint (.mulT (by decide) (by decide))) kidsD_none) (.cons (Ev.g g_NOUGHT) .nil)))) .nil))) (by walk_at "v") (hw := fun env hk => swapped_or rfl (by decide) env hk))
  (Ex.ifT (EvT.cmp Ev.name .cstr (.isS (by decide))) (Ex.ret (Ev.call (Ev.g g_put_in_branch) (Keeps'.fn rfl) (.cons Ev.name (.cons Ev.name (.cons Ev.name .nil))) (Call.v hc)))))) ?_
 have := low_nodeD σ.length (.br (forkL (q.drop s) w).1 (forkL (q.drop s) w).2)
 rwa [nodeD_br] at this
theorem parted_ext {q r : Pth} {x : Fin 16} {a : Nd} {s : Nat} (hq : q.length <= 100000) (hr : q.drop s = x :: r) : Call 135 [extD q a, .int s] (brD (forkE (q.drop s) a) []) B (n + 2) σ σ := by
 have hd : (q.drop s).length <= 100000 := by rw [List.length_drop]; lia
 rw [hr] at hd ⊢
 rw [forkE]
 simp only [List.length_cons] at hd
 refine' Call.ret (fn_parted _) (Ex.seq (St1.unpack (ds := [.str "ext", pth q, nodeD a]) Ev.name (by walk_at "v"))
  (Ex.seq (St1.unpack (ds := [pth (x :: r), brD noKids []]) (Ev.tuple (.cons (Ev.slice Ev.name (.some Ev.name) .none .none (hr ▸ Slc.from (p := q) (k := s) (by lia))) (.cons (Ev.tuple (.cons .cstr (.cons (Ev.eq (Ev.bin (Ev.tuple (.cons .cnone .nil)) .cint (.mulT (by decide) (by decide))) kidsD_none) (.cons (Ev.g g_NOUGHT) .nil)))) .nil))) (by walk_at "v") (hw := fun env hk => swapped_or rfl (by decide) env hk))
  (Ex.ifF (EvT.cmp Ev.name .cstr (.isS (by decide))) (Ex.ret (Ev.call (Ev.g g_with_kid) (Keeps'.fn rfl) (.cons Ev.name (.cons (Ev.sub Ev.name .cint (.pth (p := x :: r) (x := x) (by decide) rfl (by simp; lia)))
   (.cons (Ev.ifexp (d := nodeD (if r.length = 0 then a else .ext r a)) (x := decide (r.length = 0)) (EvT.eq (EvT.cmp (Ev.call (Ev.g g_len) .builtin (.cons Ev.name .nil) (CallV.lenPth (p := x :: r) (by simp; lia))) .cint .eqI) ?_) (fun h => Ev.eq (d := nodeD a) Ev.name ?_) (fun h => Ev.eq (Ev.tuple (.cons .cstr (.cons (Ev.slice Ev.name (.some .cint) .none .none (Slc.from1 (p := x :: r) (by simp; lia))) (.cons Ev.name .nil)))) ?_)) .nil))) (Call.v with_kid_ok)))))) ?_
 ·rw [Bool.eq_iff_iff, beq_iff_eq, decide_eq_true_iff, List.length_cons]; lia
 ·rw [if_pos (of_decide_eq_true h)]
 ·rw [if_neg (of_decide_eq_false h), nodeD_ext]; rfl
 ·have := low_nodeD σ.length (.br (upd noKids x (if r.length = 0 then a else .ext r a)) [])
  rwa [nodeD_br] at this
theorem putF_ok {ks : Fin 16 -> Nd} {w v : List UInt8} {p : Pth} (hz : p.length <= 100000) (hk : ∀ x r, p = x :: r -> ks x = .nil) : Call 128 [brD ks w, pth p, .bytes v] (nodeD (putF ks w p v)) B (n + 2) σ σ := by
 cases p with
 | nil => rw [putF, nodeD_br]; exact put_br_nil
 | cons x r =>
  rw [putF, nodeD_br]
  exact put_br_cons (by simp at hz; lia) (by rw [hk x r rfl, nodeD_nil, nodeD_leaf]; exact put_nil)
theorem lcp_fork {q p : Pth} {x y : Fin 16} {r t : Pth} (h1 : q.drop (lcp q p) = x :: r) (h2 : p.drop (lcp q p) = y :: t) : y ≠ x := by
 have l1 : lcp q p < q.length := by
  have := congrArg List.length h1; simp at this; omega
 have l2 : lcp q p < p.length := by
  have := congrArg List.length h2; simp at this; omega
 refine x2_3 (lcp_end l1 l2) fun u v e1 e2 hne => ?_
 refine x0_2 (drop_cons h1) fun d1 Z => ?_
 refine x0_2 (drop_cons h2) fun d2 Z => ?_
 rw [e1] at d1; rw [e2] at d2
 cases d1; cases d2
 exact fun e => hne e.symm
noncomputable abbrev piLoc (nd p v kind way held : D) (same fork : Option D) : Loc := [(Str.ofString "node", some nd), (Str.ofString "path", some p), (Str.ofString "value", some v), (Str.ofString "kind", some kind), (Str.ofString "way", some way), (Str.ofString "held", some held), (Str.ofString "same", same), (Str.ofString "fork", fork)]
theorem put_tail {nd kind way held : D} {ks : Fin 16 -> Nd} {w v : List UInt8} {p : Pth} {s : Nat} {f : Nd} (hp : p.length <= 100000) (hs : s <= p.length) (h1 : Call 135 [nd, .int s] (brD ks w) B n σ σ) (h2 : Call 128 [brD ks w, pth (p.drop s), .bytes v] (nodeD f) B n σ σ) :
  Rt ((bodyIn (KK B.w) 142).drop 5) (nodeD (exts (p.take s) f)) B gl_put_in n (piLoc nd (pth p) (.bytes v) kind way held (some (.int s)) none) σ σ := by
 refine (Rt.seq (St1.assign (Ev.call (Ev.g g_put_in_branch) (Keeps'.fn rfl) (.cons (Ev.call (Ev.g g_parted) (Keeps'.fn rfl) (.cons Ev.name (.cons Ev.name .nil)) (Call.v h1)) (.cons (Ev.slice Ev.name (.some Ev.name) .none .none (Slc.from (p := p) (k := s) (by lia))) (.cons Ev.name .nil))) (Call.v h2)) (by walk_at "v"))
  (Rt.ret (Ev.ifexp (x := decide (s = 0)) (EvT.eq (EvT.cmp Ev.name .cint .eqI) ?_) (fun h => Ev.eq (d := nodeD f) Ev.name ?_) (fun h => Ev.eq (Ev.tuple (.cons .cstr (.cons (Ev.slice Ev.name .none (.some Ev.name) .none (Slc.upto (p := p) (k := s) (by lia))) (.cons Ev.name .nil)))) ?_))))
 ·rw [Bool.eq_iff_iff, beq_iff_eq, decide_eq_true_iff]; lia
 ·rw [exts, if_pos (by rw [List.length_take]; have := of_decide_eq_true h; lia)]
 ·rw [exts, if_neg (by rw [List.length_take]; have := of_decide_eq_false h; lia), nodeD_ext]
theorem put_leaf {q p : Pth} {w v : List UInt8} (hq : q.length <= 100000) (hp : p.length <= 100000) : Call 142 [leafD q w, pth p, .bytes v] (nodeD (putIn (.leaf q w) p v)) B (n + 4) σ σ := by
 have hs := shared_pth (B := B) (n := n + 2) (σ := σ) hq hp
 have hl1 := lcp_le_right q p
 have hl2 := lcp_le_left q p
 refine Call.rt (fn_put_in _) (Rt.ifF (EvT.cmp Ev.name .cnone (.isN (d := leafD q w)))
   (Rt.seq (St1.unpack (ds := [.str "leaf", pth q, .bytes w]) Ev.name (by walk_at "v"))
   (Rt.ifF (EvT.cmp Ev.name .cstr (.isS (by decide)))
   (Rt.seq (St1.assign (Ev.call (Ev.g g_shared) (Keeps'.fn rfl) (.cons Ev.name (.cons Ev.name .nil)) (Call.v hs)) (by walk_at "v")) ?_)))) (low_nodeD _ _)
 have tail : ¬ (lcp q p = q.length /\ lcp q p = p.length) -> Rt ((bodyIn (KK B.w) 142).drop 5) (nodeD (putIn (.leaf q w) p v)) B gl_put_in (n + 3) (piLoc (leafD q w) (pth p) (.bytes v) (.str "leaf") (pth q) (.bytes w) (some (.int (lcp q p))) none) σ σ := fun h => by
  rw [putIn_l, if_neg h]
  refine put_tail (n := n + 3) hp (by lia) (parted_leaf hq) (putF_ok (n := n + 1) (by rw [List.length_drop]; lia) fun x r e => ?_)
  cases e2 : q.drop (lcp q p) with
  | nil => rw [forkL]; rfl
  | cons y t =>
   rw [forkL]
   have := lcp_fork e2 e
   show upd noKids y _ x = _
   rw [upd, if_neg this]; rfl
 by_cases h1 : lcp q p = q.length
 ·refine Rt.ifT (EvT.eq (EvT.cmp Ev.name (Ev.call (Ev.g g_len) .builtin (.cons Ev.name .nil) (CallV.lenPth (p := q) (by lia))) .eqI) (by rw [beq_iff_eq]; lia)) (Rt.ifF (EvT.cmp Ev.name .cstr (.isS (by decide))) ?_)
  by_cases h2 : lcp q p = p.length
  ·rw [putIn_l, if_pos ⟨h1, h2⟩, nodeD_leaf]
   exact Rt.ifT (EvT.eq (EvT.cmp Ev.name (Ev.call (Ev.g g_len) .builtin (.cons Ev.name .nil) (CallV.lenPth (p := p) (by lia))) .eqI) (by rw [beq_iff_eq]; lia)) (Rt.ret (Ev.tuple (.cons .cstr (.cons Ev.name (.cons Ev.name .nil)))))
  ·exact Rt.ifF (EvT.eq (EvT.cmp Ev.name (Ev.call (Ev.g g_len) .builtin (.cons Ev.name .nil) (CallV.lenPth (p := p) (by lia))) .eqI) (beq_false_of_ne (by lia))) (tail fun h => h2 h.2)
 ·exact Rt.ifF (EvT.eq (EvT.cmp Ev.name (Ev.call (Ev.g g_len) .builtin (.cons Ev.name .nil) (CallV.lenPth (p := q) (by lia))) .eqI) (beq_false_of_ne (by lia))) (tail fun h => h1 h.1)
theorem put_ext {q p : Pth} {a : Nd} {v : List UInt8} (hq : q.length <= 100000) (hp : p.length <= 100000) (hc : lcp q p = q.length -> Call 142 [nodeD a, pth (p.drop (lcp q p)), .bytes v] (nodeD (putIn a (p.drop (lcp q p)) v)) B (n + 3) σ σ) :
  Call 142 [extD q a, pth p, .bytes v] (nodeD (putIn (.ext q a) p v)) B (n + 4) σ σ := by
 have hs := shared_pth (B := B) (n := n + 2) (σ := σ) hq hp
 have hl1 := lcp_le_right q p
 have hl2 := lcp_le_left q p
 refine Call.rt (fn_put_in _) (Rt.ifF (EvT.cmp Ev.name .cnone (.isN (d := extD q a)))
   (Rt.seq (St1.unpack (ds := [.str "ext", pth q, nodeD a]) Ev.name (by walk_at "v"))
   (Rt.ifF (EvT.cmp Ev.name .cstr (.isS (by decide)))
   (Rt.seq (St1.assign (Ev.call (Ev.g g_shared) (Keeps'.fn rfl) (.cons Ev.name (.cons Ev.name .nil)) (Call.v hs)) (by walk_at "v")) ?_)))) (low_nodeD _ _)
 by_cases h1 : lcp q p = q.length
 ·rw [putIn_e, if_pos h1, nodeD_ext]
  exact Rt.ifT (EvT.eq (EvT.cmp Ev.name (Ev.call (Ev.g g_len) .builtin (.cons Ev.name .nil) (CallV.lenPth (p := q) (by lia))) .eqI) (by rw [beq_iff_eq]; lia)) (Rt.ifT (EvT.cmp Ev.name .cstr (.isS (by decide)))
   (Rt.ret (Ev.tuple (.cons .cstr (.cons Ev.name (.cons (Ev.call (Ev.g g_put_in) (Keeps'.fn rfl) (.cons Ev.name (.cons (Ev.slice Ev.name (.some Ev.name) .none .none (Slc.from (p := p) (k := lcp q p) (by lia))) (.cons Ev.name .nil))) (Call.v (hc h1))) .nil))))))
 ·refine Rt.ifF (EvT.eq (EvT.cmp Ev.name (Ev.call (Ev.g g_len) .builtin (.cons Ev.name .nil) (CallV.lenPth (p := q) (by lia))) .eqI) (beq_false_of_ne (by lia))) ?_
  rw [putIn_e, if_neg h1]
  have hne : (q.drop (lcp q p)) ≠ [] := fun e => by
   have := congrArg List.length e; simp at this; lia
  refine x2_1 (List.exists_cons_of_ne_nil hne) fun x r e => ?_
  refine put_tail (n := n + 3) hp (by lia) (parted_ext (n := n + 1) hq e) (putF_ok (n := n + 1) (by rw [List.length_drop]; lia) fun y t e3 => ?_)
  rw [e, forkE]
  have := lcp_fork e e3
  show upd noKids x _ y = _
  rw [upd, if_neg this]; rfl
theorem put_br {ks : Fin 16 -> Nd} {w v : List UInt8} {p : Pth} {d : D} (hl : d.low σ.length = true) (h : Call 128 [brD ks w, pth p, .bytes v] d B n σ σ) : Call 142 [brD ks w, pth p, .bytes v] d B (n + 1) σ σ :=
 Call.rt (fn_put_in _) (Rt.ifF (EvT.cmp Ev.name .cnone (.isN (d := brD ks w)))
   (Rt.seq (St1.unpack (ds := [.str "branch", .tup (kidsD ks), .bytes w]) Ev.name (by walk_at "v"))
   (Rt.ifT (EvT.cmp Ev.name .cstr (.isS (by decide))) (Rt.ret (Ev.call (Ev.g g_put_in_branch) (Keeps'.fn rfl) (.cons Ev.name (.cons Ev.name (.cons Ev.name .nil))) (Call.v h)))))) hl
end
noncomputable def fit : Nd -> Nat -> Prop
 | .nil, _ => True
 | .leaf p v, k => p.length <= k /\ v.length <= 100
 | .ext p a, k => 1 <= p.length /\ p.length <= k /\ fit a (k - p.length)
 | .br ks v, k => v.length <= 100 /\ ∀ i, (ks i).isNil = true \/ (1 <= k /\ fit (ks i) (k - 1))
theorem fit_0 {k : Nat} : fit .nil k = (True) := rfl
theorem fit_l {p : Pth} {v : List UInt8} {k : Nat} : fit (.leaf p v) k = (p.length <= k /\ v.length <= 100) := rfl
theorem fit_e {p : Pth} {a : Nd} {k : Nat} : fit (.ext p a) k = (1 <= p.length /\ p.length <= k /\ fit a (k - p.length)) := rfl
theorem fit_b {ks : (_root_.Fin 16 -> Nd)} {v : List UInt8} {k : Nat} : fit (.br ks v) k = (v.length <= 100 /\ ∀ i, (ks i).isNil = true \/ (1 <= k /\ fit (ks i) (k - 1))) := rfl
section
variable {B : Bs} {σ : Sto}
theorem put_in_ok {v : List UInt8} : ∀ (a : Nd) {p : Pth} {k n : Nat}, fit a k -> p.length <= 100000 -> k <= 1000 -> 2 * k + 4 <= n -> Call 142 [nodeD a, pth p, .bytes v] (nodeD (putIn a p v)) B n σ σ
 | .nil, p, k, n, hf, hp, hk, hn => by
  refine x1_1 (⟨n - 1, by lia⟩ : ∃ m, n = m + 1) fun n Q => ?_; subst Q
  rw [nodeD_nil, putIn_0, nodeD_leaf]; exact put_nil
 | .leaf q w, p, k, n, hf, hp, hk, hn => by
  refine x1_1 (⟨n - 4, by lia⟩ : ∃ m, n = m + 4) fun n Q => ?_; subst Q
  rw [fit_l] at hf
  rw [nodeD_leaf]; exact put_leaf (by lia) hp
 | .ext q a, p, k, n, hf, hp, hk, hn => by
  refine x1_1 (⟨n - 4, by lia⟩ : ∃ m, n = m + 4) fun n Q => ?_; subst Q
  rw [fit_e] at hf
  rw [nodeD_ext]
  exact put_ext (by lia) hp fun h => put_in_ok a hf.2.2 (by rw [List.length_drop]; lia) (by lia) (by lia)
 | .br ks w, p, k, n, hf, hp, hk, hn => by
  refine x1_1 (⟨n - 1, by lia⟩ : ∃ m, n = m + 1) fun n Q => ?_; subst Q
  have hl : (nodeD (putIn (.br ks w) p v)).low σ.length = true := low_nodeD _ _
  rw [fit_b] at hf
  rw [nodeD_br]
  refine put_br hl ?_
  cases p with
  | nil =>
   refine x1_1 (⟨n - 1, by lia⟩ : ∃ m, n = m + 1) fun n Q => ?_; subst Q
   rw [putIn_b0, nodeD_br]; exact put_br_nil
  | cons x r =>
   refine x1_1 (⟨n - 2, by lia⟩ : ∃ m, n = m + 2) fun n Q => ?_; subst Q
   rw [putIn_b1, nodeD_br]
   simp only [List.length_cons] at hp
   refine put_br_cons (by lia) ?_
   rcases hf.2 x with h | ⟨h1, h2⟩
   ·have e : ks x = .nil := by cases h' : ks x <;> rw [h'] at h <;> first | rfl | exact nomatch h
    rw [e, nodeD_nil, putIn_0, nodeD_leaf]; exact put_nil
   ·exact put_in_ok (ks x) h2 (by lia) (by lia) (by lia)
end
end
section
noncomputable def ledTo (p : Pth) : Nd -> Nd
 | .nil => .nil
 | .leaf q v => .leaf (p ++ q) v
 | .ext q a => .ext (p ++ q) a
 | .br ks v => exts p (.br ks v)
noncomputable def living (ks : Fin 16 -> Nd) : List (Fin 16) := (List.finRange 16).filter fun i => !(ks i).isNil
noncomputable def settle (ks : Fin 16 -> Nd) (v : List UInt8) : Nd :=
 if v = [] then (match living ks with | [] => .nil | [x] => ledTo [x] (ks x) | _ => .br ks v)
 else (if (living ks).length = 0 then .leaf [] v else .br ks v)
noncomputable def takenOut : Nd -> Pth -> Nd
 | .nil, _ => .nil
 | .leaf q w, p => if q = p then .nil else .leaf q w
 | .ext q a, p => if p.take q.length = q then ledTo q (takenOut a (p.drop q.length)) else .ext q a
 | .br ks w, p => match p with
  | [] => settle ks []
  | x :: r => settle (upd ks x (takenOut (ks x) r)) w
theorem takenOut_0 {p : Pth} : takenOut .nil p = (.nil) := rfl
theorem takenOut_l {q : Pth} {w : List UInt8} {p : Pth} : takenOut (.leaf q w) p = (if q = p then .nil else .leaf q w) := rfl
theorem takenOut_e {q : Pth} {a : Nd} {p : Pth} : takenOut (.ext q a) p = (if p.take q.length = q then ledTo q (takenOut a (p.drop q.length)) else .ext q a) := rfl
theorem takenOut_b0 {ks : (_root_.Fin 16 -> Nd)} {w : List UInt8} : takenOut (.br ks w) [] = (settle ks []) := rfl
theorem takenOut_b1 {ks : (_root_.Fin 16 -> Nd)} {w : List UInt8} {x : _root_.Fin 16} {r : Pth} : takenOut (.br ks w) (x :: r) = (settle (upd ks x (takenOut (ks x) r)) w) := rfl
noncomputable def withValue (a : Nd) (p : Pth) (v : List UInt8) : Nd := if v = [] then takenOut a p else putIn a p v
noncomputable def valueAt : Nd -> Pth -> List UInt8
 | .nil, _ => []
 | .leaf q w, p => if q = p then w else []
 | .ext q a, p => if p.take q.length = q then valueAt a (p.drop q.length) else []
 | .br ks w, p => match p with
  | [] => w
  | x :: r => valueAt (ks x) r
theorem valueAt_0 {p : Pth} : valueAt .nil p = ([]) := rfl
theorem valueAt_l {q : Pth} {w : List UInt8} {p : Pth} : valueAt (.leaf q w) p = (if q = p then w else []) := rfl
theorem valueAt_e {q : Pth} {a : Nd} {p : Pth} : valueAt (.ext q a) p = (if p.take q.length = q then valueAt a (p.drop q.length) else []) := rfl
theorem valueAt_b0 {ks : (_root_.Fin 16 -> Nd)} {w : List UInt8} : valueAt (.br ks w) [] = (w) := rfl
theorem valueAt_b1 {ks : (_root_.Fin 16 -> Nd)} {w : List UInt8} {x : _root_.Fin 16} {r : Pth} : valueAt (.br ks w) (x :: r) = (valueAt (ks x) r) := rfl
noncomputable def itemsN : Nd -> Pth -> List (Pth × List UInt8)
 | .nil, _ => []
 | .leaf p v, q => [(q ++ p, v)]
 | .ext p a, q => itemsN a (q ++ p)
 | .br ks v, q => (if v = [] then [] else [(q, v)]) ++ (List.finRange 16).flatMap fun i => itemsN (ks i) (q ++ [i])
theorem itemsN_0 {q : Pth} : itemsN .nil q = ([]) := rfl
theorem itemsN_l {p : Pth} {v : List UInt8} {q : Pth} : itemsN (.leaf p v) q = ([(q ++ p, v)]) := rfl
theorem itemsN_e {p : Pth} {a : Nd} {q : Pth} : itemsN (.ext p a) q = (itemsN a (q ++ p)) := rfl
theorem itemsN_b {ks : (_root_.Fin 16 -> Nd)} {v : List UInt8} {q : Pth} : itemsN (.br ks v) q = ((if v = [] then [] else [(q, v)]) ++ (List.finRange 16).flatMap fun i => itemsN (ks i) (q ++ [i])) := rfl
section
variable {B : Bs} {n : Nat} {σ : Sto}
theorem led_to_ok {p : Pth} {a : Nd} (hp : p.length <= 100000) (ha : ∀ q w, a = .leaf q w -> q.length <= 100000) (hb : ∀ q b, a = .ext q b -> q.length <= 100000) : Call 149 [pth p, nodeD a] (nodeD (ledTo p a)) B (n + 1) σ σ := by
 have hlow := low_nodeD σ.length (ledTo p a)
 have hp1 : p.length <= 1000000 := by lia
 cases a with
 | nil =>
  rw [ledTo, nodeD_nil] at *
  exact Call.rt (fn_led_to _) (Rt.ifT (EvT.eq (EvT.or (y := true) (EvT.cmp Ev.name .cnone (.isN (d := .none))) (fun h => nomatch h) (fun Z => rfl)) rfl) (Rt.ret Ev.name)) hlow
 | leaf q w =>
  have hq := ha q w rfl
  rw [nodeD_leaf]
  by_cases h : p = []
  ·subst h
   rw [ledTo, List.nil_append, nodeD_leaf] at *
   exact Call.rt (fn_led_to _) (Rt.ifT (EvT.eq (EvT.or (EvT.cmp Ev.name .cnone (.isN (d := leafD q w))) (fun h => EvT.not (EvT.val Ev.name (Truth.pth (p := []) (by decide)))) (fun h => nomatch h)) rfl) (Rt.ret Ev.name)) hlow
  ·have e : (!p.isEmpty) = true := by cases p <;> first | exact absurd rfl h | rfl
   rw [ledTo, nodeD_leaf] at *
   exact Call.rt (fn_led_to _) (Rt.ifF (EvT.eq (EvT.or (EvT.cmp Ev.name .cnone (.isN (d := leafD q w))) (fun h => EvT.not (EvT.val Ev.name (Truth.pth (p := p) hp1))) (fun h => nomatch h)) (by rw [e]; rfl))
    (Rt.seq (St1.unpack (ds := [.str "leaf", pth q, .bytes w]) Ev.name (by walk_at "v"))
    (Rt.ifF (EvT.cmp Ev.name .cstr (.isS (by decide))) (Rt.ret (Ev.tuple (.cons Ev.name (.cons (Ev.bin Ev.name Ev.name (.addPth (by lia))) (.cons Ev.name .nil)))))))) hlow
 | ext q b =>
  have hq := hb q b rfl
  rw [nodeD_ext]
  by_cases h : p = []
  ·subst h
   rw [ledTo, List.nil_append, nodeD_ext] at *
   exact Call.rt (fn_led_to _) (Rt.ifT (EvT.eq (EvT.or (EvT.cmp Ev.name .cnone (.isN (d := extD q b))) (fun h => EvT.not (EvT.val Ev.name (Truth.pth (p := []) (by decide)))) (fun h => nomatch h)) rfl) (Rt.ret Ev.name)) hlow
  ·have e : (!p.isEmpty) = true := by cases p <;> first | exact absurd rfl h | rfl
   rw [ledTo, nodeD_ext] at *
   exact Call.rt (fn_led_to _) (Rt.ifF (EvT.eq (EvT.or (EvT.cmp Ev.name .cnone (.isN (d := extD q b))) (fun h => EvT.not (EvT.val Ev.name (Truth.pth (p := p) hp1))) (fun h => nomatch h)) (by rw [e]; rfl))
    (Rt.seq (St1.unpack (ds := [.str "ext", pth q, nodeD b]) Ev.name (by walk_at "v"))
    (Rt.ifF (EvT.cmp Ev.name .cstr (.isS (by decide))) (Rt.ret (Ev.tuple (.cons Ev.name (.cons (Ev.bin Ev.name Ev.name (.addPth (by lia))) (.cons Ev.name .nil)))))))) hlow
 | br ks w =>
  rw [nodeD_br]
  by_cases h : p = []
  ·subst h
   rw [show ledTo [] (.br ks w) = .br ks w from by simp [ledTo, exts], nodeD_br] at *
   exact Call.rt (fn_led_to _) (Rt.ifT (EvT.eq (EvT.or (EvT.cmp Ev.name .cnone (.isN (d := brD ks w))) (fun h => EvT.not (EvT.val Ev.name (Truth.pth (p := []) (by decide)))) (fun h => nomatch h)) rfl) (Rt.ret Ev.name)) hlow
  ·have e : (!p.isEmpty) = true := by cases p <;> first | exact absurd rfl h | rfl
   rw [ledTo, exts, if_neg (fun e => h (List.eq_nil_of_length_eq_zero e)), nodeD_ext] at *
   exact Call.rt (fn_led_to _) (Rt.ifF (EvT.eq (EvT.or (EvT.cmp Ev.name .cnone (.isN (d := brD ks w))) (fun h => EvT.not (EvT.val Ev.name (Truth.pth (p := p) hp1))) (fun h => nomatch h)) (by rw [e]; rfl))
    (Rt.seq (St1.unpack (ds := [.str "branch", .tup (kidsD ks), .bytes w]) Ev.name (by walk_at "v"))
    (Rt.ifT (EvT.cmp Ev.name .cstr (.isS (by decide))) (Rt.ret (Ev.tuple (.cons .cstr (.cons Ev.name (.cons (Ev.eq (d := brD ks w) Ev.name nodeD_br.symm) .nil)))))))) hlow
theorem ups16 : ups 0 1 (16 : Int).toNat = (List.finRange 16).map fun (i : Fin 16) => .int (i.val : Int) := by
 rfl
noncomputable def compCheck (scope : Scope) (tgts caps : List Str) (gl : Gl) : Bool :=
 scope.kind == .function && (scope.names.all fun x => !(x.2 == .local) || scope.names.lookup x.1 == some .local) && (scope.names.all fun x => !(x.2 == .cell)) &&
  (tgts.all fun x => (relabelN gl scope.names).lookup x == some .local) && (caps.all fun x => (relabelN gl scope.names).lookup x == some .cell && gl.lookup x == some .cell) &&
  ((relabelN gl scope.names).all fun x => !(x.2 == .cell) || caps.contains x.1) && nodupB (tgts ++ caps) && ((tgts ++ caps).all fun x => !(x == ("__debug__" : Str)))
theorem CompOk.of {scope : Scope} {tgts capN : List Str} {caps : List (Str × D)} {gl : Gl} (e : caps.map (fun x => x.1) = capN) (h : compCheck scope tgts capN gl = true) (clos : Clos scope capN) : CompOk scope tgts (caps.map (fun x => x.1)) gl (relabelN gl scope.names) := by
 rw [e]
 unfold compCheck at h
 simp only [Bool.and_eq_true] at h
 obtain ⟨⟨⟨⟨⟨⟨⟨h1, h2⟩, h3⟩, h4⟩, h5⟩, h6⟩, h7⟩, h8⟩ := h
 refine ⟨eq_of_beq h1, fun x hx hk => ?_, fun x hx hk => ?_, rfl, fun x hx => ?_, fun x hx => ?_, fun x hx hk => ?_, nodupB_ok h7, fun x hx => ?_, clos⟩
 ·have := List.all_eq_true.mp h2 x hx
  rw [hk] at this
  simpa using this
 ·have := List.all_eq_true.mp h3 x hx
  rw [hk] at this
  cases this
 ·exact eq_of_beq (List.all_eq_true.mp h4 x hx)
 ·have := List.all_eq_true.mp h5 x hx
  rw [Bool.and_eq_true] at this
  exact ⟨eq_of_beq this.1, eq_of_beq this.2⟩
 ·have := List.all_eq_true.mp h6 x hx
  rw [hk] at this
  exact List.contains_iff_mem.mp (by simpa using this)
 ·have := List.all_eq_true.mp h8 x hx
  simpa using this
noncomputable def short (a : Nd) : Prop := (∀ q w, a = .leaf q w -> q.length <= 100000) /\ (∀ q b, a = .ext q b -> q.length <= 100000)
theorem living_length (ks : Fin 16 -> Nd) : (living ks).length <= 16 := Nat.le_trans (List.length_filter_le _ _) (by simp)
theorem settled_ok {ks : Fin 16 -> Nd} {v : List UInt8} (hs : ∀ i, short (ks i)) : Call 154 [brD ks v] (nodeD (settle ks v)) B (n + 2) σ σ := by
 refine Call.rt (fn_settled _) (Rt.seq (St1.unpack (ds := [.tup (kidsD ks), .bytes v]) (Ev.tuple (.cons (Ev.sub Ev.name .cint .t1) (.cons (Ev.sub Ev.name .cint .t2) .nil))) (by walk_at "v") (hw := fun env hk => swapped_or rfl (by decide) env hk))
  (Rt.seq (St1.comp (σ' := σ) (ds := ups 0 1 (16 : Int).toNat) (es := (living ks).map fun i => .int (i.val : Int)) (tgts := [Str.ofString "nibble"]) (caps := [(Str.ofString "kids", .tup (kidsD ks))]) (.of (capN := [Str.ofString "kids"]) rfl (by decide) (Clos.one rfl)) (EvI.range1 (Ev.g g_range) (.cons .cint .nil) (by decide) (by decide)) (.cons (by walk_at "v") .nil) ?_ (by walk_at "v") (by decide)) ?_)) (low_nodeD _ _)
 ·rw [ups16]
  unfold living
  generalize List.finRange 16 = l
  refine (?_ : ∀ o : Option D, CompL _ _ _ _ _ _ _ _ [(Str.ofString "nibble", o), (Str.ofString "kids", some (.tup (kidsD ks)))] σ σ) none
  induction l with
  | nil => intro o; exact .nil
  | cons i l ih =>
   intro o
   rw [List.filter_cons]
   by_cases h : (ks i).isNil = true
   ·rw [if_neg (by rw [h]; decide)]
    refine .skip (σ1 := σ) (TgtL.name (by walk_at "v")) (.one (EvT.eq (EvT.cmp (Ev.sub Ev.name Ev.name (.tup (i := (i.val : Int)) (ds := kidsD ks) (d := nodeD (ks i)) (by lia) (kidsD_get ks i) (by rw [kidsD_length]; decide))) .cnone (.isNotN (d := nodeD (ks i)) (hr := nodeD_raw))) (by rw [nodeD_isNone, h]; rfl))) (ih _)
   ·rw [if_pos (by simpa using h)]
    refine .keep (σ1 := σ) (TgtL.name (by walk_at "v")) (.one (EvT.eq (EvT.cmp (Ev.sub Ev.name Ev.name (.tup (i := (i.val : Int)) (ds := kidsD ks) (d := nodeD (ks i)) (by lia) (kidsD_get ks i) (by rw [kidsD_length]; decide))) .cnone (.isNotN (d := nodeD (ks i)) (hr := nodeD_raw))) (by rw [nodeD_isNone]; simpa using h))) Ev.name (ih _)
 have hlv := living_length ks
 have hz : ((living ks).map fun (i : Fin 16) => D.int (i.val : Int)).length <= 1000000 := by rw [List.length_map]; lia
 by_cases hv : v = []
 ·refine Rt.ifF (EvT.eq (EvT.cmp Ev.name (Ev.g g_NOUGHT) .neY) (by rw [hv]; rfl)) ?_
  rw [settle, if_pos hv]
  have nolen : (living ks).length ≠ 1 -> EvT (loopTgt (sAt 3 (bodyIn (KK B.w) 154))) false B gl_settled (n + 1) [(Str.ofString "node", some (brD ks v)), (Str.ofString "kids", some (D.tup (kidsD ks))), (Str.ofString "value", some (D.bytes v)), (Str.ofString "lived", some (D.lst (List.map (fun i => D.int i.val) (living ks))))] σ σ := fun h =>
   EvT.eq (EvT.cmp (Ev.call (Ev.g g_len) .builtin (.cons Ev.name .nil) (CallV.lenL hz)) .cint .eqI) (by rw [List.length_map]; exact beq_false_of_ne (by lia))
  have node : (nodeD (.br ks v)) = brD ks v := nodeD_br
  cases e : living ks with
  | nil =>
   rw [e] at nolen hz
   exact Rt.ifF (nolen (by simp)) (Rt.ret (Ev.ifexp (EvT.val Ev.name (Truth.lst hz)) (fun h => nomatch h) (fun Z => Ev.eq .cnone nodeD_nil.symm)))
  | cons x r =>
   cases r with
   | nil =>
    rw [e] at nolen hz
    exact Rt.ifT (EvT.eq (EvT.cmp (Ev.call (Ev.g g_len) .builtin (.cons Ev.name .nil) (CallV.lenL hz)) .cint .eqI) rfl) (Rt.ret (Ev.call (Ev.g g_led_to) (Keeps'.fn rfl) (.cons (Ev.eq (d' := pth [x]) (Ev.tuple (.cons (Ev.sub Ev.name .cint (.lst (ds := [x].map fun (i : Fin 16) => D.int (i.val : Int)) (d := .int x.val) (by decide) rfl hz)) .nil)) rfl) (.cons (Ev.sub Ev.name (Ev.sub Ev.name .cint (.lst (ds := [x].map fun (i : Fin 16) => D.int (i.val : Int)) (d := .int x.val) (by decide) rfl hz)) (.tup (i := (x.val : Int)) (ds := kidsD ks) (d := nodeD (ks x)) (by lia) (kidsD_get ks x) (by rw [kidsD_length]; decide))) .nil)) (Call.v (led_to_ok (n := n) (by simp) (hs x).1 (hs x).2))))
   | cons y r =>
    rw [e] at nolen hz
    exact Rt.ifF (nolen (by simp)) (Rt.ret (Ev.ifexp (EvT.val Ev.name (Truth.lst hz)) (fun Z => Ev.eq Ev.name node.symm) (fun h => nomatch h)))
 ·refine Rt.ifT (EvT.eq (EvT.cmp Ev.name (Ev.g g_NOUGHT) .neY) (by simpa using hv)) (Rt.ret ?_)
  rw [settle, if_neg hv]
  refine Ev.ifexp (x := decide ((living ks).length ≠ 0)) (EvT.eq (EvT.val Ev.name (Truth.lst hz)) ?_) (fun h => Ev.eq (d := brD ks v) Ev.name ?_) (fun h => Ev.eq (Ev.tuple (.cons .cstr (.cons (Ev.eq (d' := pth []) (Ev.tuple .nil) rfl) (.cons Ev.name .nil)))) ?_)
  ·cases living ks <;> simp
  ·rw [if_neg (of_decide_eq_true h), nodeD_br]
  ·rw [if_pos (by simpa using h), nodeD_leaf]
theorem short_of {a : Nd} {k : Nat} (h : fit a k) (hk : k <= 1000) : short a := by
 constructor
 ·rintro q w rfl
  rw [fit_l] at h; lia
 ·rintro q b rfl
  rw [fit_e] at h; lia
theorem fit_le : ∀ {a : Nd} {k m : Nat}, fit a k -> k <= m -> fit a m
 | .nil, _, _, _, _ => trivial
 | .leaf p v, k, m, h, hk => by rw [fit_l] at *; lia
 | .ext p a, k, m, h, hk => by rw [fit_e] at *; exact ⟨h.1, by lia, fit_le h.2.2 (by lia)⟩
 | .br ks v, k, m, h, hk => by
  rw [fit_b] at *
  exact ⟨h.1, fun i => (h.2 i).imp id fun h => ⟨by lia, fit_le h.2 (by lia)⟩⟩
theorem isNil_eq {a : Nd} (h : a.isNil = true) : a = .nil := by cases a <;> first | rfl | exact nomatch h
theorem fit_exts {p : Pth} {a : Nd} {k : Nat} (h : fit a k) : fit (exts p a) (p.length + k) := by
 unfold exts
 split
 ·exact fit_le h (by lia)
 ·rw [fit_e]; exact ⟨by lia, by lia, fit_le h (by lia)⟩
theorem fit_ledTo {p : Pth} {a : Nd} {k : Nat} (h : fit a k) : fit (ledTo p a) (p.length + k) := by
 cases a with
 | nil => trivial
 | leaf q w => rw [ledTo]; rw [fit_l] at *; rw [List.length_append]; lia
 | ext q b =>
  rw [ledTo]; rw [fit_e] at *; rw [List.length_append]
  exact ⟨by lia, by lia, fit_le h.2.2 (by lia)⟩
 | br ks v => rw [ledTo]; exact fit_exts h
theorem fit_settle {ks : Fin 16 -> Nd} {v : List UInt8} {k : Nat} (h : fit (.br ks v) k) : fit (settle ks v) k := by
 unfold settle
 split
 ·cases e : living ks with
  | nil => trivial
  | cons x r =>
   cases r with
   | cons _ _ => exact h
   | nil =>
    have hx : (ks x).isNil = false := by
     have : x ∈ living ks := by rw [e]; exact .head _
     simpa [living] using this
    rw [fit_b] at h
    rcases h.2 x with h' | h'
    ·rw [hx] at h'; cases h'
    ·exact fit_le (fit_ledTo h'.2) (by simp; lia)
 ·split
  ·rw [fit_l] at *; exact ⟨by simp, h.1⟩
  ·exact h
theorem fit_upd {ks : Fin 16 -> Nd} {v : List UInt8} {k : Nat} {x : Fin 16} {b : Nd} (h : fit (.br ks v) k) (hb : b.isNil = true \/ (1 <= k /\ fit b (k - 1))) : fit (.br (upd ks x b) v) k := by
 rw [fit_b] at *
 refine ⟨h.1, fun i => ?_⟩
 unfold upd
 split
 ·exact hb
 ·exact h.2 i
theorem fit_takenOut : ∀ {a : Nd} {p : Pth} {k : Nat}, fit a k -> fit (takenOut a p) k
 | .nil, p, k, h => trivial
 | .leaf q w, p, k, h => by
  rw [takenOut_l]
  split
  ·trivial
  ·exact h
 | .ext q a, p, k, h => by
  rw [takenOut_e]
  split
  ·rw [fit_e] at h
   exact fit_le (fit_ledTo (fit_takenOut (p := p.drop q.length) h.2.2)) (by lia)
  ·exact h
 | .br ks w, p, k, h => by
  cases p with
  | nil =>
   rw [takenOut_b0]
   refine fit_settle ?_
   rw [fit_b] at *
   exact ⟨by simp, h.2⟩
  | cons x r =>
   rw [takenOut_b1]
   refine fit_settle (fit_upd h ?_)
   rw [fit_b] at h
   rcases h.2 x with h' | h'
   ·rw [isNil_eq h', takenOut_0]; exact .inl rfl
   ·exact .inr ⟨h'.1, fit_takenOut h'.2⟩
theorem taken_nil {p : Pth} : Call 161 [.none, pth p] .none B (n + 1) σ σ :=
 Call.rt (fn_taken_out _) (Rt.ifT (EvT.cmp Ev.name .cnone (.isN (d := .none))) (Rt.ret .cnone)) rfl
theorem taken_out_ok : ∀ (a : Nd) {p : Pth} {k n : Nat}, fit a k -> p.length <= 100000 -> k <= 1000 -> 2 * k + 4 <= n -> Call 161 [nodeD a, pth p] (nodeD (takenOut a p)) B n σ σ
 | .nil, p, k, n, hf, hp, hk, hn => by
  refine x1_1 (⟨n - 1, by lia⟩ : ∃ m, n = m + 1) fun n Q => ?_; subst Q
  rw [nodeD_nil, takenOut_0, nodeD_nil]; exact taken_nil
 | .leaf q w, p, k, n, hf, hp, hk, hn => by
  refine x1_1 (⟨n - 4, by lia⟩ : ∃ m, n = m + 4) fun n Q => ?_; subst Q
  have hl := low_nodeD σ.length (takenOut (.leaf q w) p)
  rw [fit_l] at hf
  rw [nodeD_leaf]
  refine Call.rt (fn_taken_out _) (Rt.ifF (EvT.cmp Ev.name .cnone (.isN (d := leafD q w))) (Rt.seq (St1.unpack (ds := [.str "leaf", pth q, .bytes w]) Ev.name (by walk_at "v"))
   (Rt.ifT (EvT.cmp Ev.name .cstr (.isS (by decide))) (Rt.ret (Ev.ifexp (EvT.cmp Ev.name Ev.name .eqPth) (fun h => Ev.eq .cnone ?_) (fun h => Ev.eq (d := leafD q w) Ev.name ?_)))))) hl
  ·rw [takenOut_l, if_pos (of_decide_eq_true h), nodeD_nil]
  ·rw [takenOut_l, if_neg (of_decide_eq_false h), nodeD_leaf]
 | .ext q a, p, k, n, hf, hp, hk, hn => by
  refine x1_1 (⟨n - 4, by lia⟩ : ∃ m, n = m + 4) fun n Q => ?_; subst Q
  have hl := low_nodeD σ.length (takenOut (.ext q a) p)
  rw [fit_e] at hf
  have hs := short_of (fit_takenOut (p := p.drop q.length) hf.2.2) (by lia)
  have ih := taken_out_ok a (p := p.drop q.length) (n := n + 3) hf.2.2 (by rw [List.length_drop]; lia) (by lia) (by lia)
  rw [nodeD_ext]
  refine Call.rt (fn_taken_out _) (Rt.ifF (EvT.cmp Ev.name .cnone (.isN (d := extD q a))) (Rt.seq (St1.unpack (ds := [.str "ext", pth q, nodeD a]) Ev.name (by walk_at "v"))
   (Rt.ifF (EvT.cmp Ev.name .cstr (.isS (by decide))) (Rt.ifT (EvT.cmp Ev.name .cstr (.isS (by decide))) ?_)))) hl
  by_cases h : p.take q.length = q
  ·rw [takenOut_e, if_pos h]
   exact Rt.ifF (EvT.eq (EvT.cmp (Ev.slice Ev.name .none (.some (Ev.call (Ev.g g_len) .builtin (.cons Ev.name .nil) (CallV.lenPth (p := q) (by lia)))) .none (Slc.upto (p := p) (k := q.length) (by lia))) Ev.name (.nePth (p := p.take q.length) (q := q))) (by simpa using h))
    (Rt.ret (Ev.call (Ev.g g_led_to) (Keeps'.fn rfl) (.cons Ev.name (.cons (Ev.call (Ev.g g_taken_out) (Keeps'.fn rfl) (.cons Ev.name (.cons (Ev.slice Ev.name (.some (Ev.call (Ev.g g_len) .builtin (.cons Ev.name .nil) (CallV.lenPth (p := q) (by lia)))) .none .none (Slc.from (p := p) (k := q.length) (by lia))) .nil)) (Call.v ih)) .nil)) (Call.v (led_to_ok (n := n + 2) (by lia) hs.1 hs.2))))
  ·rw [takenOut_e, if_neg h, nodeD_ext]
   exact Rt.ifT (EvT.eq (EvT.cmp (Ev.slice Ev.name .none (.some (Ev.call (Ev.g g_len) .builtin (.cons Ev.name .nil) (CallV.lenPth (p := q) (by lia)))) .none (Slc.upto (p := p) (k := q.length) (by lia))) Ev.name (.nePth (p := p.take q.length) (q := q))) (by simpa using h)) (Rt.ret Ev.name)
 | .br ks w, p, k, n, hf, hp, hk, hn => by
  refine x1_1 (⟨n - 3, by lia⟩ : ∃ m, n = m + 3) fun n Q => ?_; subst Q
  have hl := low_nodeD σ.length (takenOut (.br ks w) p)
  have shk : ∀ {ks : Fin 16 -> Nd} {w : List UInt8}, fit (.br ks w) k -> ∀ i, short (ks i) := fun hf i => by
   rw [fit_b] at hf
   rcases hf.2 i with h | h
   ·rw [isNil_eq h]; exact ⟨nofun, nofun⟩
   ·exact short_of h.2 (by lia)
  have hf2 := hf
  rw [fit_b] at hf
  rw [nodeD_br]
  refine Call.rt (fn_taken_out _) (Rt.ifF (EvT.cmp Ev.name .cnone (.isN (d := brD ks w))) (Rt.seq (St1.unpack (ds := [.str "branch", .tup (kidsD ks), .bytes w]) Ev.name (by walk_at "v"))
   (Rt.ifF (EvT.cmp Ev.name .cstr (.isS (by decide))) (Rt.ifF (EvT.cmp Ev.name .cstr (.isS (by decide))) ?_)))) hl
  cases p with
  | nil =>
   rw [takenOut_b0]
   exact Rt.ifT (EvT.not (EvT.val Ev.name (Truth.pth (p := []) (by decide)))) (Rt.ret (Ev.call (Ev.g g_settled) (Keeps'.fn rfl) (.cons (Ev.tuple (.cons .cstr (.cons Ev.name (.cons (Ev.g g_NOUGHT) .nil)))) .nil) (Call.v (settled_ok (n := n) (shk hf2)))))
  | cons x r =>
   simp only [List.length_cons] at hp
   rw [takenOut_b1]
   have ih : Call 161 [nodeD (ks x), pth r] (nodeD (takenOut (ks x) r)) B (n + 2) σ σ := by
    rcases hf.2 x with h | ⟨h1, h2⟩
    ·rw [isNil_eq h, takenOut_0, nodeD_nil]; exact taken_nil
    ·exact taken_out_ok (ks x) h2 (by lia) (by lia) (by lia)
   have hf3 : fit (.br (upd ks x (takenOut (ks x) r)) w) k := fit_upd hf2 ((hf.2 x).imp (fun h => by rw [isNil_eq h, takenOut_0]; rfl) fun h => ⟨h.1, fit_takenOut h.2⟩)
   exact Rt.ifF (EvT.not (EvT.val Ev.name (Truth.pth (p := x :: r) (by simp; lia)))) (Rt.ret (Ev.call (Ev.g g_settled) (Keeps'.fn rfl) (.cons (Ev.call (Ev.g g_with_kid) (Keeps'.fn rfl) (.cons Ev.name (.cons (Ev.sub Ev.name .cint (.pth (p := x :: r) (x := x) (by decide) rfl (by simp; lia)))
    (.cons (Ev.call (Ev.g g_taken_out) (Keeps'.fn rfl) (.cons (Ev.sub Ev.name (Ev.sub Ev.name .cint (.pth (p := x :: r) (x := x) (by decide) rfl (by simp; lia))) (.tup (i := (x.val : Int)) (ds := kidsD ks) (d := nodeD (ks x)) (by lia) (kidsD_get ks x) (by rw [kidsD_length]; decide))) (.cons (Ev.slice Ev.name (.some .cint) .none .none (Slc.from1 (p := x :: r) (by simp; lia))) .nil)) (Call.v ih)) .nil))) (Call.v (with_kid_ok (n := n + 1)))) .nil) (Call.v (settled_ok (n := n) (shk hf3)))))
theorem with_value_ok {a : Nd} {p : Pth} {v : List UInt8} {k : Nat} (hf : fit a k) (hp : p.length <= 100000) (hk : k <= 1000) (hn : 2 * k + 4 <= n) : Call 168 [nodeD a, pth p, .bytes v] (nodeD (withValue a p v)) B (n + 1) σ σ := by
 refine Call.rt (fn_with_value _) (Rt.ret (Ev.ifexp (EvT.cmp Ev.name (Ev.g g_NOUGHT) .eqY) (fun h => Ev.eq (Ev.call (Ev.g g_taken_out) (Keeps'.fn rfl) (.cons Ev.name (.cons Ev.name .nil)) (Call.v (taken_out_ok a hf hp hk hn))) ?_) (fun h => Ev.eq (Ev.call (Ev.g g_put_in) (Keeps'.fn rfl) (.cons Ev.name (.cons Ev.name (.cons Ev.name .nil))) (Call.v (put_in_ok a hf hp hk hn))) ?_))) (low_nodeD _ _)
 ·rw [withValue, if_pos (by simpa using h)]
 ·rw [withValue, if_neg (by simpa using h)]
end
end
section
section
variable {B : Bs} {n : Nat} {σ : Sto}
noncomputable abbrev stepD (v nd : D) (p : Pth) : D := .tup [v, nd, pth p]
theorem step_leaf {q p : Pth} {w : List UInt8} : Call 175 [leafD q w, pth p] (stepD (.bytes (valueAt (.leaf q w) p)) .none []) B (n + 1) σ σ := by
 refine Call.rt (fn_step_down _) (Rt.seq (St1.unpack (ds := [.str "leaf", pth q, .bytes w]) Ev.name (by walk_at "v"))
  (Rt.ifT (EvT.cmp Ev.name .cstr (.isS (by decide))) (Rt.ret (Ev.tuple (.cons (Ev.ifexp (EvT.cmp Ev.name Ev.name .eqPth) (fun h => Ev.eq (d := .bytes w) Ev.name ?_) (fun h => Ev.eq (Ev.g g_NOUGHT) ?_)) (.cons .cnone (.cons (Ev.eq (d' := pth []) (Ev.tuple .nil) rfl) .nil))))))) rfl
 ·rw [valueAt_l, if_pos (of_decide_eq_true h)]
 ·rw [valueAt_l, if_neg (of_decide_eq_false h)]
theorem step_ext_off {q p : Pth} {a : Nd} (hp : p.length <= 100000) (hq : q.length <= 100000) (h : p.take q.length ≠ q) : Call 175 [extD q a, pth p] (stepD (.bytes []) .none []) B (n + 1) σ σ :=
 Call.rt (fn_step_down _) (Rt.seq (St1.unpack (ds := [.str "ext", pth q, nodeD a]) Ev.name (by walk_at "v"))
  (Rt.ifF (EvT.cmp Ev.name .cstr (.isS (by decide))) (Rt.ifT (EvT.cmp Ev.name .cstr (.isS (by decide)))
  (Rt.ifT (EvT.eq (EvT.cmp (Ev.slice Ev.name .none (.some (Ev.call (Ev.g g_len) .builtin (.cons Ev.name .nil) (CallV.lenPth (p := q) (by lia)))) .none (Slc.upto (p := p) (k := q.length) (by lia))) Ev.name (.nePth (p := p.take q.length) (q := q))) (by simpa using h))
   (Rt.ret (Ev.tuple (.cons (Ev.g g_NOUGHT) (.cons .cnone (.cons (Ev.eq (d' := pth []) (Ev.tuple .nil) rfl) .nil))))))))) rfl
theorem low_step {v : D} {a : Nd} {p : Pth} {k : Nat} (h : v.low k = true) : (stepD v (nodeD a) p).low k = true := by
 simp only [lowE, h, low_nodeD, low_pathI]; rfl
theorem step_ext_on {q p : Pth} {a : Nd} (hp : p.length <= 100000) (hq : q.length <= 100000) (h : p.take q.length = q) : Call 175 [extD q a, pth p] (stepD .none (nodeD a) (p.drop q.length)) B (n + 1) σ σ :=
 Call.rt (fn_step_down _) (Rt.seq (St1.unpack (ds := [.str "ext", pth q, nodeD a]) Ev.name (by walk_at "v"))
  (Rt.ifF (EvT.cmp Ev.name .cstr (.isS (by decide))) (Rt.ifT (EvT.cmp Ev.name .cstr (.isS (by decide)))
  (Rt.ifF (EvT.eq (EvT.cmp (Ev.slice Ev.name .none (.some (Ev.call (Ev.g g_len) .builtin (.cons Ev.name .nil) (CallV.lenPth (p := q) (by lia)))) .none (Slc.upto (p := p) (k := q.length) (by lia))) Ev.name (.nePth (p := p.take q.length) (q := q))) (by simpa using h))
   (Rt.ret (Ev.tuple (.cons .cnone (.cons Ev.name (.cons (Ev.slice Ev.name (.some (Ev.call (Ev.g g_len) .builtin (.cons Ev.name .nil) (CallV.lenPth (p := q) (by lia)))) .none .none (Slc.from (p := p) (k := q.length) (by lia))) .nil)))))))) ) (low_step rfl)
theorem step_br_nil {ks : Fin 16 -> Nd} {w : List UInt8} : Call 175 [brD ks w, pth []] (stepD (.bytes w) .none []) B (n + 1) σ σ :=
 Call.rt (fn_step_down _) (Rt.seq (St1.unpack (ds := [.str "branch", .tup (kidsD ks), .bytes w]) Ev.name (by walk_at "v"))
  (Rt.ifF (EvT.cmp Ev.name .cstr (.isS (by decide))) (Rt.ifF (EvT.cmp Ev.name .cstr (.isS (by decide)))
  (Rt.ifT (EvT.not (EvT.val Ev.name (Truth.pth (p := []) (by decide)))) (Rt.ret (Ev.tuple (.cons Ev.name (.cons .cnone (.cons (Ev.eq (d' := pth []) (Ev.tuple .nil) rfl) .nil))))))))) rfl
theorem step_br_cons {ks : Fin 16 -> Nd} {w : List UInt8} {x : Fin 16} {r : Pth} (hp : r.length <= 100000) : Call 175 [brD ks w, pth (x :: r)] (stepD .none (nodeD (ks x)) r) B (n + 1) σ σ :=
 Call.rt (fn_step_down _) (Rt.seq (St1.unpack (ds := [.str "branch", .tup (kidsD ks), .bytes w]) Ev.name (by walk_at "v"))
  (Rt.ifF (EvT.cmp Ev.name .cstr (.isS (by decide))) (Rt.ifF (EvT.cmp Ev.name .cstr (.isS (by decide)))
  (Rt.ifF (EvT.not (EvT.val Ev.name (Truth.pth (p := x :: r) (by simp; lia)))) (Rt.ret (Ev.tuple (.cons .cnone (.cons (Ev.sub Ev.name (Ev.sub Ev.name .cint (.pth (p := x :: r) (x := x) (by decide) rfl (by simp; lia))) (.tup (i := (x.val : Int)) (ds := kidsD ks) (d := nodeD (ks x)) (by lia) (kidsD_get ks x) (by rw [kidsD_length]; decide))) (.cons (Ev.slice Ev.name (.some .cint) .none .none (Slc.from1 (p := x :: r) (by simp; lia))) .nil))))))))) (low_step rfl)
noncomputable abbrev vaLoc (nd p : D) (v : Option D) : Loc := [(Str.ofString "node", some nd), (Str.ofString "path", some p), (Str.ofString "value", v)]
noncomputable abbrev vaT (w : World) : Expr := loopTgt (sAt 0 (bodyIn (KK w) 182))
noncomputable abbrev vaB (w : World) : List Stmt := loopBody (sAt 0 (bodyIn (KK w) 182))
theorem va_step {nd : Nd} {p q : Pth} {b : Nd} {v : Option D} {k : Nat} {fl : Fl} {ρ' : Loc} (hn : nd.isNil = false) (h : Call 175 [nodeD nd, pth p] (stepD .none (nodeD b) q) B n σ σ) (hw : Wh (vaT B.w) (vaB B.w) B gl_value_at n k fl (vaLoc (nodeD b) (pth q) (some .none)) ρ' σ σ) :
  Wh (vaT B.w) (vaB B.w) B gl_value_at n (k + 1) fl (vaLoc (nodeD nd) (pth p) v) ρ' σ σ :=
 .step (σ1 := σ) (σ2 := σ) (EvT.eq (EvT.cmp Ev.name .cnone (.isNotN (d := nodeD nd) (hr := nodeD_raw))) (by rw [nodeD_isNone, hn]; rfl))
  (Ex.seq (St1.unpack (ds := [.none, nodeD b, pth q]) (Ev.call (Ev.g g_step_down) (Keeps'.fn rfl) (.cons Ev.name (.cons Ev.name .nil)) (Call.v h)) (by walk_at "v"))
  (Ex.ifF (EvT.cmp Ev.name .cnone (.isNotN (d := .none))) .nil)) hw
theorem va_ret {nd : Nd} {p : Pth} {r : List UInt8} {v : Option D} (hn : nd.isNil = false) (h : Call 175 [nodeD nd, pth p] (stepD (.bytes r) .none []) B n σ σ) :
  ∃ ρ', Wh (vaT B.w) (vaB B.w) B gl_value_at n 0 (.ret (.bytes r)) (vaLoc (nodeD nd) (pth p) v) ρ' σ σ :=
 ⟨_, .ret (σ1 := σ) (EvT.eq (EvT.cmp Ev.name .cnone (.isNotN (d := nodeD nd) (hr := nodeD_raw))) (by rw [nodeD_isNone, hn]; rfl))
  (Ex.seq (St1.unpack (ds := [.bytes r, .none, pth []]) (Ev.call (Ev.g g_step_down) (Keeps'.fn rfl) (.cons Ev.name (.cons Ev.name .nil)) (Call.v h)) (by walk_at "v"))
  (Ex.ifT (EvT.cmp Ev.name .cnone (.isNotN (d := .bytes r))) (Ex.ret Ev.name)))⟩
theorem va_loop : ∀ (a : Nd) {p : Pth} {k n : Nat} (v : Option D), fit a k -> k <= 1000 -> p.length <= 100000 -> ∃ m ρ', Wh (vaT B.w) (vaB B.w) B gl_value_at (n + 1) m (.ret (.bytes (valueAt a p))) (vaLoc (nodeD a) (pth p) v) ρ' σ σ \/ (valueAt a p = [] /\ Wh (vaT B.w) (vaB B.w) B gl_value_at (n + 1) m .next (vaLoc (nodeD a) (pth p) v) ρ' σ σ)
 | .nil, p, k, n, v, hf, hk, hp => by
  refine ⟨0, vaLoc .none (pth p) v, .inr ⟨by rw [valueAt_0], ?_⟩⟩
  rw [nodeD_nil]
  exact .done (EvT.cmp Ev.name .cnone (.isNotN (d := .none)))
 | .leaf q w, p, k, n, v, hf, hk, hp => by
  refine x1_1 (va_ret (B := B) (σ := σ) (nd := .leaf q w) (v := v) rfl (by rw [nodeD_leaf]; exact step_leaf (p := p) (n := n))) fun ρ' h => ?_
  exact ⟨_, _, .inl h⟩
 | .ext q a, p, k, n, v, hf, hk, hp => by
  rw [fit_e] at hf
  by_cases h : p.take q.length = q
  ·refine x2_1 (va_loop a (p := p.drop q.length) (n := n) (some .none) hf.2.2 (by lia) (by rw [List.length_drop]; lia)) fun m ρ' ih => ?_
   have hs : Call 175 [nodeD (.ext q a), pth p] (stepD .none (nodeD a) (p.drop q.length)) B (n + 1) σ σ := by rw [nodeD_ext]; exact step_ext_on hp (by lia) h
   have e : valueAt (.ext q a) p = valueAt a (p.drop q.length) := by rw [valueAt_e, if_pos h]
   rw [e]
   exact ⟨m + 1, ρ', ih.imp (va_step rfl hs) fun h => ⟨h.1, va_step rfl hs h.2⟩⟩
  ·refine x1_1 (va_ret (B := B) (σ := σ) (nd := .ext q a) (v := v) rfl (by rw [nodeD_ext]; exact step_ext_off (p := p) (n := n) hp (by lia) h)) fun ρ' h' => ?_
   have e : valueAt (.ext q a) p = [] := by rw [valueAt_e, if_neg h]
   rw [e]
   exact ⟨_, _, .inl h'⟩
 | .br ks w, p, k, n, v, hf, hk, hp => by
  rw [fit_b] at hf
  cases p with
  | nil =>
   refine x1_1 (va_ret (B := B) (σ := σ) (nd := .br ks w) (v := v) rfl (by rw [nodeD_br]; exact step_br_nil (n := n))) fun ρ' h => ?_
   exact ⟨_, _, .inl (by rw [valueAt_b0]; exact h)⟩
  | cons x r =>
   simp only [List.length_cons] at hp
   have hs : Call 175 [nodeD (.br ks w), pth (x :: r)] (stepD .none (nodeD (ks x)) r) B (n + 1) σ σ := by rw [nodeD_br]; exact step_br_cons (by lia)
   rw [valueAt_b1]
   have hf' : fit (ks x) (k - 1) := (hf.2 x).elim (fun h => by rw [isNil_eq h]; trivial) fun h => h.2
   refine x2_1 (va_loop (ks x) (p := r) (n := n) (some .none) hf' (by lia) (by lia)) fun m ρ' ih => ?_
   exact ⟨m + 1, ρ', ih.imp (va_step rfl hs) fun h => ⟨h.1, va_step rfl hs h.2⟩⟩
theorem value_at_ok {a : Nd} {p : Pth} {k : Nat} (hf : fit a k) (hk : k <= 1000) (hp : p.length <= 100000) : Call 182 [nodeD a, pth p] (.bytes (valueAt a p)) B (n + 2) σ σ := by
 refine x2_1 (va_loop (B := B) (σ := σ) a (p := p) (n := n) none hf hk hp) fun m ρ' h => ?_
 rcases h with h | ⟨e, h⟩
 ·exact Call.rt (fn_value_at _) (Rt.last (StX.while_ h)) rfl
 ·rw [e]
  exact Call.rt (fn_value_at _) (Rt.seq (St1.of (StX.while_ h)) (Rt.ret (Ev.g g_NOUGHT))) rfl
noncomputable abbrev rowD (r : Pth × List UInt8) : D := .tup [pth r.1, .bytes r.2]
theorem low_at {x : Nat} {y : Cell} {k : Nat} (h : Sto.low k σ) (hx : σ[x]? = some y) : y.low k = true := h y (List.mem_of_getElem? hx)
theorem Call.set {f : Addr} {names vars : List Str} {gl : Gl} {args : List D} {d : D} {fl : Fl} {ρ' : Loc} {x : Nat} {y : Cell} {σj : Sto} (K : FnAt B.w f names gl vars) (h : Ex (bodyIn (KK B.w) f) fl B gl n (locs0 names args vars) ρ' σ (σ.set x y ++ σj)) (hlow : d.low σ.length = true)
  (hy : Sto.low σ.length σ -> y.low σ.length = true) (hd : resOf fl = d := by rfl) (ha : args.length = names.length := by rfl) : Call f args d B (n + 1) σ (σ.set x y) := by
 have hl : (σ.set x y).length = σ.length := List.length_set
 refine Call.at K h ha hd (by rw [hl]; exact Nat.le_refl _) (by rw [hl]; exact hlow) fun hs => ?_
 rw [hl]
 intro z hz
 rcases List.mem_or_eq_of_mem_set hz with h' | rfl
 ·exact hs z h'
 ·exact hy hs
theorem Call.set0 {f : Addr} {names vars : List Str} {gl : Gl} {args : List D} {d : D} {fl : Fl} {ρ' : Loc} {x : Nat} {y : Cell} (K : FnAt B.w f names gl vars) (h : Ex (bodyIn (KK B.w) f) fl B gl n (locs0 names args vars) ρ' σ (σ.set x y)) (hlow : d.low σ.length = true)
  (hy : Sto.low σ.length σ -> y.low σ.length = true) (hd : resOf fl = d := by rfl) (ha : args.length = names.length := by rfl) : Call f args d B (n + 1) σ (σ.set x y) :=
 Call.set (σj := []) K (by rw [List.append_nil]; exact h) hlow hy hd ha
theorem set_self {x : Nat} {y : Cell} (hx : σ[x]? = some y) : σ.set x y = σ := by
 refine x1_1 (List.getElem?_eq_some_iff.mp hx) fun h Q => ?_; subst Q
 exact List.set_getElem_self h
theorem get_set {x : Nat} {y z : Cell} (hx : σ[x]? = some y) : (σ.set x z)[x]? = some z := by
 refine x1_1 (List.getElem?_eq_some_iff.mp hx) fun h Z => ?_
 rw [List.getElem?_set_self h]
noncomputable abbrev aiLoc (nd ah fo : D) (kind way held nib : Option D) : Loc := [(Str.ofString "node", some nd), (Str.ofString "ahead", some ah), (Str.ofString "found", some fo), (Str.ofString "kind", kind), (Str.ofString "way", way), (Str.ofString "held", held), (Str.ofString "nibble", nib)]
noncomputable abbrev added (ds : List D) (rs : List (Pth × List UInt8)) : Cell := .lst (ds ++ rs.map rowD)
theorem added_nil {ds : List D} : added ds [] = .lst ds := by simp
theorem added_added {ds : List D} {rs ts : List (Pth × List UInt8)} : added (ds ++ rs.map rowD) ts = added ds (rs ++ ts) := by simp
theorem low_added {x : Nat} {ds : List D} {rs : List (Pth × List UInt8)} {k : Nat} (hx : σ[x]? = some (.lst ds)) (h : Sto.low k σ) : (added ds rs).low k = true := by
 have h1 := low_at h hx
 simp only [Cell.low] at h1 ⊢
 rw [D.lowL_iff] at h1 ⊢
 intro d hd
 rcases List.mem_append.mp hd with hd | hd
 ·exact h1 d hd
 ·refine x1_2 (List.mem_map.mp hd) fun r Z Q => ?_; subst Q
  simp only [lowE, low_pathI]; rfl
noncomputable abbrev aiFor (w : World) : Stmt := sAt 1 (elseOf (sAt 0 (elseOf (sAt 2 (bodyIn (KK w) 189)))))
theorem ai_loop {ks : Fin 16 -> Nd} {q : Pth} {x : Nat} {kind held : Option D} {nd : D} (hq : q.length <= 1000)
  (ih : ∀ i (σ : Sto) (ds : List D), σ[x]? = some (.lst ds) -> ds.length + (itemsN (ks i) (q ++ [i])).length <= 100000 -> Call 189 [nodeD (ks i), pth (q ++ [i]), .obj x] .none B n σ (σ.set x (added ds (itemsN (ks i) (q ++ [i]))))) :
  ∀ (l : List (Fin 16)) (σ : Sto) (ds : List D) (o : Option D), σ[x]? = some (.lst ds) -> ds.length + (l.flatMap fun i => itemsN (ks i) (q ++ [i])).length <= 100000 -> ∃ o',
   ForL (loopTgt (aiFor B.w)) (loopBody (aiFor B.w)) B gl_add_items n (l.map fun i => .int i.val) .next (aiLoc nd (pth q) (.obj x) kind (some (.tup (kidsD ks))) held o) (aiLoc nd (pth q) (.obj x) kind (some (.tup (kidsD ks))) held o') σ (σ.set x (added ds (l.flatMap fun i => itemsN (ks i) (q ++ [i])))) := by
 intro l
 induction l with
 | nil =>
  intro σ ds o hx hz
  refine ⟨o, ?_⟩
  rw [List.flatMap_nil, List.map_nil, added_nil, set_self hx]
  exact .nil
 | cons i l ihl =>
  intro σ ds o hx hz
  rw [List.flatMap_cons, List.length_append] at hz
  refine x1_1 (ihl (σ.set x (added ds (itemsN (ks i) (q ++ [i])))) _ (some (.int i.val)) (get_set hx) (by rw [List.length_append, List.length_map]; lia)) fun o' hl => ?_
  refine ⟨o', .step (Tgt.name (by walk_at "v")) (Ex.seq (St1.expr (Ev.call (Ev.g g_add_items) (Keeps'.fn rfl) (.cons (Ev.sub Ev.name Ev.name (.tup (i := (i.val : Int)) (ds := kidsD ks) (d := nodeD (ks i)) (by lia) (kidsD_get ks i) (by rw [kidsD_length]; decide)))
   (.cons (Ev.bin Ev.name (Ev.eq (d' := pth [i]) (Ev.tuple (.cons Ev.name .nil)) rfl) (.addPth (by simp; lia))) (.cons Ev.name .nil))) (Call.v (ih i σ ds hx (by lia))))) .nil) ?_⟩
  rw [List.set_set, added_added] at hl
  rw [List.flatMap_cons]
  exact hl
theorem add_items_nil {q : Pth} {x : Nat} {ds : List D} (hx : σ[x]? = some (.lst ds)) : Call 189 [nodeD .nil, pth q, .obj x] .none B (n + 1) σ (σ.set x (added ds (itemsN .nil q))) := by
 rw [itemsN_0, added_nil, set_self hx, nodeD_nil]
 exact Call.rt (fn_add_items _) (Rt.ifT (EvT.cmp Ev.name .cnone (.isN (d := .none))) Rt.retNone) rfl
theorem add_items_ok : ∀ (a : Nd) {q : Pth} {k n x : Nat} (σ : Sto) (ds : List D), fit a k -> q.length + k <= 1000 -> 2 * k + 4 <= n -> σ[x]? = some (.lst ds) -> ds.length + (itemsN a q).length <= 100000 -> Call 189 [nodeD a, pth q, .obj x] .none B n σ (σ.set x (added ds (itemsN a q)))
 | .nil, q, k, n, x, σ, ds, hf, hq, hn, hx, hz => by
  refine x1_1 (⟨n - 1, by lia⟩ : ∃ m, n = m + 1) fun n Q => ?_; subst Q
  exact add_items_nil hx
 | .leaf p v, q, k, n, x, σ, ds, hf, hq, hn, hx, hz => by
  refine x1_1 (⟨n - 1, by lia⟩ : ∃ m, n = m + 1) fun n Q => ?_; subst Q
  rw [itemsN_l] at hz ⊢
  rw [fit_l] at hf
  rw [nodeD_leaf]
  simp only [List.length_singleton] at hz
  refine' Call.set0 (fn_add_items _) (Ex.ifF (EvT.cmp Ev.name .cnone (.isN (d := leafD p v))) (Ex.seq (St1.unpack (ds := [.str "leaf", pth p, .bytes v]) Ev.name (by walk_at "v"))
   (Ex.ifT (EvT.cmp Ev.name .cstr (.isS (by decide))) (Ex.seq (St1.expr (Ev.meth Ev.name (Meth.append hx) .builtin (.cons (Ev.tuple (.cons (Ev.bin Ev.name Ev.name (.addPth (by lia))) (.cons Ev.name .nil))) .nil) (CallV.append hx (by lia)))) Ex.nil)))) rfl (low_added hx)
 | .ext p a, q, k, n, x, σ, ds, hf, hq, hn, hx, hz => by
  refine x1_1 (⟨n - 1, by lia⟩ : ∃ m, n = m + 1) fun n Q => ?_; subst Q
  rw [itemsN_e] at hz ⊢
  rw [fit_e] at hf
  have ih := add_items_ok a (q := q ++ p) (n := n) (x := x) σ ds hf.2.2 (by rw [List.length_append]; lia) (by lia) hx hz
  rw [nodeD_ext]
  refine' Call.set0 (fn_add_items _) (Ex.ifF (EvT.cmp Ev.name .cnone (.isN (d := extD p a))) (Ex.seq (St1.unpack (ds := [.str "ext", pth p, nodeD a]) Ev.name (by walk_at "v"))
   (Ex.ifF (EvT.cmp Ev.name .cstr (.isS (by decide))) (Ex.ifT (EvT.cmp Ev.name .cstr (.isS (by decide))) (Ex.seq (St1.expr (Ev.call (Ev.g g_add_items) (Keeps'.fn rfl) (.cons Ev.name (.cons (Ev.bin Ev.name Ev.name (.addPth (by lia))) (.cons Ev.name .nil))) (Call.v ih))) Ex.nil))))) rfl (low_added hx)
 | .br ks v, q, k, n, x, σ, ds, hf, hq, hn, hx, hz => by
  refine x1_1 (⟨n - 1, by lia⟩ : ∃ m, n = m + 1) fun n Q => ?_; subst Q
  rw [itemsN_b] at hz ⊢
  rw [fit_b] at hf
  have ih : ∀ i (σ : Sto) (ds : List D), σ[x]? = some (.lst ds) -> ds.length + (itemsN (ks i) (q ++ [i])).length <= 100000 -> Call 189 [nodeD (ks i), pth (q ++ [i]), .obj x] .none B n σ (σ.set x (added ds (itemsN (ks i) (q ++ [i])))) := fun i σ ds hx hz => by
   rcases hf.2 i with h | h
   ·refine x1_1 (⟨n - 1, by lia⟩ : ∃ m, n = m + 1) fun n Q => ?_; subst Q
    rw [isNil_eq h]; exact add_items_nil hx
   ·exact add_items_ok (ks i) σ ds h.2 (by rw [List.length_append]; simp; lia) (by lia) hx hz
  rw [List.length_append] at hz
  rw [nodeD_br]
  by_cases hv : v = []
  ·rw [if_pos hv, List.nil_append]
   refine x1_1 (ai_loop (nd := brD ks v) (kind := some (.str "branch")) (held := some (.bytes v)) (by lia) ih (List.finRange 16) σ ds none hx (by lia)) fun o hl => ?_
   refine' Call.set0 (fn_add_items _) (Ex.ifF (EvT.cmp Ev.name .cnone (.isN (d := brD ks v))) (Ex.seq (St1.unpack (ds := [.str "branch", .tup (kidsD ks), .bytes v]) Ev.name (by walk_at "v"))
    (Ex.ifF (EvT.cmp Ev.name .cstr (.isS (by decide))) (Ex.ifF (EvT.cmp Ev.name .cstr (.isS (by decide))) (Ex.ifF (EvT.eq (EvT.cmp Ev.name (Ev.g g_NOUGHT) .neY) (by rw [hv]; rfl)) (Ex.seq (St1.of (StX.for_ (EvI.range1 (m := 16) (Ev.g g_range) (.cons .cint .nil) (by decide) (by decide)) (ups16 ▸ hl))) Ex.nil)))))) rfl (low_added hx)
  ·rw [if_neg hv] at hz ⊢
   simp only [List.length_singleton] at hz
   obtain ⟨o, hl⟩ := ai_loop (nd := brD ks v) (kind := some (.str "branch")) (held := some (.bytes v)) (by lia) ih (List.finRange 16) (σ.set x (added ds [(q, v)])) _ none (get_set hx) (by rw [List.length_append, List.length_map, List.length_singleton]; lia)
   rw [List.set_set, added_added] at hl
   refine' Call.set0 (fn_add_items _) (Ex.ifF (EvT.cmp Ev.name .cnone (.isN (d := brD ks v))) (Ex.seq (St1.unpack (ds := [.str "branch", .tup (kidsD ks), .bytes v]) Ev.name (by walk_at "v"))
    (Ex.ifF (EvT.cmp Ev.name .cstr (.isS (by decide))) (Ex.ifF (EvT.cmp Ev.name .cstr (.isS (by decide))) (Ex.ifT (EvT.eq (EvT.cmp Ev.name (Ev.g g_NOUGHT) .neY) (by simpa using hv))
     (Ex.seq (St1.expr (Ev.meth Ev.name (Meth.append hx) .builtin (.cons (Ev.tuple (.cons Ev.name (.cons Ev.name .nil))) .nil) (CallV.append hx (by lia))))
     (Ex.seq (St1.of (StX.for_ (EvI.range1 (m := 16) (Ev.g g_range) (.cons .cint .nil) (by decide) (by decide)) (ups16 ▸ hl))) Ex.nil))))))) rfl (low_added hx)
end
theorem frozen {B : Bs} {σ : Sto} {c : St} {x : Nat} {a : Addr} {ds : List D} (s : Sim B σ c) (ha : c.β[x]? = some a) (hx : σ[x]? = some (.lst ds)) : ∃ G', (∀ b o, c.G b = some o -> G' b = some o) /\ Le [] c ⟨G', c.β, c.s⟩ /\ Sim B (σ.set x .dead) ⟨G', c.β, c.s⟩ /\ Rep G' c.β (.ref a) (.lst ds) := by
 refine x2_2 (s.cells x a _ ha hx) fun vs m e r => ?_
 have ga : c.G a = none := s.off x a _ ha hx nofun
 refine ⟨fun b => if b = a then some (listOf vs.toArray m) else c.G b, ?_⟩
 have hG : ∀ b o, c.G b = some o -> (if b = a then some (listOf vs.toArray m) else c.G b) = some o := fun b o h => by
  rw [if_neg (fun e => by rw [e, ga] at h; cases h), h]
 have hsub : ∀ b o, (if b = a then some (listOf vs.toArray m) else c.G b) = some o -> c.h.get? b = some o := fun b o h => by
  split at h
  ·rename_i e'; cases h; rw [e']; exact e
  ·exact s.sub b o h
 refine ⟨hG, ⟨hG, fun b h Z hb => ?_, ⟨[], by simp, fun Z h => nomatch h⟩, fun b o h Z Z => ⟨o, h, .refl o⟩, Nat.le_refl _, rfl⟩, ?_, .lst (o := listOf vs.toArray m) (by rw [if_pos rfl]) rfl rfl (r.mono hG fun Z Z h => h)⟩
 ·show (if b = a then some (listOf vs.toArray m) else c.G b) = none
  rw [if_neg (fun e => hb (by rw [e]; exact List.mem_of_getElem? ha)), h]
 ·have hi : ∀ {i : Nat} {b : Addr} {y : Cell}, c.β[i]? = some b -> (σ.set x .dead)[i]? = some y -> (i = x /\ y = .dead) \/ (b ≠ a /\ σ[i]? = some y) := fun {i b y} h1 h2 => by
   by_cases hi : i = x
   ·subst hi
    rw [List.getElem?_set_self (List.getElem?_eq_some_iff.mp hx).1] at h2
    exact .inl ⟨rfl, by cases h2; rfl⟩
   ·rw [List.getElem?_set_ne (Ne.symm hi)] at h2
    refine .inr ⟨fun e => hi ?_, h2⟩
    subst e
    refine x1_1 (List.getElem?_eq_some_iff.mp h1) fun l1 q1 => ?_
    refine x1_1 (List.getElem?_eq_some_iff.mp ha) fun l2 q2 => ?_
    exact (List.getElem_inj s.nodup).mp (q1.trans q2.symm)
  refine ⟨fun b o h => hG b o (s.base b o h), hsub, by rw [List.length_set]; exact s.len, s.nodup, s.mods, s.low, fun i b y h1 h2 h3 => ?_, fun i b y h1 h2 => ?_⟩
  ·rcases hi h1 h2 with ⟨_, e⟩ | ⟨hne, h2⟩
   ·exact (h3 e).elim
   ·show (if b = a then some (listOf vs.toArray m) else c.G b) = none
    rw [if_neg hne, s.off i b y h1 h2 h3]
  ·rcases hi h1 h2 with ⟨_, rfl⟩ | ⟨hne, h2⟩
   ·trivial
   ·exact (s.cells i b y h1 h2).mono hG (fun Z Z h => h) hsub fun o h => h
section
variable {B : Bs} {gl : Gl} {n : Nat} {ρ : Loc} {σ σ1 : Sto}
theorem Ev.freeze {e : Expr} {x : Nat} {ds : List D} (h : Ev e (.obj x) B gl n ρ σ σ1) (hx : σ1[x]? = some (.lst ds)) : Ev e (.lst ds) B gl n ρ σ (σ1.set x .dead) := by
 intro A env c ok fr E Q k
 refine h A env c ok fr _ _ fun v c1 l1 s1 r1 => ?_
 cases r1 with
 | @obj _ a ha =>
  refine x1_4 (frozen s1 ha hx) fun G' hG l2 s2 r2 => ?_
  exact k _ ⟨G', c1.β, c1.s⟩ (l1.trans l2) s2 r2
theorem Ev.freezeLast {x : Str} {pos : Pos} {ds : List D} (h : VarIx ρ x (.obj σ.length)) : Ev (.Name x pos) (.lst ds) B gl n ρ (σ ++ [.lst ds]) (σ ++ [.dead]) := by
 have := Ev.freeze (B := B) (gl := gl) (n := n) (Ev.name (pos := pos) h) (get_last (σ := σ) (y := .lst ds))
 rwa [set_last] at this
theorem items_ok {a : Nd} {k : Nat} (hf : fit a k) (hk : k <= 1000) (hn : 2 * k + 4 <= n) (hz : (itemsN a []).length <= 100000) : Call 196 [nodeD a] (.lst ((itemsN a []).map rowD)) B (n + 1) σ σ := by
 have h := add_items_ok (B := B) a (q := []) (n := n) (x := σ.length) (σ ++ [.lst []]) [] hf (by simpa using hk) hn get_last (by simpa using hz)
 rw [set_last, added, List.nil_append] at h
 refine Call.rt0 (σj := [.dead]) (fn_items _) (Rt.seq (St1.assign (Ev.listM .nil) (by walk_at "v")) (Rt.seq (St1.expr (Ev.call (Ev.g g_add_items) (Keeps'.fn rfl) (.cons Ev.name (.cons (Ev.eq (d' := pth []) (Ev.tuple .nil) rfl) (.cons Ev.name .nil))) (Call.v h)))
  (Rt.ret (Ev.freezeLast (by walk_at "v"))))) ?_
 ·refine D.lowL_iff.mpr fun d hd => ?_
  refine x1_2 (List.mem_map.mp hd) fun r Z Q => ?_; subst Q
  simp only [lowE, low_pathI]; rfl
end
end
section
noncomputable def numK (x : List UInt8) : Int := (numOf (1 :: x) : Nat)
noncomputable def kvsFrom : Nat -> List (List UInt8) -> List (Int × D)
 | _, [] => []
 | k, x :: r => (numK x, .int ((k : Int) + 1)) :: kvsFrom (k + 1) r
theorem kvsFrom_0 {k : Nat} : kvsFrom k [] = ([]) := rfl
theorem kvsFrom_c {k : Nat} {x : List UInt8} {r : List (List UInt8)} : kvsFrom k (x :: r) = ((numK x, .int ((k : Int) + 1)) :: kvsFrom (k + 1) r) := rfl
noncomputable abbrev kvsOf (ks : List (List UInt8)) : List (Int × D) := kvsFrom 0 ks
noncomputable def addK (ks : List (List UInt8)) (x : List UInt8) : List (List UInt8) := if x ∈ ks then ks else ks ++ [x]
noncomputable def posK (ks : List (List UInt8)) (x : List UInt8) : Nat := ks.idxOf x + 1
noncomputable def dig (k : Nat) : List UInt8 := leB 4 k ++ (leB 8 (((k : Int) * 281479271743489).fmod (1 * 2 ^ (64 : Int).toNat))).reverse ++ (leB 20 (605153021707326989568713251046585937826284568576 + (k : Int))).reverse
theorem numOf_foldl (x : List UInt8) : ∀ a : Nat, x.foldl (fun (acc : Nat) (b : UInt8) => acc * 256 + b.toNat) a = a * 256 ^ x.length + numOf x := by
 unfold numOf
 induction x with
 | nil => intro a; simp
 | cons b x ih =>
  intro a
  rw [List.foldl_cons, List.foldl_cons, ih, ih (0 * 256 + b.toNat), List.length_cons, Nat.pow_succ]
  rw [Nat.add_mul, Nat.zero_mul, Nat.zero_add, Nat.mul_assoc, Nat.mul_comm 256]
  lia
theorem numOf_cons (b : UInt8) (x : List UInt8) : numOf (b :: x) = b.toNat * 256 ^ x.length + numOf x := by
 show (b :: x).foldl _ 0 = _
 rw [List.foldl_cons, numOf_foldl, Nat.zero_mul, Nat.zero_add]
theorem numOf_lt (x : List UInt8) : numOf x < 256 ^ x.length := by
 induction x with
 | nil => decide
 | cons b x ih =>
  rw [numOf_cons, List.length_cons, Nat.pow_succ]
  have hb : b.toNat <= 255 := by have := b.toNat_lt; lia
  have := Nat.mul_le_mul_right (256 ^ x.length) hb
  lia
theorem numOf_inj : ∀ {x y : List UInt8}, x.length = y.length -> numOf x = numOf y -> x = y
 | [], [], _, _ => rfl
 | [], _ :: _, h, _ => by simp at h
 | _ :: _, [], h, _ => by simp at h
 | a :: x, b :: y, h, e => by
  simp only [List.length_cons, Nat.add_right_cancel_iff] at h
  rw [numOf_cons, numOf_cons, <- h] at e
  have h1 := numOf_lt x
  have h2 := numOf_lt y
  rw [<- h] at h2
  have hab : a.toNat = b.toNat := by
   have d1 : (a.toNat * 256 ^ x.length + numOf x) / 256 ^ x.length = a.toNat := by
    rw [Nat.mul_comm, Nat.mul_add_div (by lia), Nat.div_eq_of_lt h1, Nat.add_zero]
   have d2 : (b.toNat * 256 ^ x.length + numOf y) / 256 ^ x.length = b.toNat := by
    rw [Nat.mul_comm, Nat.mul_add_div (by lia), Nat.div_eq_of_lt h2, Nat.add_zero]
   rw [<- d1, e, d2]
  rw [hab] at e
  rw [UInt8.toNat_inj.mp hab, numOf_inj h (by lia)]
theorem numK_inj {x y : List UInt8} : numK x = numK y ↔ x = y := by
 refine ⟨fun h => ?_, fun h => by rw [h]⟩
 unfold numK at h
 have h := Int.ofNat.inj h
 rw [numOf_cons, numOf_cons, show (1 : UInt8).toNat = 1 from rfl, Nat.one_mul, Nat.one_mul] at h
 have h1 := numOf_lt x
 have h2 := numOf_lt y
 have hl : x.length = y.length := by
  rcases Nat.lt_trichotomy x.length y.length with hl | hl | hl
  ·have : 256 ^ (x.length + 1) <= 256 ^ y.length := Nat.pow_le_pow_right (by decide) hl
   rw [Nat.pow_succ] at this
   lia
  ·exact hl
  ·have : 256 ^ (y.length + 1) <= 256 ^ x.length := Nat.pow_le_pow_right (by decide) hl
   rw [Nat.pow_succ] at this
   lia
 rw [hl] at h
 exact numOf_inj hl (by lia)
theorem dget_from (x : List UInt8) : ∀ (ks : List (List UInt8)) (k : Nat), dget (kvsFrom k ks) (numK x) = if x ∈ ks then some (.int ((k : Int) + ((ks.idxOf x : Nat) : Int) + 1)) else none
 | [], k => by simp [kvsFrom_0, kvsFrom_c, dget]
 | y :: r, k => by
  have ih := dget_from x r (k + 1)
  unfold dget at ih ⊢
  rw [kvsFrom_c, List.find?_cons]
  by_cases h : y = x
  ·subst h
   simp
  ·have e1 : decide (numK y = numK x) = false := decide_eq_false fun e => h (numK_inj.mp e)
   have e2 : (y == x) = false := beq_false_of_ne h
   simp only [e1]
   rw [ih, List.idxOf_cons, e2]
   by_cases hm : x ∈ r
   ·rw [if_pos hm, if_pos (.tail _ hm)]
    simp only [cond_false, Option.some.injEq, D.int.injEq]
    lia
   ·rw [if_neg hm, if_neg (fun q => by rcases List.mem_cons.mp q with q | q; exact h q.symm; exact hm q)]
theorem kvs_append (x : List UInt8) : ∀ (ks : List (List UInt8)) (k : Nat), kvsFrom k (ks ++ [x]) = kvsFrom k ks ++ [(numK x, .int ((k : Int) + (ks.length : Int) + 1))]
 | [], k => by simp [kvsFrom_0, kvsFrom_c]
 | y :: r, k => by
  rw [List.cons_append, kvsFrom_c, kvs_append x r (k + 1), kvsFrom_c, List.cons_append, List.length_cons]
  congr 4
  simp only [D.int.injEq]
  lia
theorem kvs_length : ∀ (ks : List (List UInt8)) (k : Nat), (kvsFrom k ks).length = ks.length
 | [], _ => rfl
 | y :: r, k => by rw [kvsFrom_c, List.length_cons, List.length_cons, kvs_length r]
theorem kvs_put {ks : List (List UInt8)} {x : List UInt8} (h : x ∉ ks) : dput (kvsOf ks) (numK x) (.int ((ks.length : Int) + 1)) = kvsOf (addK ks x) := by
 unfold dput
 rw [dget_from, if_neg h, addK, if_neg h]
 rw [if_neg (by decide)]
 unfold kvsOf
 rw [kvs_append]
 simp
theorem mem_addK {ks : List (List UInt8)} {x : List UInt8} : x ∈ addK ks x := by
 unfold addK; split
 ·assumption
 ·simp
theorem addK_length {ks : List (List UInt8)} {x : List UInt8} : (addK ks x).length <= ks.length + 1 := by
 unfold addK; split <;> simp
theorem posK_le {ks : List (List UInt8)} {x : List UInt8} (h : x ∈ ks) : posK ks x <= ks.length := List.idxOf_lt_length_of_mem h
theorem ck_num (w : World) : ClsOk w 290 := ⟨by kernel_rfl, by kernel_rfl, by kernel_rfl, by kernel_rfl, by kernel_rfl, by kernel_rfl⟩
theorem ck_trie (w : World) : ClsOk w 255 := ⟨by kernel_rfl, by kernel_rfl, by kernel_rfl, by kernel_rfl, by kernel_rfl, by kernel_rfl⟩
structure DigAt (σ : Sto) (i j : Nat) (ks : List (List UInt8)) : Prop where
 inst : σ[i]? = some (.ns [(Str.ofString "known", .obj j)])
 dict : σ[j]? = some (.idct (kvsOf ks))
theorem DigAt.ne {σ : Sto} {i j : Nat} {ks : List (List UInt8)} (h : DigAt σ i j ks) : i ≠ j := fun e => by
 have h1 := h.inst
 rw [e, h.dict] at h1
 cases h1
theorem DigAt.set {σ : Sto} {i j : Nat} {ks ks' : List (List UInt8)} (h : DigAt σ i j ks) : DigAt (σ.set j (.idct (kvsOf ks'))) i j ks' :=
 ⟨by rw [List.getElem?_set_ne h.ne.symm]; exact h.inst, get_set h.dict⟩
theorem DigAt.app {σ : Sto} {i j : Nat} {ks : List (List UInt8)} (h : DigAt σ i j ks) (τ : Sto) : DigAt (σ ++ τ) i j ks :=
 ⟨by rw [List.getElem?_append_left (List.getElem?_eq_some_iff.mp h.inst).1]; exact h.inst, by rw [List.getElem?_append_left (List.getElem?_eq_some_iff.mp h.dict).1]; exact h.dict⟩
noncomputable abbrev putK (σ : Sto) (j : Nat) (ks : List (List UInt8)) : Sto := σ.set j (.idct (kvsOf ks))
theorem low_kvs (k : Nat) : ∀ (ks : List (List UInt8)) (m : Nat), (kvsFrom m ks).all (fun x => x.2.low k) = true
 | [], _ => rfl
 | y :: r, m => by rw [kvsFrom_c, List.all_cons, low_kvs k r]; rfl
section
variable {B : Bs} {n : Nat} {σ : Sto} {i j : Nat} {ks : List (List UInt8)} {x : List UInt8}
theorem number_ok (hd : DigAt σ i j ks) (hk : ks.length <= 100000) (hx : x.length <= 90000) : Call 280 [.inst 290 i, .bytes x] (.int (posK (addK ks x) x : Nat)) B (n + 1) σ (putK σ j (addK ks x)) := by
 have kn : findIn (KK B.w) (.ref 290) "known" = some none := by kernel_rfl
 have hi := hd.inst
 have hj := hd.dict
 by_cases h : x ∈ ks
 ·have e : addK ks x = ks := if_pos h
  rw [e, putK, set_self hj]
  refine Call.rt (fn_number _) (Rt.seq (St1.assign (d := .int (numK x)) (Ev.fromBytes (b := 1 :: x) (Ev.g g_int) (.cons (Ev.bin .cbytes (Ev.call (Ev.g g_bytes) .type (.cons Ev.name .nil) .bytY) (.addY ?_)) (.cons .cstr .nil)) ?_ ?_) (by walk_at "v"))
   (Rt.ifF (EvT.eq (EvT.cmp Ev.name (Ev.attr Ev.name (ck_num _) kn hi rfl) (Cmp.notInI hj)) ?_)
   (Rt.ret (Ev.sub (Ev.attr Ev.name (ck_num _) kn hi rfl) Ev.name (Item.idct (i := numK x) hj ?_))))) rfl
  ·simp; lia
  ·simp; lia
  ·kernel_rfl
  ·rw [dget_from, if_pos h]; rfl
  ·rw [dget_from, if_pos h, posK]; simp
 ·have hd2 := hd.set (ks' := addK ks x)
  have hi2 := hd2.inst
  have hj2 := hd2.dict
  have hp := kvs_put h
  have st := SetI.idct (B := B) (n := n) (i := numK x) (d := .int ((ks.length : Int) + 1)) hj (by rw [kvs_length]; lia)
  rw [hp] at st
  have hlen : ((kvsOf ks).length : Int) + 1 = (ks.length : Int) + 1 := by rw [kvs_length]
  refine' Call.set0 (fn_number _) (Ex.seq (St1.assign (d := .int (numK x)) (Ev.fromBytes (b := 1 :: x) (Ev.g g_int) (.cons (Ev.bin .cbytes (Ev.call (Ev.g g_bytes) .type (.cons Ev.name .nil) .bytY) (.addY ?_)) (.cons .cstr .nil)) ?_ ?_) (by walk_at "v"))
   (Ex.ifT (EvT.eq (EvT.cmp Ev.name (Ev.attr Ev.name (ck_num _) kn hi rfl) (Cmp.notInI hj)) ?_)
   (Ex.seq (St1.setitem (v := .int ((ks.length : Int) + 1)) (Ev.bin (Ev.eq (d' := .int (ks.length : Int)) (Ev.call (Ev.g g_len) .builtin (.cons (Ev.attr Ev.name (ck_num _) kn hi rfl) .nil) (CallV.lenI hj ?_)) ?_) .cint .add) (Ev.attr Ev.name (ck_num _) kn hi rfl) Ev.name st)
   (Ex.ret (Ev.sub (Ev.attr Ev.name (ck_num _) kn hi2 rfl) Ev.name (Item.idct (i := numK x) hj2 ?_)))))) rfl ?_
  ·simp; lia
  ·simp; lia
  ·kernel_rfl
  ·rw [dget_from, if_neg h]; rfl
  ·rw [kvs_length]; lia
  ·rw [kvs_length]
  ·rw [dget_from, if_pos mem_addK, posK]; simp
  ·intro _; exact low_kvs _ _ _
theorem of_ok (hd : DigAt σ i j ks) (hk : ks.length <= 90000) (hx : x.length <= 90000) : Call 287 [.inst 290 i, .bytes x] (.bytes (dig (posK (addK ks x) x))) B (n + 2) σ (putK σ j (addK ks x)) := by
 have hm : findIn (KK B.w) (.ref 290) "number" = some (some (.ref 280)) := by kernel_rfl
 have ht : typeIn (KK B.w) (.ref 280) = some (.type "function") := by kernel_rfl
 have hp : posK (addK ks x) x <= 90001 := Nat.le_trans (posK_le mem_addK) (Nat.le_trans addK_length (by lia))
 generalize hq : posK (addK ks x) x = q at hp
 have hnum := number_ok (B := B) (n := n) hd (by lia) hx
 rw [hq] at hnum
 have f0 : 0 <= ((q : Int) * 281479271743489).fmod (1 * 2 ^ (64 : Int).toNat) := Int.fmod_nonneg_of_pos _ (by decide)
 have f1 : ((q : Int) * 281479271743489).fmod (1 * 2 ^ (64 : Int).toNat) < 256 ^ 8 := by
  have := Int.fmod_lt_of_pos ((q : Int) * 281479271743489) (show (0 : Int) < 1 * 2 ^ (64 : Int).toNat by decide)
  exact Int.lt_of_lt_of_le this (by decide)
 refine' Call.set0 (fn_num_of _) (Ex.seq (St1.assign (Ev.meth Ev.name (Meth.inst (ck_num _) hm ht hd.inst rfl) (Keeps'.fn rfl) (.cons Ev.name .nil) (Call.v hnum)) (by walk_at "v"))
  (Ex.seq (St1.assign (d := .bytes (leB 4 q)) (Ev.meth Ev.name Meth.toBytes .builtin (.cons .cint (.cons .cstr .nil)) (CallV.toLittle (k' := 4) rfl (by decide) (by lia) ?_)) (by walk_at "v"))
  (Ex.seq (St1.assign (d := .bytes (leB 8 (((q : Int) * 281479271743489).fmod (1 * 2 ^ (64 : Int).toNat))).reverse) (Ev.meth (Ev.bin (Ev.bin Ev.name (Ev.g g_SPREAD) (.mul (.inl ?_))) (Ev.bin .cint .cint (.lshift (by decide) (by decide) (by decide))) (.mod (by decide))) Meth.toBytes .builtin (.cons .cint (.cons .cstr .nil)) (CallV.toBig (k' := 8) rfl (by decide) f0 f1)) (by walk_at "v"))
  (Ex.ret (Ev.bin (Ev.bin Ev.name Ev.name (.addY ?_)) (Ev.meth (Ev.bin (Ev.g g_LEAST_ADDRESS) Ev.name .add) Meth.toBytes .builtin (.cons .cint (.cons .cstr .nil)) (CallV.toBig (k' := 20) rfl (by decide) ?_ ?_)) (.addY ?_)))))) rfl ?_
 ·exact Int.lt_of_le_of_lt (show (q : Int) <= 90001 by lia) (by decide)
 ·rw [Int.natAbs_natCast]; exact Nat.lt_of_le_of_lt hp (by decide)
 ·rw [List.length_reverse, leB, leB, KTBy.low_length, KTBy.low_length]; decide
 ·lia
 ·exact Int.lt_of_le_of_lt (show (605153021707326989568713251046585937826284568576 : Int) + q <= 605153021707326989568713251046585937826284568576 + 90001 by lia) (by decide)
 ·rw [List.length_append, List.length_reverse, List.length_reverse, leB, leB, leB, KTBy.low_length, KTBy.low_length, KTBy.low_length]; decide
 ·intro _; exact low_kvs _ _ _
theorem dig_length (k : Nat) : (dig k).length = 32 := by
 rw [dig, List.length_append, List.length_append, List.length_reverse, List.length_reverse, leB, leB, leB, KTBy.low_length, KTBy.low_length, KTBy.low_length]
end
noncomputable abbrev Bk := List (List UInt8)
noncomputable def itemOf (f : It) (ks : Bk) : It × Bk := if (encI f).length < 32 then (f, ks) else (.b (dig (posK (addK ks (encI f)) (encI f))), addK ks (encI f))
noncomputable def formS : Nd -> Bk -> It × Bk
 | .nil, ks => (.b [], ks)
 | .leaf p v, ks => (.l [.b (packI (toI p) true), .b v], ks)
 | .ext p a, ks => (.l [.b (packI (toI p) false), (itemOf (formS a ks).1 (formS a ks).2).1], (itemOf (formS a ks).1 (formS a ks).2).2)
 | .br kids v, ks =>
  let r := (List.finRange 16).foldl (fun (acc : List It × Bk) i => (acc.1 ++ [(itemOf (formS (kids i) acc.2).1 (formS (kids i) acc.2).2).1], (itemOf (formS (kids i) acc.2).1 (formS (kids i) acc.2).2).2)) ([], ks)
  (.l (r.1 ++ [.b v]), r.2)
theorem formS_0 {ks : Bk} : formS .nil ks = ((.b [], ks)) := rfl
theorem formS_l {p : Pth} {v : List UInt8} {ks : Bk} : formS (.leaf p v) ks = ((.l [.b (packI (toI p) true), .b v], ks)) := rfl
theorem formS_e {p : Pth} {a : Nd} {ks : Bk} : formS (.ext p a) ks = ((.l [.b (packI (toI p) false), (itemOf (formS a ks).1 (formS a ks).2).1], (itemOf (formS a ks).1 (formS a ks).2).2)) := rfl
theorem formS_b {kids : (_root_.Fin 16 -> Nd)} {v : List UInt8} {ks : Bk} : formS (.br kids v) ks = ((let r := (List.finRange 16).foldl (fun (acc : List It × Bk) i => (acc.1 ++ [(itemOf (formS (kids i) acc.2).1 (formS (kids i) acc.2).2).1], (itemOf (formS (kids i) acc.2).1 (formS (kids i) acc.2).2).2)) ([], ks); (.l (r.1 ++ [.b v]), r.2))) := rfl
noncomputable def itemS (a : Nd) (ks : Bk) : It × Bk := itemOf (formS a ks).1 (formS a ks).2
noncomputable def itemsS (kids : Fin 16 -> Nd) : List (Fin 16) -> Bk -> List It × Bk
 | [], ks => ([], ks)
 | i :: l, ks => ((itemS (kids i) ks).1 :: (itemsS kids l (itemS (kids i) ks).2).1, (itemsS kids l (itemS (kids i) ks).2).2)
theorem itemsS_0 {kids : (_root_.Fin 16 -> Nd)} {ks : Bk} : itemsS kids [] ks = (([], ks)) := rfl
theorem itemsS_c {kids : (_root_.Fin 16 -> Nd)} {i : _root_.Fin 16} {l : List (_root_.Fin 16)} {ks : Bk} : itemsS kids (i :: l) ks = (((itemS (kids i) ks).1 :: (itemsS kids l (itemS (kids i) ks).2).1, (itemsS kids l (itemS (kids i) ks).2).2)) := rfl
theorem foldl_items (kids : Fin 16 -> Nd) : ∀ (l : List (Fin 16)) (acc : List It) (ks : Bk), l.foldl (fun (acc : List It × Bk) i => (acc.1 ++ [(itemOf (formS (kids i) acc.2).1 (formS (kids i) acc.2).2).1], (itemOf (formS (kids i) acc.2).1 (formS (kids i) acc.2).2).2)) (acc, ks) = (acc ++ (itemsS kids l ks).1, (itemsS kids l ks).2)
 | [], acc, ks => by simp [itemsS_0, itemsS_c]
 | i :: l, acc, ks => by
  rw [List.foldl_cons, foldl_items kids l, itemsS_c]
  simp [itemS]
theorem formS_br {kids : Fin 16 -> Nd} {v : List UInt8} {ks : Bk} : formS (.br kids v) ks = (.l ((itemsS kids (List.finRange 16) ks).1 ++ [.b v]), (itemsS kids (List.finRange 16) ks).2) := by
 rw [formS_b, foldl_items]; simp
theorem formS_ext {p : Pth} {a : Nd} {ks : Bk} : formS (.ext p a) ks = (.l [.b (packI (toI p) false), (itemS a ks).1], (itemS a ks).2) := by
 rw [formS_e]; rfl
theorem encI_nil : encI (.b []) = [128] := by decide
theorem itemS_nil {ks : Bk} : itemS .nil ks = (.b [], ks) := by
 rw [itemS, formS_0, itemOf, if_pos (by rw [encI_nil]; decide)]
theorem headI_ge {low size : Nat} : 1 <= (headI low size).length := by unfold headI; split <;> simp
theorem encI_b_le {x : List UInt8} (h : x.length <= 1000000) : (encI (.b x)).length <= x.length + 4 := by
 rw [encI_b]
 split
 ·lia
 ·rw [List.length_append]; have := headI_length (low := 128) h; lia
theorem encI_b32 {x : List UInt8} (h : x.length = 32) : (encI (.b x)).length = 33 := by
 rw [encI_b, if_neg (by lia), List.length_append, headI, if_pos (by lia), h]; rfl
mutual
theorem deep_le : ∀ it : It, it.deep <= (encI it).length
 | .b x => by rw [deep_b]; lia
 | .l xs => by
  rw [deep_l, encI_l, List.length_append]
  have := deeps_le xs
  have := @headI_ge 192 (encIs xs).length
  lia
theorem deeps_le : ∀ xs : List It, deeps xs <= (encIs xs).length
 | [] => by rw [deeps_0]; lia
 | x :: xs => by
  rw [deeps_c, encIs_c, List.length_append]
  have := deep_le x
  have := deeps_le xs
  lia
end
theorem itemOf_len {f : It} {ks : Bk} : (encI (itemOf f ks).1).length <= 33 := by
 unfold itemOf
 split
 ·show (encI f).length <= 33
  lia
 ·rw [encI_b32 (dig_length _)]; lia
theorem itemOf_deep {f : It} {ks : Bk} : (itemOf f ks).1.deep <= 33 := Nat.le_trans (deep_le _) itemOf_len
theorem itemOf_more {f : It} {ks : Bk} : ks.length <= (itemOf f ks).2.length /\ (itemOf f ks).2.length <= ks.length + 1 := by
 unfold itemOf
 split
 ·exact ⟨Nat.le_refl _, Nat.le_succ _⟩
 ·refine ⟨?_, addK_length⟩
  unfold addK; split <;> simp
noncomputable def cntN : Nd -> Nat
 | .nil => 0
 | .leaf _ _ => 1
 | .ext _ a => cntN a + 1
 | .br ks _ => ((List.finRange 16).map fun i => cntN (ks i)).sum + 1
theorem cntN_0 : cntN .nil = (0) := rfl
theorem cntN_l {p : Pth} {v : List UInt8} : cntN (.leaf p v) = (1) := rfl
theorem cntN_e {p : Pth} {a : Nd} : cntN (.ext p a) = (cntN a + 1) := rfl
theorem cntN_b {ks : (_root_.Fin 16 -> Nd)} {v : List UInt8} : cntN (.br ks v) = (((List.finRange 16).map fun i => cntN (ks i)).sum + 1) := rfl
theorem itemsS_more {kids : Fin 16 -> Nd} (h : ∀ i ks, ks.length <= (itemS (kids i) ks).2.length /\ (itemS (kids i) ks).2.length <= ks.length + cntN (kids i)) : ∀ (l : List (Fin 16)) (ks : Bk), ks.length <= (itemsS kids l ks).2.length /\ (itemsS kids l ks).2.length <= ks.length + (l.map fun i => cntN (kids i)).sum
 | [], ks => by simp [itemsS_0, itemsS_c]
 | i :: l, ks => by
  have h1 := h i ks
  have h2 := itemsS_more h l (itemS (kids i) ks).2
  rw [itemsS_c, List.map_cons, List.sum_cons]
  dsimp only
  lia
theorem formS_more : ∀ (a : Nd) (ks : Bk), (ks.length <= (formS a ks).2.length /\ (formS a ks).2.length + (if a.isNil then 0 else 1) <= ks.length + cntN a) /\ (ks.length <= (itemS a ks).2.length /\ (itemS a ks).2.length <= ks.length + cntN a)
 | .nil, ks => by rw [itemS_nil, formS_0]; simp [cntN_0, cntN_l, cntN_e, cntN_b, isNilE]
 | .leaf p v, ks => by
  have := itemOf_more (f := (formS (.leaf p v) ks).1) (ks := (formS (.leaf p v) ks).2)
  rw [itemS]
  have e : (formS (.leaf p v) ks).2 = ks := by rw [formS_l]
  rw [e] at this ⊢
  rw [cntN_l]
  simp only [isNilE]
  simp
  lia
 | .ext p a, ks => by
  have ih := (formS_more a ks).2
  have := itemOf_more (f := (formS (.ext p a) ks).1) (ks := (formS (.ext p a) ks).2)
  rw [itemS]
  have e : (formS (.ext p a) ks).2 = (itemS a ks).2 := by rw [formS_ext]
  rw [e] at this ⊢
  rw [cntN_e]
  simp only [isNilE]
  simp
  lia
 | .br kids v, ks => by
  have ih := itemsS_more (fun i ks => (formS_more (kids i) ks).2) (List.finRange 16) ks
  have := itemOf_more (f := (formS (.br kids v) ks).1) (ks := (formS (.br kids v) ks).2)
  rw [itemS]
  have e : (formS (.br kids v) ks).2 = (itemsS kids (List.finRange 16) ks).2 := by rw [formS_br]
  rw [e] at this ⊢
  rw [cntN_b]
  simp only [isNilE]
  simp
  lia
theorem itemsS_len (kids : Fin 16 -> Nd) : ∀ (l : List (Fin 16)) (ks : Bk), (encIs (itemsS kids l ks).1).length <= 33 * l.length /\ deeps (itemsS kids l ks).1 <= 33 /\ (itemsS kids l ks).1.length = l.length
 | [], ks => by simp [itemsS_0, itemsS_c, encIs_0, encIs_c, deeps_0, deeps_c]
 | i :: l, ks => by
  have h := itemsS_len kids l (itemS (kids i) ks).2
  have h1 : (encI (itemS (kids i) ks).1).length <= 33 := itemOf_len
  have h2 : (itemS (kids i) ks).1.deep <= 33 := itemOf_deep
  rw [itemsS_c]
  simp only [encIs_0, encIs_c, deeps_0, deeps_c, List.length_cons, List.length_append]
  lia
theorem encIs_append : ∀ (xs ys : List It), encIs (xs ++ ys) = encIs xs ++ encIs ys
 | [], ys => by rw [encIs_0]; rfl
 | x :: xs, ys => by rw [List.cons_append, encIs_c, encIs_c, encIs_append xs ys, List.append_assoc]
theorem deeps_append : ∀ (xs ys : List It), deeps (xs ++ ys) = max (deeps xs) (deeps ys)
 | [], ys => by rw [deeps_0, List.nil_append]; lia
 | x :: xs, ys => by rw [List.cons_append, deeps_c, deeps_c, deeps_append xs ys]; exact (Nat.max_assoc _ _ _).symm
theorem itDs_append : ∀ (xs ys : List It), itDs (xs ++ ys) = itDs xs ++ itDs ys
 | [], ys => by rw [itDs_0]; rfl
 | x :: xs, ys => by rw [List.cons_append, itDs_c, itDs_c, itDs_append xs ys]; rfl
theorem packI_length {p : List Int} {b : Bool} : (packI p b).length <= p.length + 1 := by
 refine x1_2 (ahead_even p b) fun m h1 h2 => ?_
 rw [packI, List.length_map, prs_length h1]; exact h2
theorem encI_l_le {xs : List It} (h : (encIs xs).length <= 1000000) : (encI (.l xs)).length <= (encIs xs).length + 4 := by
 rw [encI_l, List.length_append]
 have := headI_length (low := 192) h
 lia
theorem formS_len {a : Nd} {k : Nat} (hf : fit a k) (hk : k <= 1000) (ks : Bk) : (encI (formS a ks).1).length <= 3000 /\ (formS a ks).1.deep <= 34 := by
 cases a with
 | nil => rw [formS_0]; exact ⟨by rw [encI_nil]; decide, by rw [deep_b]; decide⟩
 | leaf p v =>
  rw [fit_l] at hf
  have h1 := packI_length (p := toI p) (b := true)
  rw [toI_length] at h1
  have h2 := encI_b_le (x := packI (toI p) true) (by lia)
  have h3 := encI_b_le (x := v) (by lia)
  rw [formS_l]
  dsimp only
  have e : (encIs [.b (packI (toI p) true), .b v]).length = (encI (.b (packI (toI p) true))).length + (encI (.b v)).length := by simp [encIs_0, encIs_c]
  have := encI_l_le (xs := [.b (packI (toI p) true), .b v]) (by lia)
  refine ⟨by lia, ?_⟩
  simp [deep_b, deep_l, deeps_0, deeps_c]
 | ext p a =>
  rw [fit_e] at hf
  have h1 := packI_length (p := toI p) (b := false)
  rw [toI_length] at h1
  have h2 := encI_b_le (x := packI (toI p) false) (by lia)
  have h3 : (encI (itemS a ks).1).length <= 33 := itemOf_len
  have h4 : (itemS a ks).1.deep <= 33 := itemOf_deep
  rw [formS_ext]
  dsimp only
  have e : (encIs [.b (packI (toI p) false), (itemS a ks).1]).length = (encI (.b (packI (toI p) false))).length + (encI (itemS a ks).1).length := by simp [encIs_0, encIs_c]
  have := encI_l_le (xs := [.b (packI (toI p) false), (itemS a ks).1]) (by lia)
  refine ⟨by lia, ?_⟩
  simp only [deep_b, deep_l, deeps_0, deeps_c]
  lia
 | br kids v =>
  rw [fit_b] at hf
  have h := itemsS_len kids (List.finRange 16) ks
  rw [List.length_finRange] at h
  have h3 := encI_b_le (x := v) (by lia)
  rw [formS_br]
  dsimp only
  have e : (encIs ((itemsS kids (List.finRange 16) ks).1 ++ [.b v])).length = (encIs (itemsS kids (List.finRange 16) ks).1).length + (encI (.b v)).length := by
   rw [encIs_append, List.length_append]; simp [encIs_0, encIs_c]
  have := encI_l_le (xs := (itemsS kids (List.finRange 16) ks).1 ++ [.b v]) (by lia)
  refine ⟨by lia, ?_⟩
  simp only [deep_b, deep_l, deeps_append, deeps_0, deeps_c]
  lia
end
section
mutual
theorem low_itD (k : Nat) : ∀ it : It, (itD it).low k = true
 | .b x => by rw [itDx_b]; rfl
 | .l xs => by rw [itDx_l]; exact low_itDs k xs
theorem low_itDs (k : Nat) : ∀ xs : List It, D.lowL k (itDs xs) = true
 | [] => by rw [itDs_0]; rfl
 | x :: xs => by rw [itDs_c]; exact Bool.and_eq_true_iff.mpr ⟨low_itD k x, low_itDs k xs⟩
end
theorem itD_l {xs : List It} : itD (.l xs) = .lst (itDs xs) := by rw [itDx_l]
theorem itD_b {x : List UInt8} : itD (.b x) = .bytes x := by rw [itDx_b]
theorem itDs_two {x y : It} : itDs [x, y] = [itD x, itD y] := by simp [itDs_0, itDs_c]
section
variable {B : Bs} {n : Nat} {σ : Sto} {i j : Nat} {ks : Bk}
theorem putK_self (hd : DigAt σ i j ks) : putK σ j ks = σ := set_self hd.dict
theorem putK_putK {σ : Sto} {j : Nat} {ks ks' : Bk} : putK (putK σ j ks) j ks' = putK σ j ks' := List.set_set ..
theorem putK_length {σ : Sto} {j : Nat} {ks : Bk} : (putK σ j ks).length = σ.length := List.length_set
theorem putK_app {σ τ : Sto} {j : Nat} {ks : Bk} (h : j < σ.length) : putK (σ ++ τ) j ks = putK σ j ks ++ τ := List.set_append_left _ _ h
theorem DigAt.lt (hd : DigAt σ i j ks) : j < σ.length := (List.getElem?_eq_some_iff.mp hd.dict).1
theorem low_putK {k : Nat} (h : Sto.low k σ) (ks : Bk) : (Cell.idct (kvsOf ks)).low k = true := low_kvs _ _ _
theorem node_item_ok {a : Nd} {k : Nat} (hd : DigAt σ i j ks) (hf : fit a k) (hk : k <= 1000) (hz : ks.length + cntN a <= 80000) (h : Call 203 [nodeD a, .inst 290 i] (itD (formS a ks).1) B (n + 50) σ (putK σ j (formS a ks).2)) :
  Call 210 [nodeD a, .inst 290 i] (itD (itemS a ks).1) B (n + 51) σ (putK σ j (itemS a ks).2) := by
 have hm : findIn (KK B.w) (.ref 290) "of" = some (some (.ref 287)) := by kernel_rfl
 have ht : typeIn (KK B.w) (.ref 287) = some (.type "function") := by kernel_rfl
 refine x0_2 (formS_len hf hk ks) fun h1 h2 => ?_
 have hm1 := (formS_more a ks).1
 have hd2 := hd.set (ks' := (formS a ks).2)
 have henc := encoded_ok (B := B) (n := n + 50) (σ := putK σ j (formS a ks).2) (it := (formS a ks).1) (by lia) (by lia) (by lia)
 by_cases hl : (encI (formS a ks).1).length < 32
 ·have e : itemS a ks = formS a ks := by rw [itemS, itemOf, if_pos hl]
  rw [e]
  refine' Call.set0 (fn_node_item _) (Ex.seq (St1.assign (Ev.call (Ev.g g_form_of) (Keeps'.fn rfl) (.cons Ev.name (.cons Ev.name .nil)) (Call.v h)) (by walk_at "v"))
   (Ex.seq (St1.assign (Ev.call (Ev.g g_encoded) (Keeps'.fn rfl) (.cons Ev.name .nil) (Call.v henc)) (by walk_at "v"))
   (Ex.ret (Ev.ifexp (d := itD (formS a ks).1) (x := true) (EvT.eq (EvT.cmp (Ev.call (Ev.g g_len) .builtin (.cons Ev.name .nil) (CallV.lenY (b := encI (formS a ks).1) (by lia))) (Ev.g g_INLINE_BELOW) .lt) ?_) (fun Z => Ev.name) (fun h => nomatch h))))) (low_itD _ _) (fun h => low_putK h _)
  exact decide_eq_true (by lia)
 ·have hof := of_ok (B := B) (n := n + 48) (x := encI (formS a ks).1) hd2 (by lia) (by lia)
  rw [putK_putK] at hof
  have e : itemS a ks = (.b (dig (posK (addK (formS a ks).2 (encI (formS a ks).1)) (encI (formS a ks).1))), addK (formS a ks).2 (encI (formS a ks).1)) := by rw [itemS, itemOf, if_neg hl]
  rw [e, itD_b]
  refine' Call.set0 (fn_node_item _) (Ex.seq (St1.assign (Ev.call (Ev.g g_form_of) (Keeps'.fn rfl) (.cons Ev.name (.cons Ev.name .nil)) (Call.v h)) (by walk_at "v"))
   (Ex.seq (St1.assign (Ev.call (Ev.g g_encoded) (Keeps'.fn rfl) (.cons Ev.name .nil) (Call.v henc)) (by walk_at "v"))
   (Ex.ret (Ev.ifexp (x := false) (EvT.eq (EvT.cmp (Ev.call (Ev.g g_len) .builtin (.cons Ev.name .nil) (CallV.lenY (b := encI (formS a ks).1) (by lia))) (Ev.g g_INLINE_BELOW) .lt) ?_) (fun h => nomatch h)
    (fun Z => Ev.meth Ev.name (Meth.inst (ck_num _) hm ht hd2.inst rfl) (Keeps'.fn rfl) (.cons Ev.name .nil) (Call.v hof)))))) rfl (fun h => low_putK h _)
  exact decide_eq_false (by lia)
noncomputable abbrev foLoc (nd dg : D) (kind way held found kid : Option D) : Loc := [(Str.ofString "node", some nd), (Str.ofString "digest", some dg), (Str.ofString "kind", kind), (Str.ofString "way", way), (Str.ofString "held", held), (Str.ofString "found", found), (Str.ofString "kid", kid)]
theorem fo_loop {kids : Fin 16 -> Nd} {nd : D} {kind way held : Option D}
  (ih : ∀ (i' : Fin 16) (σ : Sto) (ks : Bk), DigAt σ i j ks -> ks.length + cntN (kids i') <= 80000 -> (kids i').isNil = false -> Call 210 [nodeD (kids i'), .inst 290 i] (itD (itemS (kids i') ks).1) B n σ (putK σ j (itemS (kids i') ks).2)) :
  ∀ (l : List (Fin 16)) (σ : Sto) (ks : Bk) (acc : List D) (o : Option D), DigAt σ i j ks -> ks.length + (l.map fun i => cntN (kids i)).sum <= 80000 -> acc.length + l.length <= 1000 -> ∃ o',
   ForL (loopTgt (sAt 5 (bodyIn (KK B.w) 203))) (loopBody (sAt 5 (bodyIn (KK B.w) 203))) B gl_form_of n (l.map fun i => nodeD (kids i)) .next (foLoc nd (.inst 290 i) kind way held (some (.obj σ.length)) o) (foLoc nd (.inst 290 i) kind way held (some (.obj σ.length)) o')
    (σ ++ [.lst acc]) (putK σ j (itemsS kids l ks).2 ++ [.lst (acc ++ itDs (itemsS kids l ks).1)]) := by
 intro l
 induction l with
 | nil =>
  intro σ ks acc o hd hz hl
  refine ⟨o, ?_⟩
  rw [itemsS_0, itDs_0, List.append_nil, putK_self hd]
  exact .nil
 | cons i' l ihl =>
  intro σ ks acc o hd hz hl
  rw [List.map_cons, List.sum_cons] at hz
  rw [List.length_cons] at hl
  have hm := (formS_more (kids i') ks).2
  refine x1_1 (ihl (putK σ j (itemS (kids i') ks).2) (itemS (kids i') ks).2 (acc ++ [itD (itemS (kids i') ks).1]) (some (nodeD (kids i'))) hd.set (by lia) (by rw [List.length_append, List.length_singleton]; lia)) fun o' hfor => ?_
  rw [putK_putK, putK_length, List.append_assoc] at hfor
  refine ⟨o', ?_⟩
  rw [itemsS_c, itDs_c]
  refine .step (Tgt.name (by walk_at "v")) (Ex.seq (St1.expr (d := .none) (Ev.meth (ds := [itD (itemS (kids i') ks).1]) (σ2 := putK σ j (itemS (kids i') ks).2 ++ [.lst acc]) (σ3 := putK σ j (itemS (kids i') ks).2 ++ [.lst (acc ++ [itD (itemS (kids i') ks).1])]) Ev.name (Meth.append get_last) .builtin (.cons (Ev.ifexp (σ1 := σ ++ [.lst acc]) (x := (kids i').isNil) (EvT.eq (EvT.cmp Ev.name .cnone (.isN (d := nodeD (kids i')) (hr := nodeD_raw))) (nodeD_isNone _)) (fun h => ?_) (fun h => ?_)) .nil) ?_)) .nil) hfor
  ·rw [isNil_eq h, itemS_nil, putK_self hd, itD_b]
   exact (Ev.g g_NOUGHT)
  ·have := ih i' (σ ++ [.lst acc]) ks (hd.app _) (by lia) h
   rw [putK_app hd.lt] at this
   exact Ev.call (Ev.g g_node_item) (Keeps'.fn rfl) (.cons Ev.name (.cons Ev.name .nil)) (Call.v this)
  ·have := CallV.appendL (B := B) (n := n) (σ := putK σ j (itemS (kids i') ks).2) (ds := acc) (d := itD (itemS (kids i') ks).1) (by lia)
   rwa [putK_length] at this
theorem toI_ok {p : Pth} {leaf : Bool} (h : p.length <= 90000) : Call 79 [pth p, .bool leaf] (.bytes (packI (toI p) leaf)) B (n + 1) σ σ := packed_ok toI_in (by rw [toI_length]; exact h)
theorem form_nil : Call 203 [nodeD .nil, .inst 290 i] (itD (formS .nil ks).1) B (n + 1) σ σ := by
 rw [nodeD_nil, formS_0, itD_b]
 exact Call.rt (fn_form_of _) (Rt.ifT (EvT.cmp Ev.name .cnone (.isN (d := .none))) (Rt.ret (Ev.g g_NOUGHT))) rfl
theorem form_leaf {p : Pth} {v : List UInt8} (hp : p.length <= 90000) : Call 203 [nodeD (.leaf p v), .inst 290 i] (itD (formS (.leaf p v) ks).1) B (n + 2) σ σ := by
 have hl := low_itD σ.length (formS (.leaf p v) ks).1
 rw [formS_l, itD_l, itDs_two, itD_b, itD_b] at *
 rw [nodeD_leaf]
 exact Call.rt (fn_form_of _) (Rt.ifF (EvT.cmp Ev.name .cnone (.isN (d := leafD p v))) (Rt.seq (St1.unpack (ds := [.str "leaf", pth p, .bytes v]) Ev.name (by walk_at "v"))
  (Rt.ifT (EvT.cmp Ev.name .cstr (.isS (by decide))) (Rt.ret (Ev.list (.cons (Ev.call (Ev.g g_packed) (Keeps'.fn rfl) (.cons Ev.name (.cons .cbool .nil)) (Call.v (toI_ok (n := n) hp))) (.cons Ev.name .nil))))))) hl
theorem form_ext {p : Pth} {a : Nd} (hp : p.length <= 90000) (h : Call 210 [nodeD a, .inst 290 i] (itD (itemS a ks).1) B (n + 1) σ (putK σ j (itemS a ks).2)) : Call 203 [nodeD (.ext p a), .inst 290 i] (itD (formS (.ext p a) ks).1) B (n + 2) σ (putK σ j (formS (.ext p a) ks).2) := by
 have hl := low_itD σ.length (formS (.ext p a) ks).1
 rw [formS_ext] at *
 rw [itD_l, itDs_two, itD_b] at *
 rw [nodeD_ext]
 refine' Call.set0 (fn_form_of _) (Ex.ifF (EvT.cmp Ev.name .cnone (.isN (d := extD p a))) (Ex.seq (St1.unpack (ds := [.str "ext", pth p, nodeD a]) Ev.name (by walk_at "v"))
  (Ex.ifF (EvT.cmp Ev.name .cstr (.isS (by decide))) (Ex.ifT (EvT.cmp Ev.name .cstr (.isS (by decide))) (Ex.ret (Ev.list (.cons (Ev.call (Ev.g g_packed) (Keeps'.fn rfl) (.cons Ev.name (.cons .cbool .nil)) (Call.v (toI_ok (n := n) hp))) (.cons (Ev.call (Ev.g g_node_item) (Keeps'.fn rfl) (.cons Ev.name (.cons Ev.name .nil)) (Call.v h)) .nil)))))))) hl (fun h => low_putK h _)
theorem kidsD_map (kids : Fin 16 -> Nd) : kidsD kids = (List.finRange 16).map fun i => nodeD (kids i) := by
 unfold kidsD List.finRange; rw [List.map_ofFn]; rfl
theorem form_br {kids : Fin 16 -> Nd} {v : List UInt8} (hd : DigAt σ i j ks) (hz : ks.length + cntN (.br kids v) <= 80000)
  (ih : ∀ (i' : Fin 16) (σ : Sto) (ks : Bk), DigAt σ i j ks -> ks.length + cntN (kids i') <= 80000 -> (kids i').isNil = false -> Call 210 [nodeD (kids i'), .inst 290 i] (itD (itemS (kids i') ks).1) B n σ (putK σ j (itemS (kids i') ks).2)) :
  Call 203 [nodeD (.br kids v), .inst 290 i] (itD (formS (.br kids v) ks).1) B (n + 1) σ (putK σ j (formS (.br kids v) ks).2) := by
 have hlow := low_itD σ.length (formS (.br kids v) ks).1
 rw [cntN_b] at hz
 refine x1_1 (fo_loop (B := B) (n := n) (nd := brD kids v) (kind := some (.str "branch")) (way := some (.tup (kidsD kids))) (held := some (.bytes v)) ih (List.finRange 16) σ ks [] none hd (by lia) (by simp)) fun o hl => ?_
 rw [List.nil_append, <- kidsD_map] at hl
 have hlen := (itemsS_len kids (List.finRange 16) ks).2.2
 rw [List.length_finRange] at hlen
 have hap := CallV.appendL (B := B) (n := n) (σ := putK σ j (itemsS kids (List.finRange 16) ks).2) (ds := itDs (itemsS kids (List.finRange 16) ks).1) (d := .bytes v) (by rw [itDs_length]; lia)
 rw [putK_length] at hap
 have e : itDs (itemsS kids (List.finRange 16) ks).1 ++ [D.bytes v] = itDs ((itemsS kids (List.finRange 16) ks).1 ++ [.b v]) := by
  rw [itDs_append, itDs_c, itDs_0, itD_b]
 rw [formS_br] at *
 rw [itD_l] at *
 rw [nodeD_br]
 rw [e] at hap
 have hfr := fun pos => Ev.freezeLast (pos := pos) (B := B) (gl := gl_form_of) (n := n) (σ := putK σ j (itemsS kids (List.finRange 16) ks).2) (x := Str.ofString "found") (ds := itDs ((itemsS kids (List.finRange 16) ks).1 ++ [.b v])) (ρ := foLoc (brD kids v) (.inst 290 i) (some (.str "branch")) (some (.tup (kidsD kids))) (some (.bytes v)) (some (.obj σ.length)) o) (by rw [putK_length]; walk_at "v")
 refine' Call.set (σj := [.dead]) (fn_form_of _) (Ex.ifF (EvT.cmp Ev.name .cnone (.isN (d := brD kids v))) (Ex.seq (St1.unpack (ds := [.str "branch", .tup (kidsD kids), .bytes v]) Ev.name (by walk_at "v"))
  (Ex.ifF (EvT.cmp Ev.name .cstr (.isS (by decide))) (Ex.ifF (EvT.cmp Ev.name .cstr (.isS (by decide)))
  (Ex.seq (St1.assign (Ev.listM .nil) (by walk_at "v")) (Ex.seq (St1.of (StX.for_ (EvI.val Ev.name .tup) hl))
  (Ex.seq (St1.expr (d := .none) (Ev.meth (ds := [.bytes v]) Ev.name (Meth.append (ds := itDs (itemsS kids (List.finRange 16) ks).1) ?_) .builtin (.cons Ev.name .nil) hap)) (Ex.ret (hfr _))))))))) hlow (fun h => low_putK h _)
 rw [List.getElem?_append_right (by rw [putK_length]; exact Nat.le_refl _), putK_length]; simp
theorem form_of_ok : ∀ (a : Nd) {k n : Nat} {σ : Sto} {ks : Bk}, DigAt σ i j ks -> fit a k -> k <= 1000 -> ks.length + cntN a <= 80000 -> 2 * k + 60 <= n -> Call 203 [nodeD a, .inst 290 i] (itD (formS a ks).1) B n σ (putK σ j (formS a ks).2)
 | .nil, k, n, σ, ks, hd, hf, hk, hz, hn => by
  refine x1_1 (⟨n - 1, by lia⟩ : ∃ m, n = m + 1) fun n Q => ?_; subst Q
  have e : (formS .nil ks).2 = ks := by rw [formS_0]
  rw [e, putK_self hd]; exact form_nil
 | .leaf p v, k, n, σ, ks, hd, hf, hk, hz, hn => by
  refine x1_1 (⟨n - 2, by lia⟩ : ∃ m, n = m + 2) fun n Q => ?_; subst Q
  have e : (formS (.leaf p v) ks).2 = ks := by rw [formS_l]
  rw [fit_l] at hf
  rw [e, putK_self hd]; exact form_leaf (by lia)
 | .ext p a, k, n, σ, ks, hd, hf, hk, hz, hn => by
  refine x1_1 (⟨n - 52, by lia⟩ : ∃ m, n = m + 52) fun n Q => ?_; subst Q
  rw [fit_e] at hf
  rw [cntN_e] at hz
  exact form_ext (n := n + 50) (by lia) (node_item_ok (n := n) hd hf.2.2 (by lia) (by lia) (form_of_ok a hd hf.2.2 (by lia) (by lia) (by lia)))
 | .br kids v, k, n, σ, ks, hd, hf, hk, hz, hn => by
  refine x1_1 (⟨n - 52, by lia⟩ : ∃ m, n = m + 52) fun n Q => ?_; subst Q
  rw [fit_b] at hf
  exact form_br (n := n + 51) hd hz fun i' σ ks hd hz hi => (hf.2 i').elim (fun h => by rw [hi] at h; cases h) fun h => node_item_ok (n := n) hd h.2 (by lia) hz (form_of_ok (kids i') hd h.2 (by lia) hz (by lia))
noncomputable def rootS (a : Nd) (ks : Bk) : List UInt8 × Bk :=
 (dig (posK (addK (formS a ks).2 (encI (formS a ks).1)) (encI (formS a ks).1)), addK (formS a ks).2 (encI (formS a ks).1))
theorem root_ok {a : Nd} {k : Nat} (hd : DigAt σ i j ks) (hf : fit a k) (hk : k <= 1000) (hz : ks.length + cntN a <= 80000) (hn : 2 * k + 60 <= n) : Call 217 [nodeD a, .inst 290 i] (.bytes (rootS a ks).1) B (n + 1) σ (putK σ j (rootS a ks).2) := by
 have hm : findIn (KK B.w) (.ref 290) "of" = some (some (.ref 287)) := by kernel_rfl
 have ht : typeIn (KK B.w) (.ref 287) = some (.type "function") := by kernel_rfl
 refine x0_2 (formS_len hf hk ks) fun h1 h2 => ?_
 have hm1 := (formS_more a ks).1
 have hd2 := hd.set (ks' := (formS a ks).2)
 have henc := encoded_ok (B := B) (n := n) (σ := putK σ j (formS a ks).2) (it := (formS a ks).1) (by lia) (by lia) (by lia)
 refine x1_1 (⟨n - 2, by lia⟩ : ∃ m, n = m + 2) fun n Q => ?_; subst Q
 have hof := of_ok (B := B) (n := n) (x := encI (formS a ks).1) hd2 (by lia) (by lia)
 rw [putK_putK] at hof
 refine' Call.set0 (fn_root _) (Ex.ret (Ev.meth Ev.name (Meth.inst (ck_num _) hm ht hd.inst rfl) (Keeps'.fn rfl) (.cons (Ev.call (Ev.g g_encoded) (Keeps'.fn rfl) (.cons (Ev.call (Ev.g g_form_of) (Keeps'.fn rfl) (.cons Ev.name (.cons Ev.name .nil)) (Call.v (form_of_ok a hd hf hk hz hn))) .nil) (Call.v henc)) .nil) (Call.v hof))) rfl (fun h => low_putK h _)
structure TrieAt (σ : Sto) (t i : Nat) (a : Nd) : Prop where
 inst : σ[t]? = some (.ns [(Str.ofString "digest", .inst 290 i), (Str.ofString "node", nodeD a)])
end
end
section
noncomputable def hiN (x : UInt8) : Fin 16 := ⟨x.toNat / 16, by have := x.toNat_lt; lia⟩
noncomputable def loN (x : UInt8) : Fin 16 := ⟨x.toNat % 16, by lia⟩
noncomputable def nibN (b : List UInt8) : Pth := b.flatMap fun x => [hiN x, loN x]
theorem toI_nibN : ∀ b : List UInt8, toI (nibN b) = nibs b
 | [] => rfl
 | x :: b => by
  have ih := toI_nibN b
  unfold nibN toI nibs at *
  rw [List.flatMap_cons, List.flatMap_cons, List.map_append, ih]
  rfl
theorem nibN_length (b : List UInt8) : (nibN b).length = 2 * b.length := by
 rw [<- toI_length, toI_nibN, nibs_length]
mutual
theorem D.low_mono {k m : Nat} (h : k <= m) : ∀ {d : D}, d.low k = true -> d.low m = true
 | .none, _ => rfl
 | .bool _, _ => rfl
 | .int _, _ => rfl
 | .str _, _ => rfl
 | .bytes _, _ => rfl
 | .raw _, _ => rfl
 | .tup ds, q => D.lowL_mono h q
 | .lst ds, q => D.lowL_mono h q
 | .obj i, q => decide_eq_true (Nat.lt_of_lt_of_le (of_decide_eq_true q) h)
 | .inst _ i, q => decide_eq_true (Nat.lt_of_lt_of_le (of_decide_eq_true q) h)
theorem D.lowL_mono {k m : Nat} (h : k <= m) : ∀ {ds : List D}, D.lowL k ds = true -> D.lowL m ds = true
 | [], _ => rfl
 | d :: ds, q => by
  have q := Bool.and_eq_true_iff.mp q
  exact Bool.and_eq_true_iff.mpr ⟨D.low_mono h q.1, D.lowL_mono h q.2⟩
end
theorem Cell.low_mono {k m : Nat} (h : k <= m) {y : Cell} (q : y.low k = true) : y.low m = true := by
 have al : ∀ {K : Type} {l : List (K × D)}, (l.all fun x => x.2.low k) = true -> (l.all fun x => x.2.low m) = true := fun {K l} q => by
  rw [List.all_eq_true] at *
  exact fun x hx => D.low_mono h (q x hx)
 cases y with
 | lst ds => exact D.lowL_mono h q
 | pdct kvs => exact al q
 | idct kvs => exact al q
 | ns fs => exact al q
 | exc b => rfl
 | dead => rfl
theorem Call.at' {B : Bs} {f : Addr} {names vars : List Str} {gl : Gl} {args : List D} {d : D} {n : Nat} {σ τ σj : Sto} {fl : Fl} {ρ' : Loc}
  (K : FnAt B.w f names gl vars) (h : Ex (bodyIn (KK B.w) f) fl B gl n (locs0 names args vars) ρ' σ τ) (σ' : Sto) (e : τ = σ' ++ σj) (hd : resOf fl = d) (hl : σ.length <= σ'.length) (hlow : d.low σ'.length = true) (hs : Sto.low σ.length σ -> Sto.low σ'.length σ') (ha : args.length = names.length := by rfl) : Call f args d B (n + 1) σ σ' :=
 Call.at K (e ▸ h) ha hd hl hlow hs
section
variable {B : Bs} {n : Nat} {σ : Sto} {i j t : Nat} {ks : Bk} {a : Nd}
theorem nibbles_pth {b : List UInt8} (hz : b.length <= 40000) : Call 65 [.bytes b] (pth (nibN b)) B (n + 1) σ σ := by
 have := nibbles_of_ok (B := B) (n := n) (σ := σ) (b := b) (by lia)
 rw [<- toI_nibN] at this
 exact this
noncomputable abbrev trieC (i : Nat) (a : Nd) : Cell := .ns [(Str.ofString "digest", .inst 290 i), (Str.ofString "node", nodeD a)]
theorem low_trieC {k : Nat} (h : i < k) : (trieC i a).low k = true := by
 simp only [Cell.low, List.all_cons, List.all_nil, lowE, low_nodeD, decide_eq_true h]; rfl
theorem trie_put_ok {key v : List UInt8} {k : Nat} (hx : σ[t]? = some (trieC i a)) (hf : fit a k) (hk : k <= 1000) (hn : 2 * k + 6 <= n) (hz : key.length <= 32) : Call 238 [.inst 255 t, .bytes key, .bytes v] .none B (n + 1) σ (σ.set t (trieC i (withValue a (nibN key) v))) := by
 have kn : findIn (KK B.w) (.ref 255) "node" = some none := by kernel_rfl
 refine x1_1 (⟨n - 1, by lia⟩ : ∃ m, n = m + 1) fun n Q => ?_; subst Q
 have hwv := with_value_ok (B := B) (n := n) (σ := σ) (a := a) (p := nibN key) (v := v) hf (by rw [nibN_length]; lia) hk (by lia)
 refine' Call.set0 (fn_trie_put _) (Ex.ifF (EvT.eq (EvT.cmp (Ev.call (Ev.g g_len) .builtin (.cons Ev.name .nil) (CallV.lenY (b := key) (by lia))) (Ev.g g_LONGEST_KEY) .gt) ?_)
  (Ex.seq (St1.setattr (Ev.call (Ev.g g_with_value) (Keeps'.fn rfl) (.cons (Ev.attr (d := nodeD a) Ev.name (ck_trie _) kn hx rfl (hr := nodeD_raw)) (.cons (Ev.call (Ev.g g_nibbles_of) (Keeps'.fn rfl) (.cons Ev.name .nil) (Call.v (nibbles_pth (n := n) (by lia)))) (.cons Ev.name .nil))) (Call.v hwv)) Ev.name (ck_trie _) kn hx) .nil)) rfl ?_
 ·exact decide_eq_false (by lia)
 ·intro h
  have := low_at h hx
  simp only [Cell.low, List.all_cons, List.all_nil, lowE, Bool.and_eq_true] at this
  exact low_trieC (of_decide_eq_true this.1)
theorem trie_get_ok {key : List UInt8} {k : Nat} (hx : σ[t]? = some (trieC i a)) (hf : fit a k) (hk : k <= 1000) (hz : key.length <= 1000) : Call 245 [.inst 255 t, .bytes key] (.bytes (valueAt a (nibN key))) B (n + 3) σ σ := by
 have kn : findIn (KK B.w) (.ref 255) "node" = some none := by kernel_rfl
 exact Call.rt (fn_trie_get _) (Rt.ret (Ev.call (Ev.g g_value_at) (Keeps'.fn rfl) (.cons (Ev.attr (d := nodeD a) Ev.name (ck_trie _) kn hx rfl (hr := nodeD_raw)) (.cons (Ev.call (Ev.g g_nibbles_of) (Keeps'.fn rfl) (.cons Ev.name .nil) (Call.v (nibbles_pth (n := n + 1) (by lia)))) .nil)) (Call.v (value_at_ok (n := n) hf hk (by rw [nibN_length]; lia))))) rfl
theorem trie_root_ok {k : Nat} (hx : σ[t]? = some (trieC i a)) (hd : DigAt σ i j ks) (hf : fit a k) (hk : k <= 1000) (hz : ks.length + cntN a <= 80000) (hn : 2 * k + 60 <= n) : Call 252 [.inst 255 t] (.bytes (rootS a ks).1) B (n + 2) σ (putK σ j (rootS a ks).2) := by
 have kn : findIn (KK B.w) (.ref 255) "node" = some none := by kernel_rfl
 have kd : findIn (KK B.w) (.ref 255) "digest" = some none := by kernel_rfl
 refine' Call.set0 (fn_trie_root _) (Ex.ret (Ev.call (Ev.g g_root_trie) (Keeps'.fn rfl) (.cons (Ev.attr (d := nodeD a) Ev.name (ck_trie _) kn hx rfl (hr := nodeD_raw)) (.cons (Ev.attr Ev.name (ck_trie _) kd hx rfl) .nil)) (Call.v (root_ok (n := n) hd hf hk hz hn)))) rfl (fun h => low_putK h _)
theorem new_num : CallV (.ref 290) [] (.inst 290 σ.length) B (n + 2) σ (σ ++ [.ns [(Str.ofString "known", .obj (σ.length + 1))], .idct []]) := by
 have kk : findIn (KK B.w) (.ref 290) "known" = some none := by kernel_rfl
 refine CallV.make (fI := 273) (ck_num _) (by kernel_rfl) (by kernel_rfl) ?_
 have hx : (σ ++ [Cell.ns []] ++ [.idct []])[σ.length]? = some (.ns []) := by simp
 have e : (σ ++ [Cell.ns []] ++ [Cell.idct []]).set σ.length (.ns (nput [] (Str.ofString "known") (.obj (σ.length + 1)))) = σ ++ [.ns [(Str.ofString "known", .obj (σ.length + 1))], .idct []] := by
  simp [nput_0, nput_c]
 rw [<- e]
 have hdct : ∀ (pos : Pos) (ρ : Loc), Ev (.Dict [] [] pos) (.obj (σ.length + 1)) B gl_num_init n ρ (σ ++ [Cell.ns []]) (σ ++ [Cell.ns []] ++ [Cell.idct []]) := fun pos ρ => by
  have := Ev.dictI (B := B) (gl := gl_num_init) (n := n) (ρ := ρ) (σ := σ ++ [Cell.ns []]) (pos := pos)
  rwa [List.length_append, List.length_singleton] at this
 refine' Call.at (σj := []) (fn_num_init _) (by rw [List.append_nil]; exact (Ex.seq (St1.setattr (d := .obj (σ.length + 1)) (σ2 := σ ++ [Cell.ns []] ++ [Cell.idct []]) (i := σ.length) (hdct _ _) Ev.name (ck_num _) kk hx) .nil)) rfl rfl (by simp) rfl ?_
 rw [e]
 intro h y hy
 simp only [List.length_append, List.length_cons, List.length_nil] at h ⊢
 rcases List.mem_append.mp hy with q | q
 ·exact Cell.low_mono (by lia) (h y (List.mem_append_left _ q))
 ·simp only [List.mem_cons, List.not_mem_nil, or_false] at q
  rcases q with rfl | rfl
  ·simp [Cell.low, lowE]
  ·rfl
theorem new_trie (hi : i < σ.length) : CallV (.ref 255) [.inst 290 i] (.inst 255 σ.length) B (n + 2) σ (σ ++ [trieC i .nil]) := by
 have kn : findIn (KK B.w) (.ref 255) "node" = some none := by kernel_rfl
 have kd : findIn (KK B.w) (.ref 255) "digest" = some none := by kernel_rfl
 refine CallV.make (fI := 231) (ck_trie _) (by kernel_rfl) (by kernel_rfl) ?_
 have hx1 : (σ ++ [Cell.ns []])[σ.length]? = some (.ns []) := by simp
 have hx2 : ((σ ++ [Cell.ns []]).set σ.length (.ns (nput [] (Str.ofString "digest") (.inst 290 i))))[σ.length]? = some (.ns (nput [] (Str.ofString "digest") (.inst 290 i))) := by simp
 have e : ((σ ++ [Cell.ns []]).set σ.length (.ns (nput [] (Str.ofString "digest") (.inst 290 i)))).set σ.length (.ns (nput (nput [] (Str.ofString "digest") (.inst 290 i)) (Str.ofString "node") .none)) = σ ++ [trieC i .nil] := by
  rw [set_last, set_last, trieC, nodeD_nil]; rfl
 rw [<- e]
 refine' Call.at (σj := []) (fn_trie_init _) (by rw [List.append_nil]; exact (Ex.seq (St1.setattr (d := .inst 290 i) Ev.name Ev.name (ck_trie _) kd hx1) (Ex.seq (St1.setattr .cnone Ev.name (ck_trie _) kn hx2 (hz := by simp [nput_0, nput_c])) .nil))) rfl rfl (by simp) rfl ?_
 rw [e]
 intro h y hy
 simp only [List.length_append, List.length_cons, List.length_nil] at h ⊢
 rcases List.mem_append.mp hy with q | q
 ·exact Cell.low_mono (by lia) (h y (List.mem_append_left _ q))
 ·rw [List.mem_singleton.mp q]
  exact low_trieC (by lia)
end
end
section
section
variable {B : Bs} {gl : Gl} {n : Nat} {ρ : Loc} {σ : Sto}
theorem Ev.neg {x : Expr} {pos : Pos} {i : Int} {σ1 : Sto} (h : Ev x (.int i) B gl n ρ σ σ1) : Ev (.UnaryOp .USub x pos) (.int (-i)) B gl n ρ σ σ1 :=
 fun A env c ok fr E Q k => UnaryOp_ (h A env c ok fr _ _ fun v c1 l1 s1 r1 => by
  cases r1 with
  | int _ t => exact PyProof.Rows.neg_int (k _ (c1.tk _) (l1.trans (.tk _ _ _)) (s1.tk _) (.int _ _)))
theorem CallV.extendL {ds es : List D} (hz : ds.length + es.length <= 1000000) : CallV (.builtin "list.extend") [.obj σ.length, .lst es] .none B n (σ ++ [.lst ds]) (σ ++ [.lst (ds ++ es)]) := by
 have := CallV.extend (B := B) (n := n) (es := es) (get_last (σ := σ) (y := .lst ds)) hz
 rwa [set_last] at this
theorem Meth.extend {x : Nat} {ds : List D} (hx : σ[x]? = some (.lst ds)) : Meth (.obj x) "extend" (.builtin "list.extend") B σ := Meth.list hx F.slot_list_extend F.type_list_extend
theorem fd16 (x : UInt8) : Int.fdiv (x.toNat : Int) 16 = (x.toNat : Int) / 16 := Int.fdiv_eq_ediv_of_nonneg _ (by decide)
theorem fm16 (x : UInt8) : Int.fmod (x.toNat : Int) 16 = (x.toNat : Int) % 16 := Int.fmod_eq_emod_of_nonneg _ (by decide)
theorem lpath_loop {b : List UInt8} : ∀ (r : List UInt8) (acc : List Int) (o : Option D), acc.length + 2 * r.length <= 200000 -> ∃ o',
   ForL (loopTgt (sAt 1 (bodyIn (KK B.w) 323))) (loopBody (sAt 1 (bodyIn (KK B.w) 323))) B gl_law_path n (r.map fun x => D.int x.toNat) .next [(Str.ofString "key", some (.bytes b)), (Str.ofString "found", some (.obj σ.length)), (Str.ofString "octet", o)] [(Str.ofString "key", some (.bytes b)), (Str.ofString "found", some (.obj σ.length)), (Str.ofString "octet", o')] (σ ++ [.lst (acc.map D.int)]) (σ ++ [.lst ((acc ++ nibs r).map D.int)]) := by
 intro r
 induction r with
 | nil => intro acc o h; exact ⟨o, by rw [show nibs [] = [] from rfl, List.append_nil]; exact .nil⟩
 | cons x r ih =>
  intro acc o h
  refine x1_1 (ih (acc ++ [(x.toNat : Int) / 16, (x.toNat : Int) % 16]) (some (.int x.toNat)) (by simp only [List.length_append, List.length_cons, List.length_nil] at h ⊢; lia)) fun o' hl => ?_
  simp only [List.length_cons] at h
  refine ⟨o', .step (Tgt.name (by walk_at "v")) (Ex.seq (St1.expr (Ev.meth Ev.name (Meth.extend get_last) .builtin (.cons (Ev.list (.cons (Ev.bin Ev.name .cint (.floordiv (by decide) (no_pylong8 (by decide)))) (.cons (Ev.bin Ev.name .cint (.mod (by decide))) .nil))) .nil) (CallV.extendL (by simp; lia)))) .nil) ?_⟩
  rw [fd16, fm16]
  simpa [nibs_cons] using hl
theorem law_path_ok {b : List UInt8} (hz : b.length <= 40000) : Call 323 [.bytes b] (pth (nibN b)) B (n + 1) σ σ := by
 refine x1_1 (lpath_loop (B := B) (n := n) (σ := σ) (b := b) b [] none (by simp; lia)) fun o' hl => ?_
 rw [List.nil_append] at hl
 unfold pth
 rw [toI_nibN]
 refine Call.rt0 (σj := [.lst ((nibs b).map D.int)]) (fn_law_path _) (Rt.seq (St1.assign (Ev.listM .nil) (by walk_at "v")) (Rt.seq (St1.of (StX.for_ (EvI.val Ev.name .byt) hl)) (Rt.ret (Ev.call (Ev.g g_tuple) .type (.cons Ev.name .nil) (CallV.tupO get_last ?_))))) (low_pathI _ _)
 rw [List.length_map, nibs_length]; lia
noncomputable def valH (r : List Int) : Int := r.foldl (fun (acc x : Int) => acc * 16 + x) 0
theorem valH_foldl (r : List Int) : ∀ a : Int, r.foldl (fun (acc x : Int) => acc * 16 + x) a = a * 16 ^ r.length + valH r := by
 unfold valH
 induction r with
 | nil => intro a; simp
 | cons x r ih =>
  intro a
  rw [List.foldl_cons, List.foldl_cons, ih, ih (0 * 16 + x), List.length_cons, Int.pow_succ]
  rw [Int.add_mul, Int.zero_mul, Int.zero_add, Int.mul_assoc, Int.mul_comm 16]
  lia
theorem valH_cons (x : Int) (r : List Int) : valH (x :: r) = x * 16 ^ r.length + valH r := by
 show (x :: r).foldl _ 0 = _
 rw [List.foldl_cons, valH_foldl, Int.zero_mul, Int.zero_add]
theorem pow16_pos (k : Nat) : (0 : Int) < 16 ^ k := Int.pow_pos (by decide)
theorem valH_range : ∀ {r : List Int}, (∀ x ∈ r, 0 <= x /\ x <= 15) -> 0 <= valH r /\ valH r < 16 ^ r.length
 | [], _ => by simp [valH]
 | x :: r, h => by
  have ih := valH_range (r := r) fun y hy => h y (.tail _ hy)
  have hx := h x (.head _)
  have hp := pow16_pos r.length
  rw [valH_cons, List.length_cons, Int.pow_succ]
  have h1 : x * 16 ^ r.length <= 15 * 16 ^ r.length := Int.mul_le_mul_of_nonneg_right hx.2 (by lia)
  have h0 : 0 <= x * 16 ^ r.length := Int.mul_nonneg hx.1 (by lia)
  lia
theorem valH_append (p q : List Int) : valH (p ++ q) = valH p * 16 ^ q.length + valH q := by
 show (p ++ q).foldl _ 0 = _
 rw [List.foldl_append, valH_foldl]; rfl
theorem pow_256 (k : Nat) : (256 : Int) ^ k = 16 ^ (2 * k) := by rw [Int.pow_mul]; rfl
theorem prs_val : ∀ (m : Nat) (r : List Int), r.length = 2 * m -> (∀ x ∈ r, 0 <= x /\ x <= 15) -> ∀ X : Int, 0 <= X -> prs r = (List.range m).map fun (k : Nat) => (X * 16 ^ r.length + valH r) / 256 ^ (m - 1 - k) % 256
 | 0, r, hm, h, X, hX => by
  obtain rfl : r = [] := List.eq_nil_of_length_eq_zero (by lia)
  rfl
 | m + 1, r, hm, h, X, hX => by
  match r, hm with
  | a :: b :: r, hm =>
   simp only [List.length_cons] at hm
   have ha := h a (by simp)
   have hb := h b (by simp)
   have hr : ∀ x ∈ r, 0 <= x /\ x <= 15 := fun x hx => h x (by simp [hx])
   have hv := valH_range hr
   have hl : r.length = 2 * m := by lia
   have e : X * 16 ^ (a :: b :: r).length + valH (a :: b :: r) = (X * 256 + (16 * a + b)) * 16 ^ r.length + valH r := by
    rw [valH_cons, valH_cons, List.length_cons, List.length_cons, Int.pow_succ, Int.pow_succ]
    rw [Int.add_mul, Int.add_mul]
    have e1 : X * (16 ^ r.length * 16 * 16) = X * 256 * 16 ^ r.length := by
     rw [Int.mul_assoc (16 ^ r.length), Int.mul_comm (16 ^ r.length), <- Int.mul_assoc]; rfl
    have e2 : a * (16 ^ r.length * 16) = 16 * a * 16 ^ r.length := by
     rw [Int.mul_comm (16 ^ r.length) 16, <- Int.mul_assoc, Int.mul_comm a 16]
    rw [e1, e2]
    lia
   have ih := prs_val m r hl hr (X * 256 + (16 * a + b)) (by lia)
   rw [prs_c, ih, List.range_succ_eq_map, List.map_cons, List.map_map, e]
   congr 1
   ·rw [hl, <- pow_256, show m + 1 - 1 - 0 = m from by lia]
    have hp : (0 : Int) < 256 ^ m := Int.pow_pos (by decide)
    rw [hl, <- pow_256] at hv
    have e3 : ((X * 256 + (16 * a + b)) * 256 ^ m + valH r) / 256 ^ m = X * 256 + (16 * a + b) := by
     rw [Int.add_comm, Int.add_mul_ediv_right _ _ (Int.ne_of_gt hp), Int.ediv_eq_zero_of_lt hv.1 hv.2, Int.zero_add]
    rw [e3]
    lia
   ·refine List.map_congr_left fun k Z => ?_
    show _ = _ / 256 ^ (m + 1 - 1 - (k + 1)) % 256
    rw [show m + 1 - 1 - (k + 1) = m - 1 - k from by lia]
theorem valH_ahead (p : List Int) (leaf : Bool) : valH (aheadI p leaf) = (if p.length % 2 = 1 then (if leaf then 2 else 0) + 1 else (if leaf then 2 else 0) * 16) := by
 unfold aheadI
 split <;> cases leaf <;> rfl
theorem sp_loop {leaf : D} {p : D} : ∀ (r : List Int) (T : Int) (o : Option D), ∃ o',
  ForL (loopTgt (sAt 2 (bodyIn (KK B.w) 333))) (loopBody (sAt 2 (bodyIn (KK B.w) 333))) B gl_law_spelled n (r.map D.int) .next [(Str.ofString "path", some p), (Str.ofString "is_leaf", some leaf), (Str.ofString "total", some (.int T)), (Str.ofString "nibble", o)] [(Str.ofString "path", some p), (Str.ofString "is_leaf", some leaf), (Str.ofString "total", some (.int (r.foldl (fun (acc x : Int) => acc * 16 + x) T))), (Str.ofString "nibble", o')] σ σ := by
 intro r
 induction r with
 | nil => intro T o; exact ⟨o, .nil⟩
 | cons x r ih =>
  intro T o
  refine x1_1 (ih (T * 16 + x) (some (.int x))) fun o' hl => ?_
  exact ⟨o', .step (Tgt.name (by walk_at "v")) (Ex.seq (St1.assign (Ev.bin (Ev.bin Ev.name .cint (.mul (.inr (by decide)))) Ev.name .add) (by walk_at "v")) .nil) hl⟩
theorem log2_le {k m : Nat} (h : k < 2 ^ (m + 1)) : k.log2 <= m := by
 by_cases h0 : k = 0
 ·subst h0; rw [show Nat.log2 0 = 0 from by decide]; lia
 ·exact Nat.lt_succ_iff.mp ((Nat.log2_lt h0).mpr h)
theorem no_pylongP {x : Int} {k : Nat} (hk : k <= 1000) : Builtin.divisionGoesByPylong x ((256 : Int) ^ k) = false := by
 refine no_pylong8 ?_
 split
 ·decide
 ·have e : ((256 : Int) ^ k).natAbs = 2 ^ (8 * k) := by rw [KTBy.p256, Int.natAbs_natCast, Nat.pow_mul]
  rw [e]
  have : (2 ^ (8 * k)).log2 <= 8 * k := log2_le (Nat.pow_lt_pow_right (by decide) (by lia))
  lia
theorem upsD_map (m : Nat) : ups (m : Int) (-1) (m + 1) = (List.range (m + 1)).map fun (k : Nat) => D.int ((m : Int) - (k : Int)) := by
 unfold ups
 refine List.map_congr_left fun k Z => ?_
 congr 1; lia
theorem spelled_ok {p : List Int} {leaf : Bool} (hp : ∀ x ∈ p, 0 <= x /\ x <= 15) (hz : p.length <= 1000) : Call 333 [pathI p, .bool leaf] (.bytes (packI p leaf)) B (n + 1) σ σ := by
 refine x1_2 (ahead_even p leaf) fun m hm hm2 => ?_
 have hrow : ∀ x ∈ aheadI p leaf ++ p, 0 <= x /\ x <= 15 := fun x hx => (List.mem_append.mp hx).elim (ahead_in p leaf x) (hp x)
 have hmd : (p.length : Int).fmod 2 = (p.length : Int) % 2 := Int.fmod_eq_emod_of_nonneg _ (by decide)
 have hdd : (p.length : Int).fdiv 2 = (p.length : Int) / 2 := Int.fdiv_eq_ediv_of_nonneg _ (by decide)
 refine x1_1 (sp_loop (B := B) (n := n) (σ := σ) (leaf := .bool leaf) (p := pathI p) p (valH (aheadI p leaf)) none) fun o hl => ?_
 have hT : p.foldl (fun (acc x : Int) => acc * 16 + x) (valH (aheadI p leaf)) = valH (aheadI p leaf ++ p) := by rw [valH_append, valH_foldl]
 rw [hT] at hl
 have hlen : (aheadI p leaf).length = if p.length % 2 = 1 then 1 else 2 := by unfold aheadI; split <;> rfl
 rw [List.length_append, hlen] at hm
 have hm1 : (p.length : Int) / 2 = ((m - 1 : Nat) : Int) := by split at hm <;> lia
 have hm0 : 1 <= m := by split at hm <;> lia
 have hrl : (aheadI p leaf ++ p).length = 2 * m := by rw [List.length_append, hlen]; exact hm
 have hv := prs_val m (aheadI p leaf ++ p) hrl hrow 0 (by decide)
 rw [Int.zero_mul, Int.zero_add] at hv
 have hv0 := (valH_range hrow).1
 have hpl := prs_length hrl
 refine x1_1 (⟨m - 1, by lia⟩ : ∃ k, m = k + 1) fun m Q => ?_; subst Q
 rw [show m + 1 - 1 = m from by lia] at hm1
 generalize hTT : valH (aheadI p leaf ++ p) = T at *
 refine Call.rt (fn_law_spelled _) (Rt.seq (St1.assign (d := .int ((if leaf then 2 else 0) + ((p.length : Int) % 2))) (Ev.bin (Ev.ifexp (d := .int (if leaf then 2 else 0)) (EvT.val Ev.name .bool) (fun h => Ev.eq .cint (by rw [h]; rfl)) (fun h => Ev.eq .cint (by rw [h]; rfl))) (Ev.eq (Ev.bin (Ev.call (Ev.g g_len) .builtin (.cons Ev.name .nil) (CallV.lenP (by lia))) .cint (.mod (by decide))) (by rw [hmd])) .add) (by walk_at "v")) ?_) rfl
 have rest : Rt ((bodyIn (KK B.w) 333).drop 2) (.bytes (packI p leaf)) B gl_law_spelled n [(Str.ofString "path", some (pathI p)), (Str.ofString "is_leaf", some (.bool leaf)), (Str.ofString "total", some (.int (valH (aheadI p leaf)))), (Str.ofString "nibble", none)] σ σ := by
  refine Rt.seq (St1.of (StX.for_ (EvI.val Ev.name .path) hl)) (Rt.ret (Ev.call (Ev.g g_bytes) .type (.cons (Ev.comp (σ' := σ) (es := (prs (aheadI p leaf ++ p)).map D.int) (tgts := [Str.ofString "turn"]) (caps := [(Str.ofString "total", .int T)]) (.of (capN := [Str.ofString "total"]) rfl (by decide) (Clos.one rfl)) (EvI.rangeD (m := m) (Ev.g g_range) (.cons (Ev.eq (Ev.bin (Ev.call (Ev.g g_len) .builtin (.cons Ev.name .nil) (CallV.lenP (by lia))) .cint (.floordiv (by decide) (no_pylong8 (by decide)))) ?_) (.cons (Ev.neg .cint) (.cons (Ev.neg .cint) .nil))) (by lia)) (.cons (by walk_at "v") .nil) ?_ ?_) .nil) (CallV.bytL ?_ ?_)))
  ·rw [hdd, hm1]
  ·rw [upsD_map, hv, List.map_map]
   unfold compLoc
   have hr : ∀ k ∈ List.range (m + 1), k <= m := fun k hk => by have := List.mem_range.mp hk; lia
   revert hr
   generalize List.range (m + 1) = l
   intro hr
   refine (?_ : ∀ o : Option D, CompL _ _ _ _ _ _ _ _ [(Str.ofString "turn", o), (Str.ofString "total", some (.int T))] σ σ) none
   induction l with
   | nil => intro o; exact .nil
   | cons k l ih =>
    intro o
    have hk := hr k (.head _)
    have e : ((m : Int) - (k : Int)).toNat = m + 1 - 1 - k := by lia
    refine .keep (σ1 := σ) (σ2 := σ) (TgtL.name (by walk_at "v")) .nil (Ev.eq (Ev.bin (Ev.bin Ev.name (Ev.bin .cint Ev.name (.pow (j := (m : Int) - (k : Int)) (by lia) (by lia) (by decide))) (.floordiv ?_ ?_)) .cint (.mod (by decide))) ?_) (ih (fun k hk => hr k (.tail _ hk)) _)
    ·exact Int.ne_of_gt (Int.pow_pos (by decide))
    ·exact no_pylongP (by lia)
    ·rw [e, Int.fdiv_eq_ediv_of_nonneg _ (Int.le_of_lt (Int.pow_pos (by decide))), Int.fmod_eq_emod_of_nonneg _ (by decide)]
     rfl
  ·rw [ups, List.length_map, List.length_range]; lia
  ·exact prs_in hrow
  ·rw [hpl]; lia
 by_cases hod : p.length % 2 = 1
 ·have e1 : ((if leaf then 2 else 0 : Int) + ((p.length : Int) % 2)) = valH (aheadI p leaf) := by rw [valH_ahead, if_pos hod]; lia
  rw [e1]
  refine Rt.ifF (EvT.eq (EvT.cmp (Ev.bin (Ev.call (Ev.g g_len) .builtin (.cons Ev.name .nil) (CallV.lenP (by lia))) .cint (.mod (by decide))) .cint .eqI) ?_) rest
  rw [hmd]; exact beq_false_of_ne (by lia)
 ·have e1 : ((if leaf then 2 else 0 : Int) + ((p.length : Int) % 2)) * 16 = valH (aheadI p leaf) := by rw [valH_ahead, if_neg hod]; congr 1; lia
  refine Rt.ifT (EvT.eq (EvT.cmp (Ev.bin (Ev.call (Ev.g g_len) .builtin (.cons Ev.name .nil) (CallV.lenP (by lia))) .cint (.mod (by decide))) .cint .eqI) ?_) (Rt.seq (St1.assign (d := .int (valH (aheadI p leaf))) (Ev.eq (Ev.bin Ev.name .cint (.mul (.inr (by decide)))) (by rw [e1])) (by walk_at "v")) rest)
  rw [hmd, beq_iff_eq]; lia
end
end
section
noncomputable def readN : List UInt8 -> Option (Pth × Bool)
 | [] => none
 | x :: r => if 3 < (hiN x).val then none else if (hiN x).val % 2 = 1 then some (loN x :: nibN r, decide (1 < (hiN x).val)) else if (loN x).val = 0 then some (nibN r, decide (1 < (hiN x).val)) else none
noncomputable def readD : Option (Pth × Bool) -> D
 | none => .none
 | some (p, l) => .tup [pth p, .bool l]
theorem nibN_cons (x : UInt8) (r : List UInt8) : nibN (x :: r) = hiN x :: loN x :: nibN r := rfl
section
variable {B : Bs} {gl : Gl} {n : Nat} {ρ : Loc} {σ : Sto}
theorem Slc.from2 {p : Pth} (hz : p.length <= 1000000) : Slc (pth p) (.int 2) .none .none (pth (p.drop 2)) B n σ := Slc.from (k := 2) hz
theorem law_read_ok {b : List UInt8} (hz : b.length <= 30000) : Call 340 [.bytes b] (readD (readN b)) B (n + 2) σ σ := by
 have hlow : (readD (readN b)).low σ.length = true := by
  unfold readD
  split
  ·rfl
  ·simp only [lowE, low_pathI]; rfl
 cases b with
 | nil => exact Call.rt (fn_law_read _) (Rt.ifT (EvT.eq (EvT.or (x := true) (y := true) (EvT.eq (EvT.cmp Ev.name .cbytes .eqY) rfl) (fun h => nomatch h) (fun Z => rfl)) rfl) (Rt.ret .cnone)) hlow
 | cons x r =>
  have hx := x.toNat_lt
  have hlp := law_path_ok (B := B) (n := n) (σ := σ) (b := x :: r) (by lia)
  have hg : ((x :: r).getD 0 0).toNat = x.toNat := rfl
  have hnl : (nibN (x :: r)).length <= 100000 := by rw [nibN_length]; lia
  by_cases h3 : 3 < (hiN x).val
  ·have h3' : 3 < x.toNat / 16 := h3
   rw [readN, if_pos h3] at *
   exact Call.rt (fn_law_read _) (Rt.ifT (EvT.eq (EvT.or (y := true) (EvT.cmp Ev.name .cbytes .eqY) (fun Z => EvT.eq (EvT.cmp (Ev.sub Ev.name .cint (.byt (b := x :: r) (by decide) (by simp only [List.length_cons]; lia) (by lia))) .cint .gt) (decide_eq_true (by show (63 : Int) < (x.toNat : Int); lia))) (fun Z => rfl)) (by rw [Bool.or_true])) (Rt.ret .cnone)) hlow
  ·have h3' : ¬ 3 < x.toNat / 16 := h3
   rw [readN, if_neg h3] at *
   refine Call.rt (fn_law_read _) (Rt.ifF (EvT.eq (EvT.or (x := false) (y := false) (EvT.eq (EvT.cmp Ev.name .cbytes .eqY) rfl) (fun Z => EvT.eq (EvT.cmp (Ev.sub Ev.name .cint (.byt (b := x :: r) (by decide) (by simp only [List.length_cons]; lia) (by lia))) .cint .gt) (decide_eq_false (by show ¬ (63 : Int) < (x.toNat : Int); lia))) (fun Z => rfl)) rfl)
    (Rt.seq (St1.unpack (ds := [pth (nibN (x :: r)), .int ((hiN x).val : Int)]) (Ev.tuple (.cons (Ev.call (Ev.g g_law_path) (Keeps'.fn rfl) (.cons Ev.name .nil) (Call.v hlp)) (.cons (Ev.eq (Ev.bin (Ev.sub Ev.name .cint (.byt (b := x :: r) (by decide) (by simp only [List.length_cons]; lia) (by lia))) .cint (.floordiv (by decide) (no_pylong8 (by decide)))) ?_) .nil))) (by walk_at "v") (hw := fun env hk => swapped_or rfl (by decide) env hk)) ?_)) hlow
   ·show D.int (Int.fdiv (x.toNat : Int) 16) = _
    rw [fd16]; rfl
   ·have hfm : Int.fmod ((hiN x).val : Int) 2 = (((hiN x).val % 2 : Nat) : Int) := by rw [Int.fmod_eq_emod_of_nonneg _ (by decide)]; lia
    have hgt : decide ((1 : Int) < ((hiN x).val : Int)) = decide (1 < (hiN x).val) := by rw [decide_eq_decide]; lia
    by_cases ho : (hiN x).val % 2 = 1
    ·rw [if_pos ho] at *
     exact Rt.ifT (EvT.eq (EvT.cmp (Ev.bin Ev.name .cint (.mod (by decide))) .cint .eqI) (by rw [hfm, ho]; rfl)) (Rt.ret (Ev.tuple (.cons (Ev.slice Ev.name (.some .cint) .none .none (Slc.from1 (p := nibN (x :: r)) (by lia))) (.cons (Ev.eq (Ev.cmp Ev.name .cint .gt) (by rw [hgt])) .nil))))
    ·rw [if_neg ho] at *
     refine Rt.ifF (EvT.eq (EvT.cmp (Ev.bin Ev.name .cint (.mod (by decide))) .cint .eqI) (by rw [hfm]; exact beq_false_of_ne (by lia))) (Rt.ret (Ev.ifexp (x := decide ((loN x).val ≠ 0)) (EvT.eq (EvT.cmp (Ev.sub Ev.name .cint (.pth (p := nibN (x :: r)) (i := 1) (x := loN x) (by decide) rfl (by lia))) .cint .neI) ?_)
      (fun h => Ev.eq .cnone ?_) (fun h => Ev.eq (Ev.tuple (.cons (Ev.slice Ev.name (.some .cint) .none .none (Slc.from2 (p := nibN (x :: r)) (by lia))) (.cons (Ev.eq (Ev.cmp Ev.name .cint .gt) (by rw [hgt])) .nil))) ?_)))
     ·rw [Bool.eq_iff_iff, bne_iff_ne, decide_eq_true_iff]; lia
     ·rw [if_neg (of_decide_eq_true h)]; rfl
     ·rw [if_pos (by simpa using h)]; rfl
theorem unpacked_ok {b : List UInt8} {p : Pth} {l : Bool} (hz : b.length <= 30000) (hr : readN b = some (p, l)) : Call 86 [.bytes b] (.tup [pth p, .bool l]) B (n + 2) σ σ := by
 have hlow : (readD (some (p, l))).low σ.length = true := by
  unfold readD
  simp only [lowE, low_pathI]; rfl
 cases b with
 | nil => cases hr
 | cons x r =>
  have hnb := nibbles_pth (B := B) (n := n) (σ := σ) (b := x :: r) (by lia)
  have hnl : (nibN (x :: r)).length <= 100000 := by rw [nibN_length]; lia
  by_cases h3 : 3 < (hiN x).val
  ·rw [readN, if_pos h3] at hr; cases hr
  ·rw [readN, if_neg h3] at hr
   have hfm : Int.fmod ((hiN x).val : Int) 2 = (((hiN x).val % 2 : Nat) : Int) := by rw [Int.fmod_eq_emod_of_nonneg _ (by decide)]; lia
   have hgt : decide ((2 : Int) <= ((hiN x).val : Int)) = decide (1 < (hiN x).val) := by rw [decide_eq_decide]; lia
   refine Call.rt (fn_unpacked _) (Rt.seq (St1.assign (Ev.call (Ev.g g_nibbles_of) (Keeps'.fn rfl) (.cons Ev.name .nil) (Call.v hnb)) (by walk_at "v"))
    (Rt.ifF (EvT.eq (EvT.or (x := false) (y := false) (EvT.eq (EvT.not (EvT.val Ev.name (Truth.pth (p := nibN (x :: r)) (by lia)))) rfl) (fun Z => EvT.eq (EvT.cmp (Ev.sub Ev.name .cint (.pth (p := nibN (x :: r)) (i := 0) (x := hiN x) (by decide) rfl (by lia))) (Ev.bin (Ev.g g_LEAF) (Ev.g g_ODD) .add) .gt) (decide_eq_false (by lia))) (fun Z => rfl)) rfl)
    (Rt.seq (St1.assign (d := .bool (decide (1 < (hiN x).val))) (Ev.eq (Ev.cmp (Ev.sub Ev.name .cint (.pth (p := nibN (x :: r)) (i := 0) (x := hiN x) (by decide) rfl (by lia))) (Ev.g g_LEAF) .ge) (by rw [hgt])) (by walk_at "v")) ?_))) hlow
   by_cases ho : (hiN x).val % 2 = 1
   ·rw [if_pos ho] at hr
    cases hr
    exact Rt.ifT (EvT.eq (EvT.cmp (Ev.bin (Ev.sub Ev.name .cint (.pth (p := nibN (x :: r)) (i := 0) (x := hiN x) (by decide) rfl (by lia))) .cint (.mod (by decide))) (Ev.g g_ODD) .eqI) (by rw [hfm, ho]; rfl)) (Rt.ret (Ev.tuple (.cons (Ev.slice Ev.name (.some .cint) .none .none (Slc.from1 (p := nibN (x :: r)) (by lia))) (.cons Ev.name .nil))))
   ·rw [if_neg ho] at hr
    by_cases h0 : (loN x).val = 0
    ·rw [if_pos h0] at hr
     cases hr
     exact Rt.ifF (EvT.eq (EvT.cmp (Ev.bin (Ev.sub Ev.name .cint (.pth (p := nibN (x :: r)) (i := 0) (x := hiN x) (by decide) rfl (by lia))) .cint (.mod (by decide))) (Ev.g g_ODD) .eqI) (by rw [hfm]; exact beq_false_of_ne (by lia)))
      (Rt.ifF (EvT.eq (EvT.cmp (Ev.sub Ev.name .cint (.pth (p := nibN (x :: r)) (i := 1) (x := loN x) (by decide) rfl (by lia))) .cint .neI) (by rw [h0]; rfl))
      (Rt.ret (Ev.tuple (.cons (Ev.slice Ev.name (.some .cint) .none .none (Slc.from2 (p := nibN (x :: r)) (by lia))) (.cons Ev.name .nil)))))
    ·rw [if_neg h0] at hr; cases hr
end
end
section
section
variable {B : Bs} {gl : Gl} {n : Nat} {ρ : Loc} {σ σ1 σ2 σ3 σ4 σ5 σ6 σ7 : Sto}
theorem assign_sub {o i : Expr} {p : Pos} {a k v : D} {A : Around} {env : Env} {c : St} {w : Value} {E : Want Value} {Q : Want Unit} (ok : Ok B A n σ c) (fr : Frm env gl ρ c) (ho : Ev o a B gl n ρ σ σ1) (hi : Ev i k B gl n ρ σ1 σ2) (hs : SetI a k v B n σ2 σ3) (r : Rep c.G c.β w v)
  (kq : ∀ c', Le [] c c' -> Sim B σ3 c' -> Q () c'.s) : wpAny (model PG B.w) A (PySem.assign (.Subscript o i p) env w) Q E c.s := by
 rw [assign_Subscript]
 refine wpAny_bind (wpAny_holding (ho A env c ok fr _ _ fun vo c2 l2 s2 r2 => wpAny_bind (wpAny_holding (hi A env c2 (ok.step l2 s2) (fr.step l2) _ _ fun vi c3 l3 s3 r3 => ?_))))
 refine wpAny_bind (wpAny_standAt ?_)
 refine wpAny_bind (wpAny_holding (hs A c3 vo vi w ((ok.step l2 s2).step l3 s3) (l3.rep r2) r3 (l3.rep (l2.rep r)) _ _ fun c4 l4 s4 => wpAny_release (kq c4 ((l2.trans l3).trans l4) s4)))
theorem St1.unpackS {o1 i1 o2 i2 : Expr} {p1 p2 p pos : Pos} {kk : Nat} {value : Expr} {a1 k1 v1 a2 k2 v2 : D} (h : Ev value (.tup [v1, v2]) B gl n ρ σ σ1) (ho1 : Ev o1 a1 B gl n ρ σ1 σ2) (hi1 : Ev i1 k1 B gl n ρ σ2 σ3) (hs1 : SetI a1 k1 v1 B n σ3 σ4)
  (ho2 : Ev o2 a2 B gl n ρ σ4 σ5) (hi2 : Ev i2 k2 B gl n ρ σ5 σ6) (hs2 : SetI a2 k2 v2 B n σ6 σ7)
  (hw : ∀ env : Env, swappedStores [.Tuple [.Subscript o1 i1 p1, .Subscript o2 i2 p2] kk p] value env = pure none)
  (hs : ∀ env, swapsWithSole [.Tuple [.Subscript o1 i1 p1, .Subscript o2 i2 p2] kk p] value pos.line env = pure false := by intro _; rfl) :
  St1 (.Assign [.Tuple [.Subscript o1 i1 p1, .Subscript o2 i2 p2] kk p] value pos) B gl n ρ ρ σ σ7 := by
 intro A env c al st ok fr E Q kq
 refine PyProof.Rows.Assign_Tuple (h A env c ok fr _ _ fun v c1 l1 s1 r1 => ?_) (hs env) (hw env)
 refine x2_3 (rep_isTuple s1 r1) fun a vs Q ht rv => ?_; subst Q
 cases rv with | @cons w1 _ rv1 rv =>
 cases rv with | @cons w2 _ rv2 rv =>
 cases rv
 show wpAny _ A (do standAt p; PySem.unpack (.ref a) (assignEach [.Subscript o1 i1 p1, .Subscript o2 i2 p2] env)) _ _ _
 refine wpAny_bind (wpAny_standAt ?_)
 have he : assignEach [.Subscript o1 i1 p1, .Subscript o2 i2 p2] env = [(false, PySem.assign (.Subscript o1 i1 p1) env), (false, PySem.assign (.Subscript o2 i2 p2) env)] := rfl
 have hnone : ([(false, PySem.assign (.Subscript o1 i1 p1) env), (false, PySem.assign (.Subscript o2 i2 p2) env)].findIdx? (fun x => x.1)) = none := rfl
 have hl2 : ([(false, PySem.assign (.Subscript o1 i1 p1) env), (false, PySem.assign (.Subscript o2 i2 p2) env)] : List (Bool × (Value -> Sem Unit))).length = [w1, w2].toArray.size := rfl
 have hmp : ([(false, PySem.assign (.Subscript o1 i1 p1) env), (false, PySem.assign (.Subscript o2 i2 p2) env)] : List (Bool × (Value -> Sem Unit))).map (fun x => x.2) = [PySem.assign (.Subscript o1 i1 p1) env, PySem.assign (.Subscript o2 i2 p2) env] := rfl
 unfold PySem.unpack
 rw [he, hnone, hl2, hmp]
 generalize ht1 : PySem.assign (.Subscript o1 i1 p1) env = t1
 generalize ht2 : PySem.assign (.Subscript o2 i2 p2) env = t2
 refine wpAny_bind (wpAny_holding (wpAny_size ?_))
 refine wpAny_unpackItems_tuple ok.hnd ht fun h' hex hz => ?_
 have hall := extBut_all hex
 have l2 : Le [] c1 ⟨c1.G, c1.β, { c1.s with heap := h' }⟩ := le_ext (t := c1.s.toks) hall hz
 have s2 : Sim B σ1 ⟨c1.G, c1.β, { c1.s with heap := h' }⟩ := sim_ext (t := c1.s.toks) s1 hall hz
 have l12 := l1.trans l2
 refine wpAny_assignInOrder_more ?_
 rw [<- ht1]
 refine assign_sub (c := ⟨c1.G, c1.β, { c1.s with heap := h' }⟩) (ok.step l12 s2) (fr.step l12) ho1 hi1 hs1 (l2.rep rv1) fun c3 l3 s3 => ?_
 have l13 := l12.trans l3
 refine wpAny_assignInOrder_more ?_
 rw [<- ht2]
 refine assign_sub (ok.step l13 s3) (fr.step l13) ho2 hi2 hs2 (l3.rep (l2.rep rv2)) fun c4 l4 s4 => ?_
 have l14 := l13.trans l4
 exact wpAny_assignInOrder_none (kq c4 (le_mut l14) s4 (fr.step l14) st)
noncomputable abbrev wellC (sc : List Int) (spot seed : Int) : Cell := .lst [.lst (sc.map D.int), .int spot, .int seed]
noncomputable def WellOk (y : Cell) : Prop := ∃ sc spot seed, y = wellC sc spot seed /\ 0 <= spot /\ 0 <= seed /\ (∀ x ∈ sc, (0 : Int) <= x) /\ sc.length <= 63
theorem low_ints (k : Nat) (sc : List Int) : D.lowL k (sc.map D.int) = true := by
 rw [D.lowL_iff]
 intro d hd
 refine x1_2 (List.mem_map.mp hd) fun i Z Q => ?_; subst Q
 rfl
theorem WellOk.low {y : Cell} (h : WellOk y) (k : Nat) : y.low k = true := by
 refine x3_2 h fun sc spot seed Q Z => ?_; clear h; subst Q
 simp only [Cell.low, lowE, low_ints]; rfl
theorem swapped_none {o1 i1 o2 i2 : Expr} {p1 p2 p p' : Pos} {kk k' : Nat} {vs : List Expr} (env : Env) : swappedStores [.Tuple [.Subscript o1 i1 p1, .Subscript o2 i2 p2] kk p] (.Tuple vs k' p') env = pure none := by
 unfold swappedStores
 dsimp only
 split
 ·rfl
 ·split
  ·rfl
  ·rfl
theorem draw_ok {w : Nat} {y : Cell} {many : Int} (hx : σ[w]? = some y) (hy : WellOk y) (hm : 1 <= many) : ∃ r y', WellOk y' /\ 0 <= r /\ r < many /\ Call 304 [.obj w, .int many] (.int r) B (n + 1) σ (σ.set w y') := by
 refine x3_5 hy fun sc spot seed Q h1 h2 h3 h4 => ?_; clear hy; subst Q
 have hz : (sc.map D.int).length <= 1000000 := by rw [List.length_map]; lia
 have hlen : (sc.map D.int).length = sc.length := List.length_map _
 let fed : Int := if spot < (sc.length : Int) then sc.getD spot.toNat 0 else spot
 have hfed : 0 <= fed := by
  show 0 <= if spot < (sc.length : Int) then sc.getD spot.toNat 0 else spot
  split
  ·rename_i h
   have : spot.toNat < sc.length := by lia
   rw [List.getD_eq_getElem?_getD, List.getElem?_eq_getElem this]
   exact h3 _ (List.getElem_mem this)
  ·exact h1
 let seed' : Int := (seed * 75 + fed.fmod 65537 + 74).fmod 65537
 have hs' : 0 <= seed' := Int.fmod_nonneg_of_pos _ (by decide)
 let y1 : Cell := .lst ([.lst (sc.map D.int), .int spot, .int seed].set 1 (.int (spot + 1)))
 let y2 : Cell := wellC sc (spot + 1) seed'
 have g1 : (σ.set w y1)[w]? = some (.lst [.lst (sc.map D.int), .int (spot + 1), .int seed]) := get_set hx
 have g2 : (σ.set w y2)[w]? = some (.lst [.lst (sc.map D.int), .int (spot + 1), .int seed']) := get_set hx
 have e12 : (σ.set w y1).set w (.lst ([.lst (sc.map D.int), .int (spot + 1), .int seed].set 2 (.int seed'))) = σ.set w y2 := List.set_set ..
 let r : Int := if spot < (sc.length : Int) then fed.fmod many else seed'.fmod many
 have st1 : SetI (.obj w) (.int 1) (.int (spot + 1)) B n σ (σ.set w y1) := SetI.lst (i := 1) hx (by decide) (by simp) (by simp)
 have st2 : SetI (.obj w) (.int 2) (.int seed') B n (σ.set w y1) (σ.set w y2) := e12 ▸ SetI.lst (i := 2) g1 (by decide) (by simp) (by simp)
 refine ⟨r, y2, ⟨sc, spot + 1, seed', rfl, by lia, hs', h3, h4⟩, ?_, ?_, ?_⟩
 ·show 0 <= if spot < (sc.length : Int) then fed.fmod many else seed'.fmod many
  split <;> exact Int.fmod_nonneg_of_pos _ (by lia)
 ·show (if spot < (sc.length : Int) then fed.fmod many else seed'.fmod many) < many
  split <;> exact Int.fmod_lt_of_pos _ (by lia)
 ·have cnd : ∀ {gl : Gl} {ρ : Loc} {σ1 : Sto} {e : Expr} {a b c : D}, True := fun {_ _ _ _ _ _ _} => trivial
  refine' Call.set0 (fn_law_draw _) (Ex.seq (St1.assign (Ev.sub Ev.name .cint (.obj (d := .int spot) hx (by decide) rfl (by simp))) (by walk_at "v"))
   (Ex.seq (St1.assign (d := .int fed) (Ev.ifexp (x := decide (spot < (sc.length : Int))) (EvT.eq (EvT.cmp Ev.name (Ev.call (Ev.g g_len) .builtin (.cons (Ev.sub Ev.name .cint (.obj (d := .lst (sc.map D.int)) hx (by decide) rfl (by simp))) .nil) (CallV.lenL hz)) .lt) (by rw [hlen]))
     (fun h => Ev.sub (Ev.sub Ev.name .cint (.obj (d := .lst (sc.map D.int)) hx (by decide) rfl (by simp))) Ev.name (.lst (i := spot) (ds := sc.map D.int) (d := .int fed) h1 ?_ hz)) (fun h => Ev.eq (d := .int spot) Ev.name ?_)) (by walk_at "v"))
   (Ex.seq (St1.unpackS (v1 := .int (spot + 1)) (v2 := .int seed') (Ev.tuple (.cons (Ev.bin Ev.name .cint .add) (.cons (Ev.bin (Ev.bin (Ev.bin (Ev.bin (Ev.sub Ev.name .cint (.obj (d := .int seed) hx (by decide) rfl (by simp))) .cint (.mul (.inr (by decide)))) (Ev.bin Ev.name .cint (.mod (by decide))) .add) .cint .add) .cint (.mod (by decide))) .nil))) Ev.name .cint st1 Ev.name .cint st2 (fun env => swapped_none env))
   (Ex.ret (Ev.ifexp (d := .int r) (x := decide (spot < (sc.length : Int))) (EvT.eq (EvT.cmp Ev.name (Ev.call (Ev.g g_len) .builtin (.cons (Ev.sub Ev.name .cint (.obj (d := .lst (sc.map D.int)) g2 (by decide) rfl (by simp))) .nil) (CallV.lenL hz)) .lt) (by rw [hlen]))
     (fun h => Ev.eq (Ev.bin Ev.name Ev.name (.mod (by lia))) ?_) (fun h => Ev.eq (Ev.bin (Ev.sub Ev.name .cint (.obj (d := .int seed') g2 (by decide) rfl (by simp))) Ev.name (.mod (by lia))) ?_)))))) rfl ?_
  ·have h := of_decide_eq_true h
   rw [List.getElem?_map, List.getElem?_eq_getElem (by lia)]
   show some (D.int _) = some (D.int (if spot < (sc.length : Int) then sc.getD spot.toNat 0 else spot))
   rw [if_pos h, List.getD_eq_getElem?_getD, List.getElem?_eq_getElem (by lia)]; rfl
  ·show D.int spot = D.int (if spot < (sc.length : Int) then sc.getD spot.toNat 0 else spot)
   rw [if_neg (of_decide_eq_false h)]
  ·show D.int (fed.fmod many) = D.int (if spot < (sc.length : Int) then fed.fmod many else seed'.fmod many)
   rw [if_pos (of_decide_eq_true h)]
  ·show D.int (seed'.fmod many) = D.int (if spot < (sc.length : Int) then fed.fmod many else seed'.fmod many)
   rw [if_neg (of_decide_eq_false h)]
  ·intro _
   exact WellOk.low ⟨sc, spot + 1, seed', rfl, by lia, hs', h3, h4⟩ _
end
noncomputable def ePt : Expr -> List Expr × Gl
 | .Call _ as _ _ => (as, [])
 | .BinOp l _ r _ => ([l, r], [])
 | .Tuple as _ _ => (as, [])
 | .List as _ => (as, [])
 | .ListComp e (g :: _) s _ => (e :: g.target :: g.ifs, s.names)
 | _ => ([], [])
noncomputable def nE : Nat -> List Expr -> Expr
 | 0, e :: _ => e
 | k + 1, _ :: r => nE k r
 | _, [] => .Constant .none 0 ⟨0, 0, 0, 0⟩
noncomputable abbrev valOf := loopTgt
noncomputable def arg0 (e : Expr) : Expr := nE 0 (ePt e).1
noncomputable def arg1 (e : Expr) : Expr := nE 1 (ePt e).1
noncomputable def cTgt (e : Expr) : Expr := nE 1 (ePt e).1
noncomputable def cIfs (e : Expr) : List Expr := (ePt e).1.tail.tail
noncomputable def cElt (e : Expr) : Expr := nE 0 (ePt e).1
noncomputable def cGl (gl : Gl) (e : Expr) : Gl := relabelN gl (ePt e).2
noncomputable abbrev CompE (e : Expr) (B : Bs) (gl : Gl) (n : Nat) (ds es : List D) (ρ : Loc) (σ σ' : Sto) : Prop := CompL (cTgt e) (cIfs e) (cElt e) B (cGl gl e) n ds es ρ σ σ'
section
variable {B : Bs} {gl : Gl} {n : Nat} {ρ : Loc} {σ σ1 σ2 σ3 σ4 σ5 σ6 σ7 : Sto}
noncomputable abbrev keyC (w : World) : Expr := arg0 (valOf (sAt 0 (bodyIn (KK w) 309)))
theorem tab_rep {a : Addr} {oc : Value} {od : Option Addr} {vs : List Value} {m : Nat} {sl : Array (Option Value)} {ds : List D} (ho : (KK B.w).lookup a = some ⟨oc, od, .seq vs.toArray m, sl⟩) (hc : oc = .type "tuple") (hr : ∀ G β, RepAll G β vs ds) (G : Gm) (hG : ∀ b o, B.hb.get? b = some o -> G b = some o) (β : List Addr) : Rep G β (.ref a) (.tup ds) :=
 .tup (hG _ _ (B.X _ _ ho)) hc rfl (hr G β)
theorem Ev.octs {pos : Pos} (hm : gl.lookup (Str.ofString "_law_octets") = some .globalImplicit := by rfl) : Ev (.Name (Str.ofString "_law_octets") pos) (.tup [.int 0, .int 1, .int 16, .int 17, .int 255]) B gl n ρ σ σ :=
 Ev.glob' (glb_top 30 rfl) (tab_rep (by rfl) rfl fun Z Z => .cons (.int _ _) (.cons (.int _ _) (.cons (.int _ _) (.cons (.int _ _) (.cons (.int _ _) .nil))))) hm
theorem octets_at {r : Int} (h0 : 0 <= r) (h1 : r < 5) : ∃ x : Int, ([.int 0, .int 1, .int 16, .int 17, .int 255] : List D)[r.toNat]? = some (.int x) /\ 0 <= x /\ x < 256 := by
 refine x1_1 (Int.eq_ofNat_of_zero_le h0) fun k Q => ?_; subst Q
 have : k < 5 := by lia
 match k, this with
 | 0, _ => exact ⟨0, rfl, by decide, by decide⟩
 | 1, _ => exact ⟨1, rfl, by decide, by decide⟩
 | 2, _ => exact ⟨16, rfl, by decide, by decide⟩
 | 3, _ => exact ⟨17, rfl, by decide, by decide⟩
 | 4, _ => exact ⟨255, rfl, by decide, by decide⟩
theorem key_comp {w : Nat} : ∀ (l : List D) (σ : Sto) (y : Cell) (o : Option D), σ[w]? = some y -> WellOk y -> ∃ (es : List Int) (y' : Cell), es.length = l.length /\ (∀ e ∈ es, 0 <= e /\ e < 256) /\ WellOk y' /\
  CompE (keyC B.w) B gl_law_key (n + 1) l (es.map D.int) [(Str.ofString "turn", o), (Str.ofString "well", some (.obj w))] σ (σ.set w y') := by
 intro l
 induction l with
 | nil => intro σ y o hx hy; exact ⟨[], y, rfl, (fun Z h => nomatch h), hy, by rw [set_self hx]; exact .nil⟩
 | cons d l ih =>
  intro σ y o hx hy
  refine x2_4 (draw_ok (B := B) (n := n) hx hy (many := 5) (by decide)) fun r y1 hy1 h0 h1 hc => ?_
  refine x1_2 (octets_at h0 h1) fun x hx1 hx2 => ?_
  refine x2_4 (ih (σ.set w y1) y1 (some d) (get_set hx) hy1) fun es y2 e1 e2 e3 e4 => ?_
  rw [List.set_set] at e4
  refine ⟨x :: es, y2, by simp [e1], fun e he => (List.mem_cons.mp he).elim (fun h => h ▸ hx2) (e2 e), e3, ?_⟩
  exact .keep (σ1 := σ) (TgtL.name (by walk_at "v")) .nil (Ev.sub Ev.octs (Ev.call (Ev.g g_law_draw) (Keeps'.fn rfl) (.cons Ev.name (.cons .cint .nil)) (Call.v hc)) (.tup (i := r) (d := .int x) h0 hx1 (by simp))) e4
theorem upsLen (a s : Int) (m : Nat) : (ups a s m).length = m := by rw [ups, List.length_map, List.length_range]
theorem law_key_ok {w : Nat} {y : Cell} (hx : σ[w]? = some y) (hy : WellOk y) : ∃ (key : List UInt8) (y' : Cell), key.length <= 32 /\ WellOk y' /\ Call 309 [.obj w] (.bytes key) B (n + 2) σ (σ.set w y') := by
 refine x2_4 (draw_ok (B := B) (n := n) hx hy (many := 5) (by decide)) fun r y1 hy1 r0 r1 c1 => ?_
 have g1 := get_set (z := y1) hx
 refine x2_4 (key_comp (B := B) (n := n) (w := w) (ups 0 1 r.toNat) (σ.set w y1) y1 none g1 hy1) fun es y2 e1 e2 hy2 comp => ?_
 rw [upsLen] at e1
 rw [List.set_set] at comp
 have g2 := get_set (z := y2) hx
 refine x2_4 (draw_ok (B := B) (n := n) g2 hy2 (many := 3) (by decide)) fun s y3 hy3 s0 s1 c3 => ?_
 rw [List.set_set] at c3
 let k0 : List UInt8 := es.map fun k => k.toNat.toUInt8
 let k1 : List UInt8 := (List.replicate (28 : Int).toNat (17 : Int)).map fun k => k.toNat.toUInt8
 have hk0 : k0.length <= 4 := by show (es.map _).length <= 4; rw [List.length_map]; lia
 have hk1 : k1.length = 28 := by decide
 refine ⟨if s = 2 then k0 ++ k1 else k0, y3, ?_, hy3, ?_⟩
 ·split
  ·rw [List.length_append]; lia
  ·lia
 ·refine' Call.set0 (fn_law_key _) (Ex.seq (St1.assign (d := .bytes k0) (Ev.call (Ev.g g_bytes) .type (.cons (Ev.comp (σ1 := σ.set w y1) (σ' := σ.set w y2) (es := es.map D.int) (tgts := [Str.ofString "turn"]) (caps := [(Str.ofString "well", .obj w)]) (.of (capN := [Str.ofString "well"]) rfl (by decide) (Clos.one rfl)) (EvI.range1 (Ev.g g_range) (.cons (Ev.call (Ev.g g_law_draw) (Keeps'.fn rfl) (.cons Ev.name (.cons .cint .nil)) (Call.v c1)) .nil) r0 (by lia)) (.cons (by walk_at "v") .nil) comp ?_) .nil) (CallV.bytL e2 ?_)) (by walk_at "v"))
   (Ex.ret (Ev.ifexp (x := decide (s = 2)) (EvT.eq (EvT.cmp (Ev.call (Ev.g g_law_draw) (Keeps'.fn rfl) (.cons Ev.name (.cons .cint .nil)) (Call.v c3)) .cint .eqI) ?_)
    (fun h => Ev.eq (Ev.bin Ev.name (Ev.call (Ev.g g_bytes) .type (.cons (Ev.eq (d' := .lst ((List.replicate (28 : Int).toNat (17 : Int)).map D.int)) (Ev.bin (Ev.list (.cons .cint .nil)) .cint (.mulL (by decide) (by decide))) rfl) .nil) (CallV.bytL (ks := List.replicate (28 : Int).toNat (17 : Int)) ?_ (by decide))) (.addY ?_)) ?_) (fun h => Ev.eq (d := .bytes k0) Ev.name ?_)))) rfl ?_
  ·rw [upsLen]; lia
  ·lia
  ·rw [Bool.eq_iff_iff, beq_iff_eq, decide_eq_true_iff]
  ·intro k hk; rw [List.eq_of_mem_replicate hk]; decide
  ·show k0.length + k1.length <= _; lia
  ·rw [if_pos (of_decide_eq_true h)]
  ·rw [if_neg (of_decide_eq_false h)]
  ·intro _; exact hy3.low _
theorem Cmp.eqO_nil {x : Nat} {ds : List D} (hx : σ[x]? = some (.lst ds)) : Cmp .Eq (.obj x) (.lst []) ds.isEmpty B n σ := by
 intro A c u v ok p q E Q kq
 have h : EqDs 0 ds [] ds.isEmpty := by cases ds; exact .nil; exact .cn
 have hu : A.units + (0 + 1) < cLine := by have := ok.uni; show _ < 9900; lia
 cases p with
 | @obj _ a1 p1 =>
  refine x2_2 (ok.sim.cells x a1 _ p1 hx) fun vs1 n1 e1 p4 => ?_
  cases q with
  | @lst a2 o2 vs2 n2 q1 q2 q3 q4 =>
   obtain ⟨⟨e, he, hr⟩, -⟩ := h _ _ _ A.in1 _ _ ok.sim.sub (by have : A.in1.units = A.units + 1 := rfl; lia) p4 q4
   have kq' := kq c (.refl _ _) ok.sim
   by_cases hz : vs1.length = vs2.length
   ·have := PySem.SeqAt.RcAt.lists (e := e) (A := A) (s := c.s) ⟨_, e1, rfl, _, rfl⟩ ⟨_, ok.sim.sub _ _ q1, q2, _, q3⟩ (by simpa using hz) (by lia) (fun j h1 h2 => by
     simpa using he j (by simpa using h1) (by simpa using h2))
    refine this PG B.w E Q ?_
    rw [hr, hz] at kq'
    simpa [hz] using kq'
   ·refine PySem.SeqAt.RcAt.lists_lengths (A := A) (s := c.s) ⟨_, e1, rfl, _, rfl⟩ ⟨_, ok.sim.sub _ _ q1, q2, _, q3⟩ (by simpa using hz) (by lia) PG B.w E Q ?_
    have e2 : (vs1.length == vs2.length) = false := by simpa using hz
    rw [hr, e2, Bool.and_false] at kq'
    exact kq'
theorem Ev.sizes {pos : Pos} (hm : gl.lookup (Str.ofString "_law_sizes") = some .globalImplicit := by rfl) : Ev (.Name (Str.ofString "_law_sizes") pos) (.tup [.int 1, .int 2, .int 26, .int 27, .int 28, .int 29, .int 60]) B gl n ρ σ σ :=
 Ev.glob' (glb_top 27 rfl) (tab_rep (by rfl) rfl fun Z Z => .cons (.int _ _) (.cons (.int _ _) (.cons (.int _ _) (.cons (.int _ _) (.cons (.int _ _) (.cons (.int _ _) (.cons (.int _ _) .nil))))))) hm
theorem Ev.signs {pos : Pos} (hm : gl.lookup (Str.ofString "_law_signs") = some .globalImplicit := by rfl) : Ev (.Name (Str.ofString "_law_signs") pos) (.tup [.int 0, .int 1, .int 127, .int 128]) B gl n ρ σ σ :=
 Ev.glob' (glb_top 26 rfl) (tab_rep (by rfl) rfl fun Z Z => .cons (.int _ _) (.cons (.int _ _) (.cons (.int _ _) (.cons (.int _ _) .nil)))) hm
theorem sizes_at {r : Int} (h0 : 0 <= r) (h1 : r < 7) : ∃ x : Int, ([.int 1, .int 2, .int 26, .int 27, .int 28, .int 29, .int 60] : List D)[r.toNat]? = some (.int x) /\ 1 <= x /\ x <= 60 := by
 refine x1_1 (Int.eq_ofNat_of_zero_le h0) fun k Q => ?_; subst Q
 have : k < 7 := by lia
 match k, this with
 | 0, _ => exact ⟨1, rfl, by decide, by decide⟩
 | 1, _ => exact ⟨2, rfl, by decide, by decide⟩
 | 2, _ => exact ⟨26, rfl, by decide, by decide⟩
 | 3, _ => exact ⟨27, rfl, by decide, by decide⟩
 | 4, _ => exact ⟨28, rfl, by decide, by decide⟩
 | 5, _ => exact ⟨29, rfl, by decide, by decide⟩
 | 6, _ => exact ⟨60, rfl, by decide, by decide⟩
theorem signs_at {r : Int} (h0 : 0 <= r) (h1 : r < 4) : ∃ x : Int, ([.int 0, .int 1, .int 127, .int 128] : List D)[r.toNat]? = some (.int x) /\ (0 <= x /\ x < 256) /\ x.toNat.toUInt8 ≠ 5 := by
 refine x1_1 (Int.eq_ofNat_of_zero_le h0) fun k Q => ?_; subst Q
 have : k < 4 := by lia
 match k, this with
 | 0, _ => exact ⟨0, rfl, by decide, by decide⟩
 | 1, _ => exact ⟨1, rfl, by decide, by decide⟩
 | 2, _ => exact ⟨127, rfl, by decide, by decide⟩
 | 3, _ => exact ⟨128, rfl, by decide, by decide⟩
noncomputable abbrev chLoc (w kx : Nat) (way key lon size : Option D) : Loc := [(Str.ofString "well", some (.obj w)), (Str.ofString "known", some (.obj kx)), (Str.ofString "way", way), (Str.ofString "key", key), (Str.ofString "is_longer", lon), (Str.ofString "size", size)]
noncomputable def ValOk (v : List UInt8) : Prop := v.length <= 60 /\ (5 : UInt8) ∉ v
theorem change_tail {w kx : Nat} {y : Cell} {way : Int} {key : List UInt8} {lon : Option D} (hx : σ[w]? = some y) (hy : WellOk y) (hk : key.length <= 32) : ∃ (v : List UInt8) (y' : Cell), ValOk v /\ WellOk y' /\
  Rt ((bodyIn (KK B.w) 316).drop 3) (.tup [.bytes key, .bytes v]) B gl_law_change (n + 1) (chLoc w kx (some (.int way)) (some (.bytes key)) lon none) σ (σ.set w y') := by
 by_cases h : way = 3 \/ way = 5
 ·refine ⟨[], y, ⟨by decide, by simp⟩, hy, ?_⟩
  rw [set_self hx]
  refine Rt.ifT (EvT.eq (EvT.or (EvT.cmp Ev.name .cint .eqI) (fun Z => EvT.cmp Ev.name .cint .eqI) (fun Z => rfl)) ?_) (Rt.ret (Ev.tuple (.cons Ev.name (.cons .cbytes .nil))))
  rcases h with rfl | rfl <;> rfl
 ·refine x2_4 (draw_ok (B := B) (n := n) hx hy (many := 7) (by decide)) fun r y1 hy1 r0 r1 c1 => ?_
  refine x1_3 (sizes_at r0 r1) fun size s1 s2 s3 => ?_
  have g1 := get_set (z := y1) hx
  refine x2_4 (draw_ok (B := B) (n := n) g1 hy1 (many := 4) (by decide)) fun t y2 hy2 t0 t1 c2 => ?_
  obtain ⟨sg, q1, ⟨q2, q3⟩, q4⟩ := signs_at t0 t1
  rw [List.set_set] at c2
  refine ⟨(List.replicate size.toNat sg).map fun k => k.toNat.toUInt8, y2, ⟨by rw [List.length_map, List.length_replicate]; lia, fun hm => ?_⟩, hy2, ?_⟩
  ·refine x1_2 (List.mem_map.mp hm) fun z hz e => ?_
   rw [List.eq_of_mem_replicate hz] at e
   exact q4 e
  refine Rt.ifF (EvT.eq (EvT.or (EvT.cmp Ev.name .cint .eqI) (fun Z => EvT.cmp Ev.name .cint .eqI) (fun Z => rfl)) ?_)
   (Rt.seq (St1.assign (d := .int size) (Ev.sub Ev.sizes (Ev.call (Ev.g g_law_draw) (Keeps'.fn rfl) (.cons Ev.name (.cons .cint .nil)) (Call.v c1)) (.tup (i := r) (d := .int size) r0 s1 (by simp))) (by walk_at "v"))
   (Rt.ret (Ev.tuple (.cons Ev.name (.cons (Ev.call (Ev.g g_bytes) .type (.cons (Ev.eq (d' := .lst ((List.replicate size.toNat sg).map D.int)) (Ev.bin (Ev.list (.cons (Ev.sub Ev.signs (Ev.call (Ev.g g_law_draw) (Keeps'.fn rfl) (.cons Ev.name (.cons .cint .nil)) (Call.v c2)) (.tup (i := t) (d := .int sg) t0 q1 (by simp))) .nil)) Ev.name (.mulL (by lia) (by lia))) (by rw [List.map_replicate])) .nil) (CallV.bytL ?_ ?_)) .nil)))))
  ·rw [Bool.or_eq_false_iff]
   exact ⟨beq_false_of_ne fun e => h (.inl e), beq_false_of_ne fun e => h (.inr e)⟩
  ·intro k hk; rw [List.eq_of_mem_replicate hk]; exact ⟨q2, q3⟩
  ·rw [List.length_replicate]; lia
theorem change_mid {w kx : Nat} {y : Cell} {way : Int} {key : List UInt8} (hx : σ[w]? = some y) (hy : WellOk y) (hk : key.length <= 32) : ∃ (key' v : List UInt8) (y' : Cell), key'.length <= 32 /\ ValOk v /\ WellOk y' /\
  Rt ((bodyIn (KK B.w) 316).drop 2) (.tup [.bytes key', .bytes v]) B gl_law_change (n + 1) (chLoc w kx (some (.int way)) (some (.bytes key)) none none) σ (σ.set w y') := by
 by_cases h : 3 < way
 ·refine x2_4 (draw_ok (B := B) (n := n) hx hy (many := 2) (by decide)) fun r y1 hy1 r0 r1 c1 => ?_
  have g1 := get_set (z := y1) hx
  let key' : List UInt8 := if r = 1 /\ key.length < 32 then key ++ [16] else key.dropLast
  have hk' : key'.length <= 32 := by
   show (if r = 1 /\ key.length < 32 then key ++ [16] else key.dropLast).length <= 32
   split
   ·rw [List.length_append]; simp; lia
   ·rw [List.length_dropLast]; lia
  refine x2_3 (change_tail (B := B) (n := n) (kx := kx) (way := way) (lon := some (.bool (r == 1))) g1 hy1 hk') fun v y2 hv hy2 tl => ?_
  rw [List.set_set] at tl
  refine ⟨key', v, y2, hk', hv, hy2, ?_⟩
  refine Rt.ifT (EvT.eq (EvT.cmp Ev.name .cint .gt) (decide_eq_true h))
   (Rt.seq (St1.assign (Ev.cmp (Ev.call (Ev.g g_law_draw) (Keeps'.fn rfl) (.cons Ev.name (.cons .cint .nil)) (Call.v c1)) .cint .eqI) (by walk_at "v"))
   (Rt.seq (St1.assign (d := .bytes key') (Ev.ifexp (x := decide (r = 1 /\ key.length < 32)) (EvT.eq (EvT.and (EvT.val Ev.name .bool) (fun Z => EvT.cmp (Ev.call (Ev.g g_len) .builtin (.cons Ev.name .nil) (CallV.lenY (b := key) (by lia))) .cint .lt) (fun Z => rfl)) ?_)
    (fun h => Ev.eq (Ev.bin Ev.name (Ev.call (Ev.g g_bytes) .type (.cons (Ev.list (.cons .cint .nil)) .nil) (CallV.bytL (ks := [16]) (by simp) (by simp))) (.addY (by simp; lia))) ?_)
    (fun h => Ev.eq (Ev.slice Ev.name .none (.some (Ev.neg .cint)) .none (Slc.byt (b := key) .none (.int (i := -1)) (by lia))) ?_)) (by walk_at "v")) tl))
  ·rw [Bool.eq_iff_iff, Bool.and_eq_true, beq_iff_eq, decide_eq_true_iff, decide_eq_true_iff]
   constructor <;> rintro ⟨a, b⟩ <;> exact ⟨a, by lia⟩
  ·show _ = D.bytes (if r = 1 /\ key.length < 32 then key ++ [16] else key.dropLast)
   rw [if_pos (of_decide_eq_true h)]; rfl
  ·show _ = D.bytes (if r = 1 /\ key.length < 32 then key ++ [16] else key.dropLast)
   rw [if_neg (of_decide_eq_false h), pick_butlast]
 ·refine x2_3 (change_tail (B := B) (n := n) (kx := kx) (way := way) (lon := none) hx hy hk) fun v y2 hv hy2 tl => ?_
  exact ⟨key, v, y2, hk, hv, hy2, Rt.ifF (EvT.eq (EvT.cmp Ev.name .cint .gt) (decide_eq_false h)) tl⟩
theorem change_ok {w kx : Nat} {y : Cell} {ks : List (List UInt8)} (hx : σ[w]? = some y) (hy : WellOk y) (hne : w ≠ kx) (hkx : σ[kx]? = some (.lst (ks.map D.bytes))) (hks : ∀ k ∈ ks, k.length <= 32) (hz : ks.length <= 1000) : ∃ (key v : List UInt8) (y' : Cell), key.length <= 32 /\ ValOk v /\ WellOk y' /\
  Call 316 [.obj w, .obj kx] (.tup [.bytes key, .bytes v]) B (n + 3) σ (σ.set w y') := by
 refine x2_4 (draw_ok (B := B) (n := n + 1) hx hy (many := 6) (by decide)) fun way y1 hy1 w0 w1 c1 => ?_
 have g1 := get_set (z := y1) hx
 have hkx1 : (σ.set w y1)[kx]? = some (.lst (ks.map D.bytes)) := by rw [List.getElem?_set_ne hne]; exact hkx
 have hlow : ∀ {a b : List UInt8} {k : Nat}, (D.tup [.bytes a, .bytes b]).low k = true := fun {_ _ _} => rfl
 by_cases h : way < 2 \/ ks = []
 ·refine x2_3 (law_key_ok (B := B) (n := n) g1 hy1) fun key y2 hk hy2 c2 => ?_
  rw [List.set_set] at c2
  have g2 := get_set (z := y2) hx
  obtain ⟨key', v, y3, hk', hv, hy3, ρ', tl⟩ := change_mid (B := B) (n := n + 1) (kx := kx) (way := way) g2 hy2 hk
  rw [List.set_set] at tl
  refine ⟨key', v, y3, hk', hv, hy3, ?_⟩
  refine' Call.set0 (fn_law_change _) (Ex.seq (St1.assign (Ev.call (Ev.g g_law_draw) (Keeps'.fn rfl) (.cons Ev.name (.cons .cint .nil)) (Call.v c1)) (by walk_at "v"))
   (Ex.ifT (EvT.eq (EvT.or (y := ks.isEmpty) (EvT.cmp Ev.name .cint .lt) (fun Z => EvT.eq (EvT.cmp Ev.name (.list .nil) (Cmp.eqO_nil hkx1)) (by rw [List.isEmpty_map])) (fun Z => rfl)) ?_)
   (Ex.seq (St1.assign (Ev.call (Ev.g g_law_key) (Keeps'.fn rfl) (.cons Ev.name .nil) (Call.v c2)) (by walk_at "v")) tl))) hlow (fun Z => hy3.low _)
  rw [Bool.or_eq_true]
  rcases h with h | h
  ·exact .inl (decide_eq_true h)
  ·exact .inr (by rw [h]; rfl)
 ·have hne' : ks ≠ [] := fun e => h (.inr e)
  have hpos : 1 <= ks.length := List.length_pos_iff.mpr hne'
  refine x2_4 (draw_ok (B := B) (n := n + 1) g1 hy1 (many := (ks.length : Int)) (by lia)) fun r y2 hy2 r0 r1 c2 => ?_
  rw [List.set_set] at c2
  have g2 := get_set (z := y2) hx
  have hkx2 : (σ.set w y2)[kx]? = some (.lst (ks.map D.bytes)) := by rw [List.getElem?_set_ne hne]; exact hkx
  refine x1_1 (⟨_, List.getElem?_eq_getElem (by lia)⟩ : ∃ key, ks[r.toNat]? = some key) fun key hkey => ?_
  obtain ⟨key', v, y3, hk', hv, hy3, ρ', tl⟩ := change_mid (B := B) (n := n + 1) (kx := kx) (way := way) g2 hy2 (hks key (List.mem_of_getElem? hkey))
  rw [List.set_set] at tl
  refine ⟨key', v, y3, hk', hv, hy3, ?_⟩
  refine' Call.set0 (fn_law_change _) (Ex.seq (St1.assign (Ev.call (Ev.g g_law_draw) (Keeps'.fn rfl) (.cons Ev.name (.cons .cint .nil)) (Call.v c1)) (by walk_at "v"))
   (Ex.ifF (EvT.eq (EvT.or (y := ks.isEmpty) (EvT.cmp Ev.name .cint .lt) (fun Z => EvT.eq (EvT.cmp Ev.name (.list .nil) (Cmp.eqO_nil hkx1)) (by rw [List.isEmpty_map])) (fun Z => rfl)) ?_)
   (Ex.seq (St1.assign (d := .bytes key) (Ev.sub Ev.name (Ev.call (Ev.g g_law_draw) (Keeps'.fn rfl) (.cons Ev.name (.cons (Ev.eq (d' := .int (ks.length : Int)) (Ev.call (Ev.g g_len) .builtin (.cons Ev.name .nil) (CallV.lenO hkx1 ?_)) ?_) .nil)) (Call.v c2)) (.obj (i := r) hkx2 r0 ?_ ?_)) (by walk_at "v")) tl))) hlow (fun Z => hy3.low _)
  ·rw [Bool.or_eq_false_iff]
   exact ⟨decide_eq_false fun e => h (.inl e), by cases ks <;> first | exact absurd rfl hne' | rfl⟩
  ·rw [List.length_map]; lia
  ·rw [List.length_map]
  ·rw [List.getElem?_map, hkey]; rfl
  ·rw [List.length_map]; lia
end
end
section
open PySem.Builtin.ObjectAttr
noncomputable abbrev tfTail : List Value := [.ref 31, .type "Exception", .type "BaseException", .type "object"]
theorem cls56 (w : World) {P : Prop} (k : ∀ nm q N bs hdct sn sub ab col dd k0 k1 k2 k3 k5, (KK w).lookup 56 = some (excClassObj nm q 56 N bs tfTail hdct sn sub ab col dd k0 k1 k2 k3 k5 "Exception.__new__") -> P) : P :=
 k _ _ _ _ _ _ _ _ _ _ _ _ _ _ _ (by rfl)
theorem ex_find (w : World) : findCls (KK w) (.type "Exception") (.type "type") "__init__" = some (.val (.builtin "Exception.__init__")) := by rfl
theorem ex_getm {K : Frag} {A : Around} {E : Want Value} {s : Shared} {w : World} {pl : Sem Bool} {Q : Want (Value × List Value)} (X : K.In s.heap)
  (e : findCls K (.type "Exception") (.type "type") "__init__" = some (.val (.builtin "Exception.__init__")))
  (h : Q (.builtin "Exception.__init__", []) { s with toks := s.toks + 1 }) :
  wpAny (model PG w) A (getMethod (.type "Exception") "__init__" pl) Q E s := by
 have hstub : opaqueClassAbove (.type "Exception") = pure none := by unfold opaqueClassAbove; dsimp only; rw [show Manifest.isStub "Exception" = false by decide +kernel]; rfl
 have ht : typeOf (.type "Exception") = pure (.type "type") := by first | rfl | kernel_rfl
 have L0 : Looks (model PG w) s.heap (typeOf (.type "Exception")) (.type "type") := Looks.of_pure ht
 have hg : findIn K (.type "type") "__getattribute__" = some (some (.builtin "type.__getattribute__")) := type_tga
 unfold getMethod specialOf
 refine wpAny_bind (wpAny_bind (L0.here ((looks_findIn X hg).here ?_)))
 dsimp only
 rw [if_pos canon_tga]
 refine wpAny_bind (wpAny_mono (Q := fun v => Q (v, [])) (E := E) ?_ (fun Z Z z => wpAny_pure z) fun Z Z z => z)
 have LO : Looks (model PG w) s.heap (opaqueClassAbove (.type "Exception")) none := Looks.of_pure hstub
 refine cls_open X LO L0 hg (looks_hook X (r := none) (by rfl)) (by show subIn K _ _ = _; rfl) e ?_
 exact wpAny_pure (wpAny_pure h)
section
variable {B : Bs} {gl : Gl} {n : Nat} {ρ : Loc} {σ σ1 σ2 : Sto}
theorem exc_at {c : St} {v : Value} {i : Nat} {b : Bool} (s : Sim B σ c) (r : Rep c.G c.β v (.obj i)) (hx : σ[i]? = some (.exc b)) {P : Prop}
  (k : ∀ a oe vs, v = .ref a -> c.β[i]? = some a -> c.h.get? a = some oe -> oe.cls = .ref 56 -> oe.data = .fields vs -> vs.size = 6 -> vs[1]? = some .none -> (∃ a0, vs[0]? = some a0) -> (b = false -> oe.dict = none) -> P) : P := by
 cases r with
 | @obj _ a ha =>
  obtain ⟨oe, vs, h1, h2, h3, h4, h5, h6, h7⟩ := s.cells i a _ ha hx
  exact k a oe vs rfl ha h1 h2 h3 h4 h5 h6 h7
theorem CallV.excInit {i : Nat} {w : Str} (hx : σ[i]? = some (.exc false)) : CallV (.builtin "Exception.__init__") [.obj i, .str w] .none B n σ σ := by
 intro A c vs ok p E Q k
 cases p with | cons p q =>
 cases q with | cons q q' =>
 cases q'
 cases q with | str _ t =>
 refine exc_at ok.sim p hx fun a oe fs eQ ha h1 h2 h3 h4 h5 h6 h7 => ?_; subst eQ
 refine h6.elim fun a0 h6 => ?_
 have X := ok.sim.K
 have F := PySem.F.excBase_Exception
 have I : InstAt c.s.heap a oe 56 none := ⟨h1, h2, by unfold notCls; rw [h3], by rw [h7 rfl]; trivial⟩
 have sub : Looks (model PG B.w) c.s.heap (isInstance (.ref a) (.type "Exception")) true := I.type.andThen (looks_subIn X (by rfl))
 refine wpAny_call (codeAny_call_builtin F.init.plain F.initEntry ?_)
 simp only [checkBuiltinCall, F.initKind, F.initSplit, F.initRow]
 refine wpAny_bind (sub.here ?_)
 simp only [Bool.not_true, Bool.false_eq_true, if_false]
 have hshort := F.noStar
 refine cls56 B.w fun nm q N bs hdct sn sub' ab col dd k0 k1 k2 k3 k5 hC0 => ?_
 have hC := X _ _ hC0
 obtain ⟨G, β, s⟩ := c
 obtain ⟨hp, g, d, tk, os⟩ := s
 repeat (first | (with_reducible refine wpAny_loadPart_at h1 ?_; rw [h2]) | with_reducible refine wpAny_loadPart_at hC ?_ | wp_step)
 rw [h3]
 refine wpAny_pure ?_
 rw [h6]
 refine wpAny_pure ?_
 let o : Obj := { cls := .type "tuple", data := .seq [Value.str w t].toArray }
 let c1 : St := ⟨G, β, { heap := hp.push o, gens := g, drawn := d, toks := tk, os := os }⟩
 have l1 : Le [] ⟨G, β, ⟨hp, g, d, tk, os⟩⟩ c1 := le_push [] ⟨G, β, ⟨hp, g, d, tk, os⟩⟩ o
 have s1 : Sim B σ c1 := sim_push ok.sim o
 have h1' : c1.h.get? a = some oe := Heap.get?_push_of_some _ h1
 have ha1 : c1.β[i]? = some a := ha
 have hs : Heap.SameBut a c1.h (c1.s.heap.update a (Obj.mapFields (·.setIfInBounds 0 (.ref hp.objs.size)))) := Heap.SameBut.update ..
 have hy : CellAt B.w c1.G c1.β (c1.s.heap.update a (Obj.mapFields (·.setIfInBounds 0 (.ref hp.objs.size)))) a (.exc false) := by
  refine ⟨oe.mapFields (·.setIfInBounds 0 (.ref hp.objs.size)), fs.setIfInBounds 0 (.ref hp.objs.size), Heap.get?_update_self _ h1' (Obj.isFreed_of_fields (Obj.data_mapFields h3 _)), (Obj.cls_mapFields _ _).trans h2, Obj.data_mapFields h3 _, by rw [Array.size_setIfInBounds]; exact h4, by rw [Array.getElem?_setIfInBounds_ne (by decide)]; exact h5, ⟨.ref hp.objs.size, by rw [Array.getElem?_setIfInBounds_self_of_lt (by lia)]⟩, fun Z => ?_⟩
  have := h7 rfl
  obtain ⟨oc, od, oda, osl⟩ := oe
  dsimp only at h3 this
  subst h3 this
  rfl
 have l2 := le_mutc (t := tk) ha1 hs
 have s2 := sim_mutc (t := tk) s1 ha1 hx nofun hs hy
 rw [set_self hx] at s2
 refine wpAny_bind (wpAny_setField h1' h3 (by lia) ?_)
 have fin := k .none ⟨G, β, { heap := c1.s.heap.update a (Obj.mapFields (·.setIfInBounds 0 (.ref hp.objs.size))), gens := g, drawn := d, toks := tk, os := os }⟩ (l1.trans l2) s2 .none
 cases a0 <;> first | exact wpAny_pure (wpAny_pure fin) | exact wpAny_letGo (wpAny_pure fin)
theorem Ev.excInit {o : Expr} {args : List Expr} {apos pos : Pos} {i : Nat} {w : Str} (ho : Ev o (.raw (.type "Exception")) B gl n ρ σ σ) (ha : Evs args [.obj i, .str w] B gl n ρ σ σ) (hx : σ[i]? = some (.exc false))
  (he : ∀ env, attributeBase o "__init__" env (eval o env) = eval o env := by intro _; rfl) (hst : ∀ env, (backTo pos (starEach args env)).any (fun x => x.1) = false := by intro _; rfl)
  (hfew : ∀ env, methodCallForm (args.length + 0) (backTo pos (starEach args env)) [] = true := by intro _; rfl) (hpos : (apos.endLine == pos.line) = true := by decide) :
  Ev (.Call (.Attribute o "__init__" apos) args [] pos) .none B gl n ρ σ σ := by
 intro A env c ok fr E Q k
 show wpAny _ A (do
  let ov <- attributeBase o "__init__" env (eval o env)
  standAt apos.atName
  methodCall o "__init__" apos pos env ov (args.length + 0) (backTo pos (starEach args env)) []) Q E c.s
 rw [he]
 refine wpAny_bind (ho A env c ok fr _ _ fun u c1 l1 s1 r1 => wpAny_bind (wpAny_standAt ?_))
 cases r1
 unfold methodCall
 rw [hfew]
 show wpAny _ A (holding [.type "Exception"] (calleeOf true o env (.type "Exception") "__init__") >>= _) Q E _
 refine wpAny_bind (wpAny_holding ?_)
 unfold calleeOf
 rw [if_pos rfl]
 refine ex_getm s1.K (ex_find _) ?_
 show wpAny _ A (methodCallPos true o env apos pos >>= _) Q E _
 unfold methodCallPos
 rw [if_pos (by simp [hpos])]
 refine wpAny_bind (wpAny_pure ?_)
 have l12 : Le [] c (c1.tk (c1.s.toks + 1)) := l1.trans (.tk _ _ _)
 have s2 := s1.tk (c1.s.toks + 1)
 obtain ⟨kp, hkp⟩ : Keeps' (.builtin "Exception.__init__") B := .builtin
 refine callWith_any (hst env) (ha A env (c1.tk (c1.s.toks + 1)) pos (ok.step l12 s2) (fr.step l12) _ _ fun vs c2 l2 s2 r2 => ⟨kp, hkp _ _ _ s2.top, ?_⟩)
 exact CallV.excInit (w := w) hx A c2 vs (ok.step (l12.trans l2) s2) r2 _ _ fun v c3 l3 s3 r3 => k v c3 ((l12.trans l2).trans l3) s3 r3
theorem refuse56 (self : Value) : refuseLoop self "__setattr__" [.ref 56, .ref 31, .type "Exception", .type "BaseException", .type "object"] = pure () := by
 rw [refuseLoop_ref, refuseLoop_ref]; kernel_rfl
theorem mro56 (w : World) : ∃ cd, clsIn (KK w) 56 = some cd /\ cd.mro = [.ref 56, .ref 31, .type "Exception", .type "BaseException", .type "object"] /\ cd.hasDict = true := ⟨_, by rfl, by rfl, by rfl⟩
theorem osa_exc {A : Around} {s : Shared} {R : Result -> Shared -> Prop} {x : Addr} {ox : Obj} {od : Option Obj} {name : Str} {tk : Tok} {v : Value} (X : (KK B.w).In s.heap) (I : InstAt s.heap x ox 56 od) (ht : takerIn (KK B.w) 56 name = some none)
  (h : ∀ b, wpAny (model PG B.w) A.in1 (storeInOwnDict (.ref x) (.ref 56) (.str name tk) name v b)
   (fun fin s' => match fin with | .done f => R (.ok f) s' | .again c' => c'.quiet = true /\ codeAny (model PG B.w) A c' R s') (fun e s' => R (.error e) s') s) :
  codeAny (model PG B.w) A (.call (.builtin "object.__setattr__") ⟨[.ref x, .str name tk, v], []⟩) R s := by
 have SF := PySem.F.store_object
 refine x1_3 (mro56 B.w) fun cd hc hm Z => ?_
 have sub : Looks (model PG B.w) s.heap (isInstance (.ref x) (.type "object")) true := I.type.andThen (looks_subIn X (by rfl))
 refine codeAny_call_builtin SF.slot.plain SF.entry (@check_slot (model PG B.w) _ _ s "object.__setattr__" "object" "__setattr__" (.ref x) [.str name tk, v] [] _ SF.kind SF.split sub (SF.args (.ref x) (.str name tk) v) ?_)
 refine x1_2 (Option.bind_eq_some_iff.mp ht) fun attr ha hr => ?_
 have hm' : Looks (model PG B.w) s.heap (mroOf (.ref 56)) cd.mro := (looks_clsIn X hc).andThen .now
 have L3 : Looks (model PG B.w) s.heap (storeTaker? attr) none := by
  cases attr with
  | none => exact .now
  | some a =>
   obtain ⟨b, hb, hb2⟩ := Option.map_eq_some_iff.mp hr
   refine (looks_takesIn X hb).andThen ?_
   cases b with
   | false => exact .now
   | true => cases hb2
 rw [osa_eq, refuse_eq]
 refine wpAny_bind (wpAny_bind (I.type.here (wpAny_bind (hm'.here ?_))))
 rw [hm, refuse56]
 refine wpAny_pure (wpAny_bind (I.type.here (wpAny_bind ((looks_findIn X ha).here (wpAny_bind (L3.here ?_))))))
 exact h _
end
end
section
open PySem.Builtin.ObjectAttr
section
variable {B : Bs} {gl : Gl} {n : Nat} {ρ : Loc} {σ σ1 σ2 : Sto}
theorem sattr56 (w : World) : findIn (KK w) (.ref 56) "__setattr__" = some (some (.builtin "object.__setattr__")) := by rfl
theorem taker56 (w : World) : takerIn (KK w) 56 "word" = some none := by rfl
theorem set_exc {A : Around} {c : St} {u v : Value} {i : Nat} {d : D} {E : Want Value} {Q : Want Unit} (ok : Ok B A n σ c) (hx : σ[i]? = some (.exc false)) (ru : Rep c.G c.β u (.obj i)) (rv : Rep c.G c.β v d)
  (k : ∀ c', Le [] c c' -> Sim B (σ.set i (.exc true)) c' -> Q () c'.s) : wpAny (model PG B.w) A (setAttr u "word" v) Q E c.s := by
 refine exc_at ok.sim ru hx fun a oe fs eQ ha h1 h2 h3 h4 h5 h6 h7 => ?_; subst eQ
 have I : InstAt c.h a oe 56 none := ⟨h1, h2, by unfold notCls; rw [h3], by rw [h7 rfl]; trivial⟩
 refine set_plain ok.sim.K I (sattr56 _) ?_
 have s1 := ok.sim.tk (c.s.toks + 1)
 refine osa_exc (s := (c.tk (c.s.toks + 1)).s) s1.K I (taker56 _) fun b => ?_
 refine x1_3 (mro56 B.w) fun cd hc Z hd => ?_
 have X := s1.K
 replace h7 := h7 rfl
 obtain ⟨oc, odi, oda, osl⟩ := oe
 dsimp only at h2 h3 h7
 subst h2 h3 h7
 refine wpAny_bind (wpAny_pure (wpAny_bind (wpAny_bind (wpAny_loadPart h1 (wpAny_bind ((looks_clsIn X hc).here ?_))))))
 rw [hd]
 let de : Obj := { cls := .type "dict", data := .dict #[] }
 let oe' : Obj := { cls := .ref 56, dict := some c.s.heap.objs.size, data := .fields fs, slots := osl }
 have hD0 : (c.s.heap.push de).get? c.sz = some de := Heap.get?_push_size _ rfl
 have hna : a ≠ c.sz := Nat.ne_of_lt (ok.sim.low a (List.mem_of_getElem? ha))
 have hA1 : (c.s.heap.push de).get? a = some _ := Heap.get?_push_of_some de h1
 let h2 := (c.s.heap.push de).update a fun o => { o with dict := some c.s.heap.objs.size }
 have hA2 : h2.get? a = some oe' := Heap.get?_update_self _ hA1 rfl
 have hD : h2.get? c.sz = some (dictOf [] 0) := (Heap.get?_update_other _ _ hna).trans hD0
 show wpAny _ _ (alloc _ >>= fun d => update a _ >>= fun Z => dictMade _ a d) _ _ _
 refine wpAny_bind (wpAny_alloc (wpAny_bind (wpAny_update hA1 ?_)))
 refine wpAny_pure ?_
 show wpAny _ _ (storeInDict _ _ _ _) _ _ _
 refine wpAny_bind (wpAny_pure (wpAny_bind ?_))
 unfold nsSet
 refine wpAny_bind (wpAny_bind (wpAny_askSetting (wpAny_pure (wpAny_bind (wpAny_mkText (wpAny_bind (wpAny_loadPart hD ?_)))))))
 have h4' : NsRep c.G c.β B.w.params [] [] := trivial
 refine x2_2 (h4'.put (x := "word") (tk := (c.tk (c.s.toks + 1)).s.toks) (n := 0) rv) fun es' m' e1 e2 => ?_
 dsimp only
 rw [aRefKeyMayBeTheName_at, show (!(List.toArray ([] : List DictEntry)).any (·.key.isStr "word") && (List.toArray ([] : List DictEntry)).any (·.refKey)) = false by simp]
 let h3 := h2.update c.sz (Obj.putName "word" (PyData.keyHash B.w.params "word") (.str "word" (c.tk (c.s.toks + 1)).s.toks) v)
 have D' : h3.get? c.sz = some (dictOf es' m') := by
  show (h2.update c.sz _).get? c.sz = _
  rw [Heap.get?_update_self _ hD (by rw [e1]; rfl), e1]
 refine wpAny_updatePart hD ?_
 refine wpAny_bind (wpAny_lookBehind D' (pastItsLine_dict ?_) ?_)
 ·have := nput_length [] "word" d
  rw [List.size_toArray, e2.length, sizeLine_eq]; simp at this; lia
 ·refine wpAny_pure ?_
  let c1 : St := ⟨c.G, c.β, { c.s with heap := c.s.heap.push de }⟩
  let c2 : St := ⟨c.G, c.β, { c.s with heap := h2, toks := c.s.toks }⟩
  let c3 : St := ⟨c.G, c.β, { c.s with heap := h3, toks := c.s.toks + 1 + 1 }⟩
  have l1 : Le [] c c1 := le_push [] c de
  have t1 : Sim B σ c1 := sim_push ok.sim de
  have ha1 : c1.β[i]? = some a := ha
  have u1 : Heap.SameBut a c1.h h2 := Heap.SameBut.update ..
  have l2 : Le [] c1 c2 := le_mutc (t := c.s.toks) ha1 u1
  have t2 : Sim B (σ.set i (.exc true)) c2 := sim_mutc (c := c1) (t := c.s.toks) t1 ha1 hx nofun u1 ⟨oe', fs, hA2, rfl, rfl, h4, h5, h6, nofun⟩
  have u2 : Heap.SameBut c.sz c2.h h3 := Heap.SameBut.update ..
  have hg : c2.G c.sz = none := ok.sim.gnone (Nat.le_refl _)
  have hb : c.sz ∉ c2.β := fun hm => absurd (ok.sim.low _ hm) (Nat.lt_irrefl _)
  have l3 : Le [c.sz] c2 c3 := le_sameBut (c := c2) (t := c.s.toks + 1 + 1) u2 (.head _)
  have t3 : Sim B (σ.set i (.exc true)) c3 := sim_sameBut (c := c2) (t := c.s.toks + 1 + 1) t2 u2 hg hb
  exact k c3 ((((l1.trans l2).weaken fun Z h => nomatch h).trans l3).weaken_new fun b hb => .inr (by rw [List.mem_singleton.mp hb]; exact Nat.le_refl _)) t3
theorem St1.setexc {o value : Expr} {p pos : Pos} {i : Nat} {d : D} (hv : Ev value d B gl n ρ σ σ) (ho : Ev o (.obj i) B gl n ρ σ σ) (hx : σ[i]? = some (.exc false))
  (hw : ∀ env, swapsWith value (some (.Attribute o (Str.ofString "word") p)) pos.line env = pure false := by intro _; rfl) : St1 (.Assign [.Attribute o (Str.ofString "word") p] value pos) B gl n ρ ρ σ (σ.set i (.exc true)) := by
 intro A env c al st ok fr E Q k
 refine plainObj_wpAny_Assign_Attribute (hv A env c ok fr _ _ fun v c1 l1 s1 r1 => ho A env c1 (ok.step l1 s1) (fr.step l1) _ _ fun u c2 l2 s2 r2 => ?_) (hw env)
 have l12 := l1.trans l2
 refine set_exc (ok.step l12 s2) hx r2 (l2.rep r1) fun c3 l3 s3 => ?_
 exact k c3 (le_mut (l12.trans l3)) s3 (fr.step (l12.trans l3)) st
theorem mfinit_ok {i : Nat} {x : Str} (hx : σ[i]? = some (.exc false)) : Call 28 [.obj i, .str x] .none B (n + 1) σ (σ.set i (.exc true)) := by
 refine' Call.set0 (fl := .next) (ρ' := locs0 [Str.ofString "self", Str.ofString "word"] [.obj i, .str x] []) (fn_mfinit _) (Ex.seq (St1.expr (Ev.excInit (Ev.g g_Exception) (.cons Ev.name (.cons Ev.name .nil)) hx)) (Ex.seq (St1.setexc (d := .str x) Ev.name Ev.name hx) .nil)) (by rfl) (fun Z => rfl)
end
end
section
noncomputable abbrev tfMro : List Value := .ref 56 :: tfTail
theorem tf_has : tfMro.contains (.type "Exception") = true /\ tfMro.contains (.type "BaseException") = true /\ tfMro.contains (.ref 56) = true /\ tfMro.contains (.type "AttributeError") = false /\ tfMro.contains (.type "NameError") = false := by decide
section
variable {M : Model} {A : Around} {E : Value -> Shared -> Prop} {R : Result -> Shared -> Prop} {h : Heap} {g : Array GenState} {d : Drawn} {t : Nat} {os : OsState} {prog : Program} {w : World}
variable {nm q : Str} {N : Addr} {bs : List Value} {hdct : Bool} {sn : List Str} {sub : List Value} {ab : Bool} {col : Option Bool} {dd : Option Addr} {k0 k1 k2 k3 k5 : Option Value}
theorem check_new56 (w : World) (rest : List Value) : peek (KK w) ⟨PG, w.params⟩ (checkBuiltinCall "Exception.__new__" ⟨.ref 56 :: rest, []⟩) = some () := by kernel_rfl
theorem new56 {rest : List Value} (hC : h.get? 56 = some (excClassObj nm q 56 N bs tfTail hdct sn sub ab col dd k0 k1 k2 k3 k5 "Exception.__new__"))
  (hq : R (.ok (.ret (.ref (h.objs.size + 1)))) ⟨(h.push { cls := .type "tuple", data := .seq rest.toArray }).push
   { cls := .ref 56, data := .fields #[.ref h.objs.size, .none, .none, .none, .bool false, .none] }, g, d, t, os⟩) (hrest : rest.length <= sizeLine) :
  codeAny (model prog w) A (.builtin "Exception.__new__" ⟨.ref 56 :: rest, []⟩) R ⟨h, g, d, t, os⟩ := by
 have Fn := PySem.F.excBase_Exception
 have hends := Fn.ends
 have hcB := tf_has.1
 have hcA := tf_has.2.2.2.1
 have hcN := tf_has.2.2.2.2
 refine codeAny_builtinAt Fn.entry ?_
 unfold Builtin.«BaseException.__new__»
 refine PySem.wpAt_bind ?_
 show PySem.wpAt _ _ _ (stack >>= _) _ _ _
 refine PySem.wpAt_bind (PySem.wpAt_stack fun p below => PySem.wpAt_of_wpAny ?_)
 wp_walk
 refine PySem.wpAt_of_wpAny ?_
 rw [Fn.owner]
 repeat (first | with_reducible refine wpAny_madeHere_exc Fn.canon hC ?_ | with_reducible refine wpAny_loadPart_at hC ?_ | (with_reducible refine wpAny_isSubtype_exc hC ?_; first | rw [hcB] | rw [hcA] | rw [hcN]) | wp_step)
 show R _ _
 rw [Heap.size_push]
 exact hq
end
section
variable {B : Bs} {gl : Gl} {n : Nat} {ρ : Loc} {σ σ1 σ2 : Sto}
theorem tf_init (w : World) : findIn (KK w) (.ref 56) "__init__" = some (some (.ref 28)) := by rfl
theorem tf_fn (w : World) : typeIn (KK w) (.ref 28) = some (.type "function") := by rfl
theorem CallV.tf {x : Str} : CallV (.ref 56) [.str x] (.obj σ.length) B (n + 2) σ (σ ++ [.exc true]) := by
 intro A c vs ok p E Q k
 cases p with | cons p q =>
 cases q
 cases p with | str _ t =>
 have Fn := PySem.F.excBase_Exception
 refine cls56 B.w fun nm q N bs hdct sn sub' ab col dd k0 k1 k2 k3 k5 hC0 => ?_
 have hC := ok.sim.K _ _ hC0
 let to : Obj := { cls := .type "tuple", data := .seq [Value.str x t].toArray }
 let eo : Obj := { cls := .ref 56, data := .fields #[.ref c.sz, .none, .none, .none, .bool false, .none] }
 let c1 : St := ⟨c.G, c.β, { c.s with heap := c.s.heap.push to }⟩
 let c2 : St := c1.own eo
 have l1 : Le [] c c1 := le_push [] c to
 have s1 : Sim B σ c1 := sim_push ok.sim to
 have l2 : Le [] c1 c2 := .own _ _ _
 have s2 : Sim B (σ ++ [.exc false]) c2 := s1.own _ _ ⟨eo, _, Heap.get?_push_size _ rfl, rfl, rfl, rfl, rfl, ⟨_, rfl⟩, fun Z => rfl⟩
 have hsz : c1.sz = c.sz + 1 := Heap.size_push ..
 have hC2 := s2.K _ _ hC0
 have hlen : ([Value.str x t] : List Value).length <= sizeLine := by rw [sizeLine_eq]; exact (by decide : 1 <= 16777216)
 have f1 := tc_lookup
 have f2 := tc_bind (.ref 56)
 have hT : (⟨c.s.heap, c.s.gens, c.s.drawn, c.s.toks, c.s.os⟩ : Shared).TypeIs (.ref 56) "type" := ⟨_, hC, rfl⟩
 refine wpAny_call (codeAny_of_tree ?_)
 show wpAny _ _ (callAny (.ref 56) _) _ _ ⟨c.s.heap, c.s.gens, c.s.drawn, c.s.toks, c.s.os⟩
 repeat (any_goals (first | assumption | with_reducible refine wpAny_loadPart_at hC ?_ | wp_step))
 refine ⟨rfl, ?_⟩
 refine codeAny_call_builtin_at (Code.quiet_builtin _ (by decide +kernel)) entry_typeCall (wpAny_check_type_call_sub hC ?_)
 repeat (first | with_reducible refine wpAny_loadPart_at hC ?_ | with_reducible refine wpAny_madeBy_exc hC ?_ | wp_step)
 refine codeAny_call_builtin_code (Code.quiet_builtin _ Fn.quiet) ((Looks.of_peek ok.sim.K (check_new56 _ _)).here ?_)
 refine new56 hC ?_ hlen
 show wpAny _ (A.under (.builtin "type.__call__" ⟨.ref 56 :: [Value.str x t], []⟩)) _ _ _ ⟨c2.s.heap, c.s.gens, c.s.drawn, c.s.toks, c.s.os⟩
 have hget : c2.s.heap.get? (c.s.heap.objs.size + 1) = some eo := by
  rw [<- hsz]; exact Heap.get?_push_size _ rfl
 unfold isInstance
 repeat (first | with_reducible refine wpAny_loadPart_at hget ?_ | (with_reducible refine wpAny_isSubtype_exc hC2 ?_; rw [tf_has.2.2.1]) | wp_step)
 show wpAny _ _ (typeLookup (.ref 56) _) _ _ _
 refine (looks_findIn s2.K (tf_init _)).here ?_
 refine wpAny_holding (wpAny_bind ?_)
 refine (bind_fn s2.K _ (tf_fn _)).here ?_
 have okA : Ok B A (n + 1) σ c := ok.le (by lia)
 obtain ⟨A', hA'⟩ : ∃ A', A' = A.under (.builtin "type.__call__" ⟨.ref 56 :: [Value.str x t], []⟩) := ⟨_, rfl⟩
 have e1 : A'.handled = A.handled := by rw [hA']; rfl
 have e2 : A'.depth = A.depth + 1 := by rw [hA']; rfl
 have e3 : A'.frames = A.frames := by
  rw [hA']
  simp [Around.under, Code.envs, Code.isFrame, pushEnvs]
 have e4 : A'.units <= A.units + 4 := by
  rw [hA']
  show A.units + Code.cUnits _ <= _
  have hw : (Code.builtin "type.__call__" ⟨.ref 56 :: [Value.str x t], []⟩).weight = 1 := rfl
  have hf : (Code.builtin "type.__call__" ⟨.ref 56 :: [Value.str x t], []⟩).frames <= 1 := by unfold Code.weight at hw; lia
  show A.units + (1 + 3 * (Code.builtin "type.__call__" ⟨.ref 56 :: [Value.str x t], []⟩).frames) <= _
  lia
 rw [<- hA']
 have ok2 : Ok B A' (n + 1) (σ ++ [.exc false]) c2 := by
  have q := okA.step (l1.trans l2) s2
  refine ⟨e1.trans q.hnd, by rw [e2]; have := ok.dep; lia, by have := ok.uni; lia, by rw [e3]; exact q.stk, q.sim⟩
 have rx : Rep c2.G c2.β (.ref (c.s.heap.objs.size + 1)) (.obj σ.length) := by
  refine .obj ?_
  show (c.β ++ [c1.sz])[σ.length]? = some (c.sz + 1)
  rw [<- ok.sim.len, List.getElem?_append_right (Nat.le_refl _), hsz]; simp
 have hc := mfinit_ok (B := B) (n := n) (x := x) (get_last (σ := σ) (y := .exc false))
 rw [set_last] at hc
 refine wpAny_bind (wpAny_call (hc A' c2 [.ref (c.s.heap.objs.size + 1), .str x t] ok2 (.cons rx (.cons (.str _ _) .nil)) _ fun v c3 l3 s3 r3 => ?_))
 cases r3
 have fin := k _ c3 ((l1.trans l2).trans l3) s3 (l3.rep rx)
 wp_walk
 exact fin
end
end
section
section
variable {B : Bs} {gl : Gl} {n : Nat} {ρ ρ1 ρ' : Loc} {σ τ σ1 σ2 : Sto} {c c0 : St} {M : List Addr} {z : Nat} {H : List Addr} {base h' h'' : Heap}
structure Air (z : Nat) (H : List Addr) (c : St) (base h' : Heap) : Prop where
 hid : ∀ b ∈ H, b ∉ c.β /\ c.G b = none /\ (b < z -> ∀ o, c.h.get? b = some o -> IsDict o)
 keep : ∀ b o, c.h.get? b = some o -> b ∉ H -> base.get? b = some o
 slot : c.h.UpToSlots h'
 stay : base.StaysIn h'
 size : c.sz <= h'.objs.size
theorem Air.step (x : Air z H c base h') (s : base.StaysIn h'') (u : h'.UpToSlots h'') (hz : h'.objs.size <= h''.objs.size) : Air z H c base h'' :=
 ⟨x.hid, x.keep, x.slot.trans u, s, Nat.le_trans x.size hz⟩
theorem Air.weaken {z' : Nat} (x : Air z H c base h') (h : z' <= z) : Air z' H c base h' :=
 ⟨fun b hb => ⟨(x.hid b hb).1, (x.hid b hb).2.1, fun hl => (x.hid b hb).2.2 (Nat.lt_of_lt_of_le hl h)⟩, x.keep, x.slot, x.stay, x.size⟩
theorem dict_not_fields {o : Obj} (h : IsDict o) : ∀ vs, o.data ≠ .fields vs := by
 refine x2_1 h fun es ep h => ?_
 intro vs e; rw [h] at e; cases e
theorem Air.le (x : Air z H c base h') (hz : c0.sz <= z) (l : Le M c0 c) : Le M c0 ⟨c.G, c.β, { c.s with heap := h' }⟩ := by
 refine ⟨l.g, l.gn, l.b, fun b o h1 h2 h3 => ?_, Nat.le_trans l.size x.size, ?_⟩
 ·refine x1_2 (l.keep b o h1 h2 h3) fun o1 e1 k1 => ?_
  by_cases hb : b ∈ H
  ·have hd := (x.hid b hb).2.2 (Nat.lt_of_lt_of_le (Heap.lt_size h1) hz) o1 e1
   refine x1_1 (x.slot b o1 e1 (dict_not_fields hd)) fun sl e2 => ?_
   exact ⟨_, e2, k1.trans (.inr ⟨hd, sl, rfl⟩)⟩
  ·exact ⟨o1, x.stay _ _ (x.keep b o1 e1 hb), k1⟩
 ·show ({ c.s with heap := h' } : Shared) = { c0.s with heap := h', toks := c.s.toks }
  rw [l.rest]
theorem Air.sim (x : Air z H c base h') (s : Sim B σ c) : Sim B σ ⟨c.G, c.β, { c.s with heap := h' }⟩ := by
 have hk : ∀ b o, c.h.get? b = some o -> b ∉ H -> h'.get? b = some o := fun b o h1 h2 => x.stay _ _ (x.keep b o h1 h2)
 have hG : ∀ b o, c.G b = some o -> h'.get? b = some o := fun b o h => hk b o (s.sub b o h) fun hb => by rw [(x.hid b hb).2.1] at h; cases h
 exact ⟨s.base, hG, s.len, s.nodup, s.mods, fun a ha => Nat.lt_of_lt_of_le (s.low a ha) x.size, s.off, fun i a y e1 e2 => (s.cells i a y e1 e2).mono (fun Z Z h => h) (fun Z Z h => h) hG fun o h => hk a o h fun hb => (x.hid a hb).1 (List.mem_of_getElem? e1)⟩
theorem setFlight_some {M : Model} {A : Around} {E : Value -> Shared -> Prop} {s : Shared} {l : List Env} {e L : Addr} {cls a0 fl : Value} {Q : Unit -> Shared -> Prop}
  (hkb : base.StaysIn s.heap) (hen : base.get? e = none) (hl : s.heap.FunFrames base l) (ht : s.heap.TracedAtW base e cls a0 fl)
  (h : ∀ h', Heap.HeldW base l e cls a0 L h' -> s.heap.UpToSlots h' -> s.heap.objs.size <= h'.objs.size -> Q () { s with heap := h' }) :
  wpAny M A (setFlight (.ref e) (some L)) Q E s := by
 refine x5_9 ht fun oe vs T oT ts he hcls hd h1 hnT hTe hT hdT h3 => ?_
 have hsz3 : 3 < ts.size := (Array.getElem?_eq_some_iff.mp h3).1
 have other : ∀ b, b ≠ T -> (s.heap.update T (Obj.mapFields (·.setIfInBounds 3 (rawInt L)))).get? b = s.heap.get? b :=
  fun b hb => Heap.get?_update_other _ _ (Ne.symm hb)
 have noRecord : ∀ b o, s.heap.get? b = some o -> (∀ vs, o.data ≠ .fields vs) -> b ≠ T := fun b o hb hnf q => by
  rw [q, hT] at hb; injection hb with hb; subst hb; exact hnf ts hdT
 unfold setFlight
 refine wpAny_bind (wpAny_field he hd h1 ?_)
 rw [if_pos (show (Value.ref T != Value.none) = true from by simp)]
 refine wpAny_setField hT hdT hsz3 (h _ ⟨fun b o hbo => (other b fun q => by rw [q, hnT] at hbo; cases hbo).trans (hkb b o hbo), hen,
  (hl.of_keeps fun b o hb hnf => ⟨o, (other b (noRecord b o hb hnf)).trans hb, rfl⟩), ?_⟩ (fun b o hb hnf => ⟨o.slots, (other b (noRecord b o hb hnf)).trans hb⟩) ?_)
 ·exact ⟨oe, vs, T, _, _, (other e (Ne.symm hTe)).trans he, hcls, hd, h1, hnT, hTe, Heap.get?_update_self _ hT (Obj.isFreed_of_fields (Obj.data_mapFields hdT _)), Obj.data_mapFields hdT _, by simp [hsz3]⟩
 ·rw [Heap.size_after_update]; exact Nat.le_refl _
theorem cameBack_held {prog : Program} {w : World} {A : Around} {E : Value -> Shared -> Prop} {s : Shared} {l : List Env} {env : Env} {e L L' : Addr} {cls a0 : Value} (hf : env.frame = some L) (hh : Heap.HeldW base l e cls a0 L' s.heap)
  (h : ∀ h', Heap.HeldW base l e cls a0 L h' -> s.heap.UpToSlots h' -> s.heap.objs.size <= h'.objs.size -> E (.ref e) { s with heap := h' }) : cameBackBy (model prog w) A env E (.ref e) s := by
 refine x0_4 hh fun k1 k2 k3 k4 => ?_; clear hh
 have k4' := k4
 refine x5_5 k4 fun oe vs T oT ts he hcls hd h1 r => ?_
 unfold cameBackBy
 refine wpAny_bind (wpAny_field he hd h1 ?_)
 rw [if_neg (by simp)]
 rw [hf]
 exact setFlight_some k1 k2 k3 k4' h
noncomputable abbrev fsOf (l : List Env) : List Addr := l.filterMap (·.frame)
theorem made_air {A : Around} {l : List Env} {i : Nat} {e : Addr} {b : Bool} (ok : Ok B A n (σ ++ τ) c) (hl : A.frames = some l) (he : c.β[i]? = some e) (hx : (σ ++ τ)[i]? = some (.exc b)) (hi : σ.length <= i) (hz : z <= e) (hlow : Sto.low σ.length σ) :
  Air z (e :: fsOf l) ⟨c.G, c.β.take σ.length, c.s⟩ (hideAll c.h (e :: fsOf l)) c.h /\ Sim B σ ⟨c.G, c.β.take σ.length, c.s⟩ /\ c.h.FunFrames (hideAll c.h (e :: fsOf l)) l /\ e ∉ fsOf l := by
 obtain ⟨outer, h1, h2, h3⟩ := ok.stk
 rw [hl] at h1; cases h1
 have hnm : e ∉ fsOf l := fun hm => (h3 e hm).1 (List.mem_of_getElem? he)
 refine ⟨⟨fun b' hb => ?_, fun b' o h hb => hideAll_get _ h hb, .refl _, fun b' o h => of_hideAll _ h, Nat.le_refl _⟩, ok.sim.drop hlow, ?_, hnm⟩
 ·rcases List.mem_cons.mp hb with rfl | hb
  ·refine ⟨fun hm => ?_, ok.sim.off i _ _ he hx nofun, fun hlt => absurd hlt (Nat.not_lt.mpr hz)⟩
   obtain ⟨j, hj⟩ := List.mem_iff_getElem?.mp hm
   have hjl : j < σ.length := by
    have := (List.getElem?_eq_some_iff.mp hj).1
    rw [List.length_take] at this; lia
   rw [List.getElem?_take_of_lt hjl] at hj
   have := (List.getElem?_inj (List.getElem?_eq_some_iff.mp hj).1 ok.sim.nodup).mp (hj.trans he.symm)
   lia
  ·obtain ⟨q1, q2, o, ho, hd⟩ := h3 b' hb
   exact ⟨fun hm => q1 (List.mem_of_mem_take hm), q2, fun Z o' ho' => by rw [show c.h.get? b' = some o' from ho'] at ho; cases ho; exact hd⟩
 ·exact funFrames_hide h2 fun env' he' a ha => .tail _ (List.mem_filterMap.mpr ⟨env', he', ha⟩)
inductive Raised (B : Bs) (A : Around) (env : Env) (n : Nat) (σ : Sto) (c : St) (e : Addr) : Shared -> Prop
 | made {c2 : St} {τ : Sto} {i : Nat} {b : Bool} : Le (mutA env) c c2 -> Ok B A n (σ ++ τ) c2 -> c2.β[i]? = some e -> (σ ++ τ)[i]? = some (.exc b) -> σ.length <= i -> Raised B A env n σ c e c2.s
 | held {c2 : St} {H : List Addr} {base h' : Heap} {l : List Env} {a0 : Value} {L : Addr} : Le (mutA env) c c2 -> Sim B σ c2 -> A.frames = some l -> env.frame = some L -> (∀ b ∈ fsOf l, b ∈ H) -> Air c.sz H c2 base h' -> Heap.HeldW base l e (.ref 56) a0 L h' -> Raised B A env n σ c e { c2.s with heap := h' }
theorem Raised.mono {A : Around} {env : Env} {e : Addr} {s : Shared} (l : Le (mutA env) c0 c) (x : Raised B A env n σ c e s) : Raised B A env n σ c0 e s := by
 cases x with
 | made h1 h2 h3 h4 h5 => exact .made (l.trans h1) h2 h3 h4 h5
 | held h1 h2 h3 h4 h5 h6 h7 => exact .held (l.trans h1) h2 h3 h4 h5 (h6.weaken l.size) h7
noncomputable def ExR (ss : List Stmt) (B : Bs) (gl : Gl) (n : Nat) (ρ : Loc) (σ : Sto) : Prop :=
 ∀ (A : Around) (env : Env) (c : St), Alone A env -> Stores env ρ -> Ok B A n σ c -> Frm env gl ρ c -> ∀ (E : Want Value) (Q : Want Flow), (∀ e s', Raised B A env n σ c e s' -> E (.ref e) s') -> wpAny (model PG B.w) A (execs ss env) Q E c.s
theorem ExR.seq {s : Stmt} {rest : List Stmt} (h : St1 s B gl n ρ ρ1 σ σ) (hr : ExR rest B gl n ρ1 σ) : ExR (s :: rest) B gl n ρ σ :=
 fun A env c al st ok fr E Q k => wpAny_execs_cons (h A env c al st ok fr _ _ fun c1 l1 s1 fr1 st1 =>
  hr A env c1 al st1 (ok.frame al l1 s1 fr1.ns) fr1 _ _ fun e s' r => k e s' (r.mono l1))
theorem ExR.ifs {test : Expr} {body orelse rest : List Stmt} {pos : Pos} {b : Bool} (h : EvT test b B gl n ρ σ σ) (hr : ExR ((if b then body else orelse) ++ rest) B gl n ρ σ) : ExR (.If test body orelse pos :: rest) B gl n ρ σ := by
 intro A env c al st ok fr E Q k Γ p hΓ
 rw [execs_cons, Sem.wp_bind', exec_If, Sem.wp_bind', Sem.wp_cmd_standAt, Sem.wp_bind']
 refine Sem.wp_mono _ Γ _ (fun b' p' s' q => ?_) (fun Z Z Z q => q) _ _ (h A env c ok fr E (fun b' s' => b' = b /\ ∀ p', Sem.wp (model PG B.w) Γ (execs ((if b then body else orelse) ++ rest) env) (fun a Z s' => Q a s') (fun e Z s' => E e s') p' s') (fun c1 l1 s1 => ⟨rfl, fun p' => ?_⟩) Γ _ hΓ)
 ·obtain ⟨rfl, q⟩ := q
  have q := q p'
  rw [wp_append] at q
  cases b' with
  | true =>
   refine Sem.wp_mono _ Γ _ (fun f p'' s'' r => ?_) (fun Z Z Z r => r) _ _ q
   cases f <;> first | exact r | (rw [Sem.wp_pure']; exact r)
  | false =>
   refine Sem.wp_mono _ Γ _ (fun f p'' s'' r => ?_) (fun Z Z Z r => r) _ _ q
   cases f <;> first | exact r | (rw [Sem.wp_pure']; exact r)
 ·exact hr A env c1 al st (ok.step l1 s1) (fr.step l1) E Q (fun e s' r => k e s' (r.mono (le_mut l1))) Γ p' hΓ
theorem ExR.ifT {test : Expr} {body orelse rest : List Stmt} {pos : Pos} (h : EvT test true B gl n ρ σ σ) (hr : ExR (body ++ rest) B gl n ρ σ) : ExR (.If test body orelse pos :: rest) B gl n ρ σ := ExR.ifs h hr
theorem ExR.ifF {test : Expr} {body orelse rest : List Stmt} {pos : Pos} (h : EvT test false B gl n ρ σ σ) (hr : ExR (orelse ++ rest) B gl n ρ σ) : ExR (.If test body orelse pos :: rest) B gl n ρ σ := ExR.ifs h hr
theorem raise_exc {A : Around} {env : Env} {s : Shared} {x : Sem Value} {E : Want Value} {Q : Want Flow} (hh : A.handled = none)
  (h : wpAny (model PG B.w) A x (fun v s₁ => ∃ e oe fs, v = .ref e /\ (KK B.w).In s₁.heap /\ s₁.heap.get? e = some oe /\ oe.cls = .ref 56 /\ oe.data = .fields fs /\ fs[1]? = some .none /\ E (.ref e) s₁) E s) :
  wpAny (model PG B.w) A (raiseStmt env (some x) none) Q E s := by
 have hcB := tf_has.2.1
 refine cls56 B.w fun nm q N bs hdct sn sub' ab col dd k0 k1 k2 k3 k5 hC0 => ?_
 unfold raiseStmt
 refine wpAny_bind (wpAny_mono h (fun v s₁ h₁ => ?_) fun Z Z x => x)
 refine x3_7 h₁ fun e oe fs Q X he hcls hd hf hE => ?_; clear h₁; subst Q
 have hC := X _ _ hC0
 obtain ⟨hp, g, d, tk, os⟩ := s₁
 obtain ⟨oc, odi, oda, osl⟩ := oe
 dsimp only at hcls hd
 subst hcls hd
 repeat (first | with_reducible refine wpAny_loadPart_at he ?_ | with_reducible refine wpAny_loadPart_at hC ?_ | (with_reducible refine wpAny_isSubtype_exc hC ?_; rw [hcB]) | wp_step)
 rw [hf]
 refine wpAny_pure ?_
 rw [if_neg (by simp)]
 exact wpAny_pure (wpAny_raiseNew_none hh hE)
theorem Keeps'.tf : Keeps' (.ref 56) B := by
 refine cls56 B.w fun nm q N bs hdct sn sub' ab col dd k0 k1 k2 k3 k5 hC0 => ?_
 refine ⟨.machine, fun A E s k => ?_⟩
 have hC := k _ _ (B.X _ _ hC0)
 obtain ⟨hp, g, d, tk, os⟩ := s
 exact wpAny_keeperOf_exc hC ⟨rfl, rfl⟩
theorem ExR.raise {ex : Expr} {pos : Pos} {rest : List Stmt} (h : Ev ex (.obj σ.length) B gl n ρ σ (σ ++ [.exc true])) : ExR (.Raise (some ex) none pos :: rest) B gl n ρ σ := by
 intro A env c al st ok fr E Q k
 refine wpAny_execs_cons ?_
 rw [arm_exec_Raise]
 show wpAny _ A (standAt pos >>= fun Z => raiseStmt env (some (do let v <- eval ex env; standAt pos; pure v)) none) _ _ _
 refine wpAny_bind (wpAny_standAt (raise_exc ok.hnd (wpAny_bind (h A env c ok fr _ _ fun v c1 l1 s1 r1 => wpAny_bind (wpAny_standAt (wpAny_pure ?_))))))
 refine exc_at s1 r1 get_last fun a oe vs eQ ha h1 h2 h3 h4 h5 h6 h7 => ?_; subst eQ
 exact ⟨a, oe, vs, rfl, s1.K, h1, h2, h3, h5, k a c1.s (.made (le_mut l1) (ok.step l1 s1) ha get_last (Nat.le_refl _))⟩
theorem raised_leaves {A : Around} {env : Env} {l : List Env} {e : Addr} {s : Shared} {E : Want Value} {Q : Want Unit} (hfr : A.frames = some (env :: l)) (hlow : Sto.low σ.length σ) (hlen : c.β.length = σ.length) (hen : env.frame = some env.locals) (x : Raised B A env n σ c e s)
  (k : ∀ c2 H base a0 h', Le (mutA env) c c2 -> Sim B σ c2 -> (∀ b ∈ fsOf (env :: l), b ∈ H) -> Air c.sz H c2 base h' -> Heap.FlyingW base l e (.ref 56) a0 h' -> Q () { c2.s with heap := h' }) :
  wpAny (model PG B.w) A (leaving env (.ref e)) Q E s := by
 cases x with
 | @made c2 τ i b l2 ok2 he hx hi =>
  have hz : c.sz <= e := by
   refine x1_2 l2.b fun t q ht => ?_
   refine ht e ?_
   rw [q, List.getElem?_append_right (by lia)] at he
   exact List.mem_of_getElem? he
  have a0 := made_air (z := c.sz) ok2 hfr he hx hi hz hlow
  refine x0_4 a0 fun air s2 fl hne => ?_; clear a0
  refine x2_7 (ok2.sim.cells i e _ he hx) fun oe vs h1 h2 h3 h4 h5 h6 h7 => ?_; refine h6.elim fun a0 h6 => ?_
  refine wpAny_size ?_
  refine wpAny_leaving_firstW (a0 := a0) hfr fl hen h1 air.stay (hideAll_none _ (.head _)) h3 h5 h6 fun h' hL hz' => ?_
  refine x0_4 hL fun k1 k2 k3 k4 => ?_; clear hL
  have lcut : Le (mutA env) c ⟨c2.G, c2.β.take σ.length, c2.s⟩ := l2.cut (by lia)
  exact k ⟨c2.G, c2.β.take σ.length, c2.s⟩ _ _ a0 h' lcut s2 (fun b hb => .tail _ hb) (air.step k1 k4 hz') ⟨k1, hideAll_none _ (.head _), k2.2.2, by rw [<- h2]; exact k3⟩
 | @held c2 H base h' l' a0 L l2 s2 hl hL hH air hh =>
  rw [hfr] at hl; cases hl
  unfold leaving
  refine wpAny_bind (wpAny_noteFrame_againW hL hh.2.2.2 ?_)
  refine wpAny_size ?_
  refine wpAny_landsW hh fun h'' hfl hu hz => ?_
  refine x0_4 hfl fun k1 k2 k3 k4 => ?_; clear hfl
  exact k c2 H base a0 h'' l2 s2 hH (air.step k1 hu hz) ⟨k1, k2, k3.2.2, k4⟩
noncomputable def CallX (f : Addr) (args : List D) (B : Bs) (n : Nat) (σ : Sto) : Prop :=
 ∀ (A : Around) (c : St) (vs : List Value), Ok B A n σ c -> RepAll c.G c.β vs args -> ∀ (R : Result -> Shared -> Prop),
  (∀ l e c2 H base a0 h', A.frames = some l -> Le [] c c2 -> Sim B σ c2 -> (∀ b ∈ fsOf l, b ∈ H) -> Air c.sz H c2 base h' -> Heap.FlyingW base l e (.ref 56) a0 h' -> R (.error (.ref e)) { c2.s with heap := h' }) -> codeAny (model PG B.w) A (.call (.ref f) ⟨vs, []⟩) R c.s
end
end
section
theorem CallX.fn {B : Bs} {f : Addr} {fd : FuncData} {body : List Stmt} {names vars : List Str} {gl : Gl} {args : List D} {n : Nat} {σ : Sto}
  (K : FnOk B.w f fd body names gl vars) (ha : args.length = names.length) (h : ExR body B gl n (locs0 names args vars) σ) : CallX f args B (n + 1) σ := by
 intro A c vs ok ra R k
 refine x3_1 K.here fun oc od osl ho => ?_
 have hlen : vs.length = names.length := ra.length.trans ha
 have hkind : ∀ x ∈ names ++ vars, (fd.scope.names.lookup x = some .local \/ fd.scope.names.lookup x = some .cell) /\ (x == ("__debug__" : Str)) = false := fun x hx => by
  have := List.all_eq_true.mp K.kinds x hx
  rw [Bool.and_eq_true, Bool.or_eq_true, beq_iff_eq, beq_iff_eq, Bool.not_eq_true'] at this
  exact this
 have hz : (names.zip vs).map (fun x => x.1) = names := List.map_fst_zip (Nat.le_of_eq hlen.symm)
 refine codeAny_call_cells (fd := fd) (body := body) (binds := names.zip vs) (by show A.depth < 1000; have := ok.dep; lia) (ok.sim.K _ _ ho) rfl ok.sim.lim (codeRec_of ok.sim.K K.code) K.body (K.bind vs hlen) K.clo ?_ (fun s₁ x => ?_) K.co K.gen K.fn
 ·intro x hx
  have hm : x.1 ∈ names := by rw [<- hz]; exact List.mem_map_of_mem hx
  rcases (hkind x.1 (List.mem_append_left _ hm)).1 with e | e
  ·exact .inl e
  ·exact .inr ⟨e, cellsFrom_some _ _ _ (.inl e)⟩
 ·refine x2_1 x.toInCall.same fun h₁ tk Q => ?_; subst Q
  have hkeep := x.toInCall.keep
  have hL : c.sz < h₁.objs.size := x.toInCall.ns.lt
  let env := callEnvC fd c.sz f
  let c1 : St := ⟨c.G, c.β, { c.s with heap := h₁, toks := tk }⟩
  have l1 : Le [] c c1 := ⟨fun Z Z h => h, fun Z h Z Z => h, ⟨[], by simp [c1], fun Z h => nomatch h⟩, fun b o h Z Z => ⟨o, hkeep b o h, .refl o⟩, Nat.le_of_lt hL, rfl⟩
  have s1 : Sim B σ c1 := by
   refine ⟨ok.sim.base, fun b o h => hkeep b o (ok.sim.sub b o h), ok.sim.len, ok.sim.nodup, ok.sim.mods, fun a ha => Nat.lt_trans (ok.sim.low a ha) hL, ok.sim.off, fun i a y e1 e2 => (ok.sim.cells i a y e1 e2).mono (fun Z Z h => h) (fun Z Z h => h) (fun b o h => hkeep b o (ok.sim.sub b o h)) fun o h => hkeep _ o h⟩
  have hmut : ∀ b ∈ mutA env, c.sz <= b := fun b hb => by
   cases hb with
   | head => exact Nat.le_refl _
   | tail _ hb =>
    refine x1_2 (List.mem_map.mp hb) fun p hp Q => ?_; subst Q
    exact Nat.le_of_lt (x.above p.1 p.2 hp)
  have lk : ∀ y, env.kindOf y = some .cell -> ∃ a, env.cells.lookup y = some a := fun y hy => Option.isSome_iff_exists.mp (cellsFrom_some _ _ _ (.inl hy))
  have hkeys := locs0_keys (vars := vars) ha
  have hst : Stores env (locs0 names args vars) := fun p hp => (hkind p.1 (by rw [<- hkeys]; exact List.mem_map_of_mem hp)).1
  have F1 : Frm env gl (locs0 names args vars) c1 := by
   refine ⟨K.fn, K.glb, K.blt, K.gls, by rw [hkeys]; exact K.nd, fun p hp => (hkind p.1 (by rw [<- hkeys]; exact List.mem_map_of_mem hp)).2, ⟨_, x.toInCall.ns⟩, fun y dy hy => ?_, fun y hy => ?_, x.apart, fun p hp => Nat.ne_of_gt (x.above p.1 p.2 hp), fun b hb => ⟨ok.sim.gnone (hmut b hb), fun hm => absurd (ok.sim.low b hm) (Nat.not_lt.mpr (hmut b hb)), ?_⟩⟩
   ·refine x1_2 (locs0_get hy) fun i e1 e2 => ?_
    refine x1_2 (ra.get e2) fun v e3 rv => ?_
    have hm : (y, v) ∈ names.zip vs := List.mem_iff_getElem?.mpr ⟨i, by rw [List.getElem?_zip_eq_some]; exact ⟨e1, e3⟩⟩
    have hnd : ((names.zip vs).map (fun x => x.1)).Nodup := by rw [hz]; exact (List.nodup_append.mp K.nd).1
    rcases (hkind y (List.mem_append_left _ (List.mem_of_getElem? e1))).1 with e | e
    ·exact .loc e x.toInCall.ns (bindL_get hnd hm e) (l1.rep rv)
    ·refine x1_1 (lk y e) fun a ha' => ?_
     refine .cel e ha' ?_ (l1.rep rv)
     have := x.cell y a ha'
     rwa [bindC_get hnd hm (by show fd.scope.names.lookup y ≠ _; rw [e]; decide)] at this
   ·refine x1_1 (lk y hy) fun a ha' => ?_
    exact ⟨a, _, ha', x.cell y a ha'⟩
   ·cases hb with
    | head => exact hL
    | tail _ hb =>
     refine x1_2 (List.mem_map.mp hb) fun p hp Q => ?_; subst Q
     have hnd := cellsFrom_names fd.scope.names 0 (c.sz + 1) [] [] rfl ▸ K.cnd
     exact (x.cell p.1 p.2 (lookup_of_mem_nodup hnd hp)).lt
  have ok1 : Ok B (A.deeper env) n σ c1 := by
   refine x1_3 ((ok.step l1 s1).stk) fun outer e1 e2 e3 => ?_
   refine ⟨ok.hnd, by show A.depth + 1 + n <= 990; have := ok.dep; lia, by show A.units + 3 + 10 * n <= 9800; have := ok.uni; lia, ⟨env :: outer, Around.frames_deeper e1, ?_, ?_⟩, s1⟩
   ·refine x3_3 x.toInCall.ns fun oL es ep q1 q2 Z => ?_
    refine ⟨by show fd.scope.kind ≠ _; rw [K.fn]; decide, ⟨c.sz, oL, rfl, ?_, q1, fun vs e => by rw [q2] at e; cases e⟩, e2⟩
    cases q : B.hb.get? c.sz with
    | none => rfl
    | some o => exact absurd (Heap.lt_size (ok.sim.top _ _ q)) (Nat.lt_irrefl _)
   ·intro b hb
    rw [List.filterMap_cons] at hb
    rcases List.mem_cons.mp hb with rfl | hb
    ·refine x3_3 x.toInCall.ns fun oL es ep q1 q2 Z => ?_
     exact ⟨(F1.off c.sz (.head _)).2.1, (F1.off c.sz (.head _)).1, oL, q1, es, ep, q2⟩
    ·exact e3 b hb
  have al : Alone (A.deeper env) env := by
   refine ⟨?_, let ⟨outer, e1, _, _⟩ := ok.stk; ⟨outer, Around.frames_deeper e1⟩, rfl⟩
   intro outer' e e' he b hb hm
   refine x1_3 ok.stk fun outer e1 e2 e3 => ?_
   have : some outer' = some (env :: outer) := by rw [<- e]; exact Around.frames_deeper e1
   cases this
   rcases List.mem_cons.mp he with rfl | he
   ·cases hb; rfl
   ·have : b ∈ outer.filterMap (·.frame) := List.mem_filterMap.mpr ⟨e', he, hb⟩
    obtain ⟨_, o, q, _⟩ := e2.mem this
    exact absurd (Heap.lt_size q) (Nat.not_lt.mpr (hmut b hm))
  refine h (A.deeper env) env c1 al hst ok1 F1 _ _ fun e s' rs => ?_
  refine x1_3 ok.stk fun outer e1 e2 e3 => ?_
  refine raised_leaves (l := outer) (c := c1) (Around.frames_deeper e1) ok.sim.low_at ok.sim.len rfl rs fun c2 H base a0 h' l2 s2 hH air fl => ?_
  have l12 : Le [] c c2 := ((l1.weaken (fun Z h => nomatch h)).trans l2).weaken_new fun a ha => .inr (hmut a ha)
  exact k outer e c2 H base a0 h' e1 l12 s2 (fun b hb => hH b (by
   refine x1_2 (List.mem_filterMap.mp hb) fun e' he' hf' => ?_
   exact List.mem_filterMap.mpr ⟨e', .tail _ he', hf'⟩)) (air.weaken l1.size) fl
section
variable {B : Bs} {gl : Gl} {n : Nat} {ρ ρ1 ρ2 ρ' : Loc} {σ τ σ1 σ2 : Sto} {c c0 : St} {M : List Addr} {z : Nat} {H : List Addr} {base h' h'' : Heap}
theorem CallX.at {f : Addr} {names vars : List Str} {args : List D} (K : FnAt B.w f names gl vars) (h : ExR (bodyIn (KK B.w) f) B gl n (locs0 names args vars) σ) (ha : args.length = names.length := by rfl) : CallX f args B (n + 1) σ := by
 refine x1_1 K fun fd K => ?_
 exact CallX.fn K ha h
inductive ForR (t : Expr) (body : List Stmt) (B : Bs) (gl : Gl) (n : Nat) : List D -> Loc -> Sto -> Prop
 | step {d : D} {ds : List D} {ρ ρ1 ρ2 : Loc} {σ : Sto} : Tgt t d B gl ρ ρ1 -> Ex body .next B gl n ρ1 ρ2 σ σ -> ForR t body B gl n ds ρ2 σ -> ForR t body B gl n (d :: ds) ρ σ
 | here {d : D} {ds : List D} {ρ ρ1 : Loc} {σ : Sto} : Tgt t d B gl ρ ρ1 -> ExR body B gl n ρ1 σ -> ForR t body B gl n (d :: ds) ρ σ
theorem raised_noted {A : Around} {env : Env} {l : List Env} {e : Addr} {s : Shared} {E : Want Value} (hfr : A.frames = some (env :: l)) (hlow : Sto.low σ.length σ) (hlen : c.β.length = σ.length) (hen : env.frame = some env.locals) (x : Raised B A env n σ c e s)
  (k : ∀ c2 H base a0 h' L, Le (mutA env) c c2 -> Sim B σ c2 -> env.frame = some L -> (∀ b ∈ fsOf (env :: l), b ∈ H) -> Air c.sz H c2 base h' -> Heap.HeldW base (env :: l) e (.ref 56) a0 L h' -> E (.ref e) { c2.s with heap := h' }) :
  notedBy (model PG B.w) A env E (.ref e) s := by
 unfold notedBy
 cases x with
 | @made c2 τ i b l2 ok2 he hx hi =>
  have hz : c.sz <= e := by
   refine x1_2 l2.b fun t q ht => ?_
   refine ht e ?_
   rw [q, List.getElem?_append_right (by lia)] at he
   exact List.mem_of_getElem? he
  have a0 := made_air (z := c.sz) ok2 hfr he hx hi hz hlow
  refine x0_4 a0 fun air s2 fl hne => ?_; clear a0
  refine x2_7 (ok2.sim.cells i e _ he hx) fun oe vs h1 h2 h3 h4 h5 h6 h7 => ?_; refine h6.elim fun a0 h6 => ?_
  refine wpAny_size ?_
  unfold noteFrame
  simp only [hen]
  refine wpAny_bind (wpAny_field h1 h3 h5 ?_)
  rw [if_neg (by decide)]
  refine wpAny_entryW hfr fl hen h1 air.stay (hideAll_none _ (.head _)) h3 (Array.getElem?_eq_some_iff.mp h5).1 h6 fun h' hL hz' => ?_
  refine x0_4 hL fun k1 k2 k3 k4 => ?_; clear hL
  have lcut : Le (mutA env) c ⟨c2.G, c2.β.take σ.length, c2.s⟩ := l2.cut (by lia)
  exact k ⟨c2.G, c2.β.take σ.length, c2.s⟩ _ _ a0 h' _ lcut s2 hen (fun b hb => .tail _ hb) (air.step k1 k4 hz') ⟨k1, hideAll_none _ (.head _), k2, by rw [<- h2]; exact k3⟩
 | @held c2 H base h' l' a0 L l2 s2 hl hL hH air hh =>
  rw [hfr] at hl; cases hl
  exact wpAny_noteFrame_againW hL hh.2.2.2 (k c2 H base a0 h' L l2 s2 hL hH air hh)
inductive ForRI (t : Expr) (body : List Stmt) (B : Bs) (gl : Gl) (n : Nat) (env : Env) (σ : Sto) (I : Addr) (c1 : St) : Nat -> Shared -> Prop
 | mk {c2 : St} {ds : List D} {ρ1 : Loc} : Le (I :: mutA env) c1 c2 -> Sim B σ c2 -> Frm env gl ρ1 c2 -> Stores env ρ1 -> Priv I c2 -> ItAt I c2 ds -> ForR t body B gl n ds ρ1 σ -> ForRI t body B gl n env σ I c1 ds.length c2.s
theorem ExR.for_ {t iter : Expr} {body rest : List Stmt} {pos : Pos} {ds : List D} (hi : EvI iter ds B gl n ρ σ σ) (hf : ForR t body B gl n ds ρ σ) (hs : ∀ env x, foldedSetIterable iter env x = pure x := by intro _ _; rfl) :
  ExR (.For t iter body [] pos :: rest) B gl n ρ σ := by
 intro A env c al st ok fr E Q k
 refine wpAny_execs_cons (wpAny_For (hi A env c ok fr _ _ fun I c1 l1 s1 p1 hI it1 => ?_) (hs env))
 obtain ⟨⟨l, hfr⟩, htop⟩ := al.top
 have hIm : I ∉ mutA env := fun hm => absurd (fr.off I hm).2.2 (Nat.not_lt.mpr hI)
 refine codeAny_forLoop_any (ForRI t body B gl n env σ I c1) ?_ ds.length (.mk (.refl _ _) s1 (fr.step l1) st p1 it1 hf)
 rintro m _ @⟨c2, ds, ρ1, l2, s2, fr2, st2, p2, it2, hf⟩
 have up : ∀ {c3 : St} {M : List Addr}, (∀ a ∈ M, a ∈ I :: mutA env) -> Le M c2 c3 -> Le (I :: mutA env) c1 c3 := fun hM l => l2.trans (l.weaken hM)
 have out : ∀ {c3 : St}, Le (I :: mutA env) c1 c3 -> Le (mutA env) c c3 := fun l => ((l1.weaken fun Z h => nomatch h).trans l).weaken_new fun a ha => by
  rcases List.mem_cons.mp ha with rfl | ha
  ·exact .inr hI
  ·exact .inl ha
 have one : ∀ a ∈ [I], a ∈ I :: mutA env := fun a ha => by rw [List.mem_singleton.mp ha]; exact .head _
 cases hf with
 | @step d ds ρa ρb _ _ tg ex hf =>
  refine it_next p2 s2 it2 fun v c3 l3 s3 it3 r3 => it_go it3 ?_
  refine tg A env c3 v σ ok.hnd st2 s3 (fr2.mono l3 (al_ne (A := A) hIm)) r3 _ _ fun c4 l4 s4 fr4 st4 => ?_
  have l14 := (up one l3).trans (l4.weaken fun Z h => .tail I h)
  have ok4 : Ok B A n σ c4 := ok.frame al (out l14) s4 fr4.ns
  refine ex A env c4 al st4 ok4 fr4 _ _ fun f c5 l5 s5 fr5 => ?_
  obtain ⟨rfl, fr5, st5⟩ := fr5
  have l15 := l14.trans (l5.weaken fun Z h => .tail I h)
  exact ⟨ds.length, Nat.lt_succ_self _, .mk l15 s5 fr5 st5 (((p2.le l3).le l4).le l5) ((it3.le (p2.le l3) l4 hIm).le ((p2.le l3).le l4) l5 hIm) hf⟩
 | @here d ds _ ρa _ tg ex =>
  refine it_next p2 s2 it2 fun v c3 l3 s3 it3 r3 => it_go it3 ?_
  refine tg A env c3 v σ ok.hnd st2 s3 (fr2.mono l3 (al_ne (A := A) hIm)) r3 _ _ fun c4 l4 s4 fr4 st4 => ?_
  have l14 := (up one l3).trans (l4.weaken fun Z h => .tail I h)
  have ok4 : Ok B A n σ c4 := ok.frame al (out l14) s4 fr4.ns
  refine ex A env c4 al st4 ok4 fr4 _ _ fun e s' rs => ?_
  refine raised_noted hfr s4.low_at s4.len htop rs fun c5 H base a0 h5 L l5 s5 hL hH air hh => ?_
  refine cameBack_held hL hh fun h6 hh6 hu hz => ?_
  exact k e _ (.held (h' := h6) ((out l14).trans l5) s5 hfr hL hH ((air.step hh6.1 hu hz).weaken (out l14).size) hh6)
end
end
section
section
variable {B : Bs} {gl : Gl} {n : Nat} {ρ ρ1 ρ2 ρ' : Loc} {σ τ σ' σ1 σ2 σ3 : Sto} {fl : Fl}
noncomputable def Flies (B : Bs) (A : Around) (σ : Sto) (c : St) (e : Addr) (s : Shared) : Prop :=
 ∃ l c2 H base a0 h', A.frames = some l /\ Le [] c c2 /\ Sim B σ c2 /\ (∀ b ∈ fsOf l, b ∈ H) /\ Air c.sz H c2 base h' /\ Heap.FlyingW base l e (.ref 56) a0 h' /\ s = { c2.s with heap := h' }
theorem Flies.mono {A : Around} {c0 c : St} {e : Addr} {s : Shared} (l : Le [] c0 c) (x : Flies B A σ c e s) : Flies B A σ c0 e s := by
 refine x6_7 x fun f c2 H base a0 h' h1 h2 h3 h4 h5 h6 h7 => ?_; clear x
 exact ⟨f, c2, H, base, a0, h', h1, l.trans h2, h3, h4, h5.weaken l.size, h6, h7⟩
noncomputable def EvX (e : Expr) (B : Bs) (gl : Gl) (n : Nat) (ρ : Loc) (σ σ' : Sto) : Prop :=
 ∀ (A : Around) (env : Env) (c : St), Ok B A n σ c -> Frm env gl ρ c -> ∀ (E Q : Want Value), (∀ e s, Flies B A σ' c e s -> E (.ref e) s) -> wpAny (model PG B.w) A (eval e env) Q E c.s
theorem callX_any {f : Addr} {args : List D} {A : Around} {c : St} {vs : List Value} {E Q : Want Value} (h : CallX f args B n σ) (ok : Ok B A n σ c) (r : RepAll c.G c.β vs args) (k : ∀ e s, Flies B A σ c e s -> E (.ref e) s) :
  wpAny (model PG B.w) A (call (.ref f) vs []) Q E c.s :=
 wpAny_call (h A c vs ok r _ fun l e c2 H base a0 h' h1 h2 h3 h4 h5 h6 => k e _ ⟨l, c2, H, base, a0, h', h1, h2, h3, h4, h5, h6, rfl⟩)
theorem EvX.call {func : Expr} {args : List Expr} {pos : Pos} {f : Addr} {ds : List D} (hf : Ev func (.raw (.ref f)) B gl n ρ σ σ) (hk : Keeps' (.ref f) B) (ha : Evs args ds B gl n ρ σ σ1) (hc : CallX f ds B n σ1)
  (he : ∀ env, eval (.Call func args [] pos) env = (do callWith pos (<- eval func env) [] (backTo pos (starEach args env)) []) := by intro _; rfl) (hst : ∀ env, (backTo pos (starEach args env)).any (fun x => x.1) = false := by intro _; rfl) :
  EvX (.Call func args [] pos) B gl n ρ σ σ1 := by
 intro A env c ok fr E Q k
 rw [he]
 refine wpAny_bind (hf A env c ok fr _ _ fun v c1 l1 s1 r1 => ?_)
 cases r1
 refine x1_1 hk fun kp hkp => ?_; clear hk
 refine callWith_any (hst env) (ha A env c1 pos (ok.step l1 s1) (fr.step l1) _ _ fun vs c2 l2 s2 r2 => ⟨kp, hkp _ _ _ s2.top, ?_⟩)
 exact callX_any hc (ok.step (l1.trans l2) s2) r2 fun e s x => k e s (x.mono (l1.trans l2))
theorem EvX.meth {o : Expr} {name : Str} {args : List Expr} {apos pos : Pos} {a : D} {f : Addr} {ds : List D} (ho : Ev o a B gl n ρ σ σ1) (hm : Meth a name (.ref f) B σ1) (hk : Keeps' (.ref f) B) (ha : Evs args ds B gl n ρ σ1 σ2) (hc : CallX f (a :: ds) B n σ2)
  (he : ∀ env, attributeBase o name env (eval o env) = eval o env := by intro _; rfl) (hst : ∀ env, (backTo pos (starEach args env)).any (fun x => x.1) = false := by intro _; rfl)
  (hfew : ∀ env, methodCallForm (args.length + 0) (backTo pos (starEach args env)) [] = true := by intro _; rfl) (hpos : (apos.endLine == pos.line) = true := by decide) :
  EvX (.Call (.Attribute o name apos) args [] pos) B gl n ρ σ σ2 := by
 intro A env c ok fr E Q k
 show wpAny _ A (do
  let ov <- attributeBase o name env (eval o env)
  standAt apos.atName
  methodCall o name apos pos env ov (args.length + 0) (backTo pos (starEach args env)) []) Q E c.s
 rw [he]
 refine wpAny_bind (ho A env c ok fr _ _ fun u c1 l1 s1 r1 => wpAny_bind (wpAny_standAt ?_))
 unfold methodCall
 rw [hfew]
 show wpAny _ A (holding [u] (calleeOf true o env u name) >>= _) Q E _
 refine wpAny_bind (wpAny_holding ?_)
 unfold calleeOf
 rw [if_pos rfl]
 refine hm A c1 u n (ok.step l1 s1) r1 _ _ _ ?_
 show wpAny _ A (methodCallPos true o env apos pos >>= _) Q E _
 unfold methodCallPos
 rw [if_pos (by simp [hpos])]
 refine wpAny_bind (wpAny_pure ?_)
 refine x1_1 hk fun kp hkp => ?_; clear hk
 refine callWith_any (hst env) (ha A env c1 pos (ok.step l1 s1) (fr.step l1) _ _ fun vs c2 l2 s2 r2 => ⟨kp, hkp _ _ _ s2.top, ?_⟩)
 exact callX_any hc (ok.step (l1.trans l2) s2) (.cons (l2.rep r1) r2) fun e s x => k e s (x.mono (l1.trans l2))
noncomputable def StR (s : Stmt) (B : Bs) (gl : Gl) (n : Nat) (ρ : Loc) (σ σ' : Sto) : Prop :=
 ∀ (A : Around) (env : Env) (c : St), Stores env ρ -> Ok B A n σ c -> Frm env gl ρ c -> ∀ (E : Want Value) (Q : Want Flow), (∀ e s, Flies B A σ' c e s -> E (.ref e) s) -> wpAny (model PG B.w) A (exec s env) Q E c.s
theorem StR.expr {e : Expr} {pos : Pos} (h : EvX e B gl n ρ σ σ') (hs : ∀ env, swapsWith e none pos.line env = pure false := by intro _; rfl) : StR (.Expr e pos) B gl n ρ σ σ' := by
 intro A env c st ok fr E Q k
 exact wpAny_Expr_any (h A env c ok fr _ _ k) (not_interactive fr.fn) (hs env)
theorem StR.assign {x : Str} {p pos : Pos} {value : Expr} (h : EvX value B gl n ρ σ σ') (hs : ∀ env, swapsWith value (some (.Name x p)) pos.line env = pure false := by intro _; rfl) :
  StR (.Assign [.Name x p] value pos) B gl n ρ σ σ' := by
 intro A env c st ok fr E Q k
 exact wpAny_Assign_Name (h A env c ok fr _ _ k) (hs env)
noncomputable def Su (ss : List Stmt) (fl : Fl) (B : Bs) (gl : Gl) (ρ ρ' : Loc) (σ : Sto) : Prop :=
 ∀ (A : Around) (env : Env) (c : St), Stores env ρ -> Sim B σ c -> Frm env gl ρ c -> ∀ (E : Want Value) (Q : Want Flow), (∀ f c', Le (mutA env) c c' -> Sim B σ c' -> FlowRel env gl ρ' c' f fl -> Q f c'.s) -> wpAny (model PG B.w) A (execs ss env) Q E c.s
theorem Su.bool {x : Str} {p cp pos : Pos} {k : Nat} {b : Bool} (up : VarUp ρ x (.bool b) ρ') : Su [.Assign [.Name x p] (.Constant (.bool b) k cp) pos] .next B gl ρ ρ' σ := by
 intro A env c st s fr E Q kq
 refine wpAny_execs_cons (wpAny_Assign_Name (wpAny_Constant_bool ?_) rfl)
 exact store_ok fr s st up (.bool b) fun c2 l2 s2 fr2 => wpAny_execs_nil (kq _ c2 l2 s2 ⟨rfl, fr2, st.up up⟩)
theorem Su.none {x : Str} {p cp pos : Pos} {k : Nat} (up : VarUp ρ x .none ρ') : Su [.Assign [.Name x p] (.Constant .none k cp) pos] .next B gl ρ ρ' σ := by
 intro A env c st s fr E Q kq
 refine wpAny_execs_cons (wpAny_Assign_Name (wpAny_Constant_none ?_) rfl)
 exact store_ok fr s st up .none fun c2 l2 s2 fr2 => wpAny_execs_nil (kq _ c2 l2 s2 ⟨rfl, fr2, st.up up⟩)
theorem Su.retBool {cp pos : Pos} {k : Nat} {b : Bool} : Su [.Return (some (.Constant (.bool b) k cp)) pos] (.ret (.bool b)) B gl ρ ρ σ := by
 intro A env c st s fr E Q kq
 exact wpAny_execs_cons (wpAny_Return_some (wpAny_Constant_bool (kq _ c (.refl _ _) s ⟨_, rfl, .bool b⟩)))
theorem StX.tryX {b0 h0 : Stmt} {hs : List Stmt} {np hp pos : Pos} (h : StR b0 B gl n ρ σ σ') (hs' : Su (h0 :: hs) fl B gl ρ ρ' σ') (hm : gl.lookup (Str.ofString "TrieFault") = some .globalImplicit := by rfl) :
  StX (.Try [b0] [.ExceptHandler (some (.Name (Str.ofString "TrieFault") np)) .none (h0 :: hs) hp] [] [] pos) fl B gl n ρ ρ' σ σ' := by
 intro A env c al st ok fr E Q k
 obtain ⟨⟨l0, hfr⟩, htop⟩ := al.top
 refine wpAny_Try_except (wpAny_execs_cons (h A env c st ok fr _ _ fun e s x => ?_))
 refine x6_7 x fun l c2 H base a0 h' h1 l2 s2 h4 air hfl Q => ?_; clear x; subst Q
 rw [hfr] at h1; cases h1
 refine wpAny_size (wpAny_looks_onW hfr htop hfl fun h3 held u3 z3 => ?_)
 refine wpAny_size (wpAny_landsW held fun h5 hfl5 u5 z5 => ?_)
 have air5 := (air.step held.1 u3 z3).step hfl5.1 u5 z5
 have t5 := air5.sim s2
 have l5 := air5.le (Nat.le_refl _) l2
 have fr5 := fr.step l5
 refine wpAny_handleBy_cons (codeAny_handlers_test ?_) (by intro q; cases q)
 have top := t5.top
 have hx : env.kindOf (Str.ofString "TrieFault") = some .globalImplicit := by show env.scope.names.lookup _ = _; rw [fr.gls]; exact hm
 have g : Glb B.w (Str.ofString "TrieFault") (.ref 56) := glb_top 14 rfl
 have e14 : nsIn (KK B.w) mainGlobals (Str.ofString "TrieFault") = some (some (.ref 56)) := by rfl
 refine Name_function_global fr.fn hx (loadGlobal_global (s := { c2.s with heap := h5 }) (by rw [fr.glb]; exact B.g.keeps top) (mg_of B.X B.g e14) ?_) (by decide)
 refine cls56 B.w fun nm q N bs hdct sn sub' ab col dd k0 k1 k2 k3 k5 hC0 => ?_
 have hC := t5.K _ _ hC0
 refine x1_2 hfl5.there fun oe he hcls => ?_
 refine wpAny_excMatches_sub_self (h := h5) hC he hcls (by decide) ?_
 refine codeAny_handlers_suite ?_
 refine wpAny_size (lands_againW (s := { c2.s with heap := h5 }) hfl5 fun h6 hfl6 u6 z6 => ?_)
 have air6 := air5.step hfl6.1 u6 z6
 have t6 := air6.sim s2
 have l6 := air6.le (Nat.le_refl _) l2
 refine hs' _ env _ st t6 (fr.step l6) _ _ fun f c7 l7 s7 r7 => ?_
 exact k f c7 ((le_mut l6).trans l7) s7 r7
theorem StX.tryOk {b0 h0 : Stmt} {hs : List ExceptHandler} {eh : ExceptHandler} {pos : Pos} (h : St1 b0 B gl n ρ ρ' σ σ') :
  StX (.Try [b0] (eh :: hs) [] [] pos) .next B gl n ρ ρ' σ σ' := by
 intro A env c al st ok fr E Q k
 refine wpAny_Try_except (wpAny_execs_cons (h A env c al st ok fr _ _ fun c1 l1 s1 fr1 st1 => wpAny_execs_nil (wpAny_execs_nil (k _ c1 l1 s1 ⟨rfl, fr1, st1⟩))))
end
end
section
section
variable {B : Bs} {gl : Gl} {n : Nat} {ρ : Loc} {σ : Sto} {t i : Nat} {a : Nd}
theorem ExR.tf {x : Str} {p q r pos : Pos} {kk : Nat} {rest : List Stmt} (hm : gl.lookup (Str.ofString "TrieFault") = some .globalImplicit := by rfl) :
  ExR (.Raise (some (.Call (.Name (Str.ofString "TrieFault") p) [.Constant (.str x) kk q] [] r)) none pos :: rest) B gl (n + 2) ρ σ :=
 ExR.raise (Ev.call (Ev.g g_TrieFault hm) Keeps'.tf (.cons .cstr .nil) CallV.tf)
theorem trie_put_x {key v : List UInt8} (hz : 32 < key.length) (hl : key.length <= 1000) : CallX 238 [.inst 255 t, .bytes key, .bytes v] B (n + 3) σ := by
 refine' CallX.at (fn_trie_put _) (ExR.ifT (EvT.eq (EvT.cmp (Ev.call (Ev.g g_len) .builtin (.cons Ev.name .nil) (CallV.lenY (b := key) (by lia))) (Ev.g g_LONGEST_KEY) .gt) ?_) ExR.tf)
 exact decide_eq_true (by lia)
theorem unpacked_x {b : List UInt8} (hz : b.length <= 30000) (hr : readN b = none) : CallX 86 [.bytes b] B (n + 3) σ := by
 have hnb := nibbles_pth (B := B) (n := n + 1) (σ := σ) (b := b) (by lia)
 cases b with
 | nil =>
  exact CallX.at (fn_unpacked _) (ExR.seq (St1.assign (Ev.call (Ev.g g_nibbles_of) (Keeps'.fn rfl) (.cons Ev.name .nil) (Call.v hnb)) (by walk_at "v"))
   (ExR.ifT (EvT.eq (EvT.or (x := true) (y := true) (EvT.eq (EvT.not (EvT.val Ev.name (Truth.pth (p := nibN []) (by decide)))) rfl) (fun h => nomatch h) (fun Z => rfl)) rfl) ExR.tf))
 | cons x r =>
  have hnl : (nibN (x :: r)).length <= 100000 := by rw [nibN_length]; lia
  by_cases h3 : 3 < (hiN x).val
  ·exact CallX.at (fn_unpacked _) (ExR.seq (St1.assign (Ev.call (Ev.g g_nibbles_of) (Keeps'.fn rfl) (.cons Ev.name .nil) (Call.v hnb)) (by walk_at "v"))
    (ExR.ifT (EvT.eq (EvT.or (x := false) (y := true) (EvT.eq (EvT.not (EvT.val Ev.name (Truth.pth (p := nibN (x :: r)) (by lia)))) rfl) (fun Z => EvT.eq (EvT.cmp (Ev.sub Ev.name .cint (.pth (p := nibN (x :: r)) (i := 0) (x := hiN x) (by decide) rfl (by lia))) (Ev.bin (Ev.g g_LEAF) (Ev.g g_ODD) .add) .gt) (decide_eq_true (by lia))) (fun Z => rfl)) rfl) ExR.tf))
  ·rw [readN, if_neg h3] at hr
   have hfm : Int.fmod ((hiN x).val : Int) 2 = (((hiN x).val % 2 : Nat) : Int) := by rw [Int.fmod_eq_emod_of_nonneg _ (by decide)]; lia
   have hgt : decide ((2 : Int) <= ((hiN x).val : Int)) = decide (1 < (hiN x).val) := by rw [decide_eq_decide]; lia
   by_cases ho : (hiN x).val % 2 = 1
   ·rw [if_pos ho] at hr; cases hr
   ·rw [if_neg ho] at hr
    by_cases h0 : (loN x).val = 0
    ·rw [if_pos h0] at hr; cases hr
    ·exact CallX.at (fn_unpacked _) (ExR.seq (St1.assign (Ev.call (Ev.g g_nibbles_of) (Keeps'.fn rfl) (.cons Ev.name .nil) (Call.v hnb)) (by walk_at "v"))
      (ExR.ifF (EvT.eq (EvT.or (x := false) (y := false) (EvT.eq (EvT.not (EvT.val Ev.name (Truth.pth (p := nibN (x :: r)) (by lia)))) rfl) (fun Z => EvT.eq (EvT.cmp (Ev.sub Ev.name .cint (.pth (p := nibN (x :: r)) (i := 0) (x := hiN x) (by decide) rfl (by lia))) (Ev.bin (Ev.g g_LEAF) (Ev.g g_ODD) .add) .gt) (decide_eq_false (by lia))) (fun Z => rfl)) rfl)
      (ExR.seq (St1.assign (d := .bool (decide (1 < (hiN x).val))) (Ev.eq (Ev.cmp (Ev.sub Ev.name .cint (.pth (p := nibN (x :: r)) (i := 0) (x := hiN x) (by decide) rfl (by lia))) (Ev.g g_LEAF) .ge) (by rw [hgt])) (by walk_at "v"))
      (ExR.ifF (EvT.eq (EvT.cmp (Ev.bin (Ev.sub Ev.name .cint (.pth (p := nibN (x :: r)) (i := 0) (x := hiN x) (by decide) rfl (by lia))) .cint (.mod (by decide))) (Ev.g g_ODD) .eqI) (by rw [hfm]; exact beq_false_of_ne (by lia)))
      (ExR.ifT (EvT.eq (EvT.cmp (Ev.sub Ev.name .cint (.pth (p := nibN (x :: r)) (i := 1) (x := loN x) (by decide) rfl (by lia))) .cint .neI) (by rw [bne_iff_ne]; lia)) ExR.tf)))))
theorem packed_xloop {leaf : Option D} {q : D} {y : Int} (hy : y < 0 \/ 15 < y) : ∀ (r s : List Int) (o : Option D), (∀ x ∈ r, 0 <= x /\ x <= 15) ->
  ForR (loopTgt (sAt 0 (bodyIn (KK B.w) 79))) (loopBody (sAt 0 (bodyIn (KK B.w) 79))) B gl_packed (n + 2) ((r ++ y :: s).map D.int) (pkLoc q leaf o none none none none none) σ := by
 intro r s
 induction r with
 | nil =>
  intro o _
  refine .here (Tgt.name (by walk_at "v")) (ExR.ifT (EvT.eq (EvT.or (y := decide ((15 : Int) < y)) (EvT.cmp Ev.name .cint .lt) (fun Z => EvT.cmp Ev.name .cint .gt) (fun Z => rfl)) ?_) ExR.tf)
  simp; lia
 | cons x r ih =>
  intro o h
  have hl := ih (some (.int x)) fun y hy => h y (.tail _ hy)
  have hx := h x (.head _)
  refine .step (Tgt.name (by walk_at "v")) (Ex.ifF (EvT.eq (EvT.or (y := decide ((15 : Int) < x)) (EvT.cmp Ev.name .cint .lt) (fun Z => EvT.cmp Ev.name .cint .gt) (fun Z => rfl)) ?_) .nil) hl
  simp; lia
theorem packed_x {r s : List Int} {y : Int} {leaf : Bool} (hy : y < 0 \/ 15 < y) (hr : ∀ x ∈ r, 0 <= x /\ x <= 15) : CallX 79 [pathI (r ++ y :: s), .bool leaf] B (n + 3) σ :=
 CallX.at (fn_packed _) (ExR.for_ (EvI.val Ev.name .path) (packed_xloop hy r s none hr))
end
end
section
theorem u8_map_inj {l m : List UInt8} (h : l.map (fun c => ((c.toNat : Nat) : Int)) = m.map (fun c => ((c.toNat : Nat) : Int))) : l = m := by
 refine List.map_inj_right (fun x y e => ?_) |>.mp h
 exact UInt8.toNat_inj.mp (Int.ofNat.inj e)
theorem leB_ints {k : Nat} {x : Int} (h0 : 0 <= x) (h1 : x < 256 ^ k) : (leB k x).map (fun c => ((c.toNat : Nat) : Int)) = KTBy.little k x := by
 rw [KTBy.little_eq]; exact KTBy.low_ints h0 h1
theorem little_inj : ∀ {k : Nat} {x y : Int}, 0 <= x -> x < 256 ^ k -> 0 <= y -> y < 256 ^ k -> KTBy.little k x = KTBy.little k y -> x = y
 | 0, x, y, h0, h1, h2, h3, _ => by rw [Int.pow_zero] at h1 h3; lia
 | k + 1, x, y, h0, h1, h2, h3, e => by
  rw [Int.pow_succ] at h1 h3
  rw [KTBy.little, KTBy.little] at e
  injection e with e1 e2
  have := little_inj (k := k) (x := x / 256) (y := y / 256) (by lia) (by lia) (by lia) (by lia) e2
  lia
theorem leB_inj {k : Nat} {x y : Int} (h0 : 0 <= x) (h1 : x < 256 ^ k) (h2 : 0 <= y) (h3 : y < 256 ^ k) (e : leB k x = leB k y) : x = y :=
 little_inj h0 h1 h2 h3 (by rw [<- leB_ints h0 h1, <- leB_ints h2 h3, e])
theorem bits_ge {k m : Nat} (h : 2 ^ m <= k) : m + 1 <= Builtin.Int.intBits (k : Int) := by
 refine Nat.lt_of_not_le fun hle => ?_
 have := intBits_le_iff.mp hle
 rw [Int.natAbs_natCast] at this
 lia
theorem beN_one {k : Nat} (h0 : 1 <= k) (h1 : k < 256) : beN k = [k.toUInt8] := by
 have hb := bits_lo (m := 8) (k := k) (by omega)
 have hb2 := bits_ge (m := 0) (k := k) (by omega)
 unfold beN
 rw [show (Builtin.Int.intBits (k : Int) + 7) / 8 = 1 by lia]
 have e : leB 1 (k : Int) = [k.toUInt8] := by
  refine u8_map_inj ?_
  rw [leB_ints (by lia) (by rw [Int.pow_one]; lia)]
  simp [KTBy.little]
 rw [e]; rfl
theorem beN_two {k : Nat} (h0 : 256 <= k) (h1 : k < 65536) : beN k = [(k / 256).toUInt8, (k % 256).toUInt8] := by
 have hb := bits_lo (m := 16) (k := k) (by omega)
 have hb2 := bits_ge (m := 8) (k := k) (by omega)
 unfold beN
 rw [show (Builtin.Int.intBits (k : Int) + 7) / 8 = 2 by lia]
 have e : leB 2 (k : Int) = [(k % 256).toUInt8, (k / 256).toUInt8] := by
  refine u8_map_inj ?_
  rw [leB_ints (by lia) (by lia)]
  simp [KTBy.little]
 rw [e]; rfl
section
variable {B : Bs} {n : Nat} {σ : Sto}
noncomputable abbrev wrLoc (it : D) (low body size told : Option D) : Loc := [(Str.ofString "item", some it), (Str.ofString "low", low), (Str.ofString "body", body), (Str.ofString "size", size), (Str.ofString "told_now", told)]
noncomputable def toldI (k : Nat) : List Int := if k < 256 then [(k : Int)] else [(k : Int) / 256, (k : Int) % 256]
theorem told_beN {k : Nat} (h0 : 1 <= k) (h1 : k < 65536) : (toldI k).map (fun x => x.toNat.toUInt8) = beN k := by
 unfold toldI
 split
 ·rw [beN_one h0 (by lia)]; simp
 ·rw [beN_two (by lia) h1]
  have e1 : ((k : Int) / 256).toNat = k / 256 := by lia
  have e2 : ((k : Int) % 256).toNat = k % 256 := by lia
  simp only [List.map_cons, List.map_nil, e1, e2]
theorem told_in {k : Nat} (h1 : k < 65536) : ∀ x ∈ toldI k, 0 <= x /\ x < 256 := by
 unfold toldI
 intro x hx
 split at hx
 ·rw [List.mem_singleton] at hx; lia
 ·rcases List.mem_cons.mp hx with rfl | hx
  ·lia
  ·rw [List.mem_singleton] at hx; lia
theorem told_len (k : Nat) : (toldI k).length <= 2 := by unfold toldI; split <;> simp
theorem wr_tail {it : D} {low : Nat} {L : Int} {b : List UInt8} (hL : L = (low : Int)) (hl : low <= 192) (hb : b.length < 65536) :
  Rt ((bodyIn (KK B.w) 345).drop 2) (.bytes (headI low b.length ++ b)) B gl_law_written (n + 1) (wrLoc it (some (.int L)) (some (.bytes b)) none none) σ σ := by
 subst hL
 refine Rt.seq (St1.assign (Ev.call (Ev.g g_len) .builtin (.cons Ev.name .nil) (CallV.lenY (b := b) (by lia))) (by walk_at "v")) ?_
 by_cases h : b.length <= 55
 ·refine Rt.ifT (EvT.eq (EvT.cmp Ev.name .cint .lt) (decide_eq_true (by lia))) (Rt.ret (Ev.eq (Ev.bin (Ev.call (Ev.g g_bytes) .type (.cons (Ev.eq (d' := .lst ([((low : Nat) : Int) + (b.length : Int)].map D.int)) (Ev.list (.cons (Ev.bin Ev.name Ev.name .add) .nil)) rfl) .nil) (CallV.bytL (ks := [((low : Nat) : Int) + (b.length : Int)]) ?_ (by simp))) Ev.name (.addY ?_)) ?_))
  ·intro k hk; rw [List.mem_singleton] at hk; lia
  ·simp; lia
  ·unfold headI
   rw [if_pos h]
   rfl
 ·have hd : b.length < 256 \/ 256 <= b.length := by lia
  have hlen := told_len b.length
  have hin := told_in hb
  refine Rt.ifF (EvT.eq (EvT.cmp Ev.name .cint .lt) (decide_eq_false (by lia))) (Rt.seq (St1.assign (d := .lst ((toldI b.length).map D.int)) (Ev.ifexp (x := decide (b.length < 256)) (EvT.eq (EvT.cmp Ev.name .cint .lt) ?_)
   (fun e => Ev.eq (Ev.list (.cons Ev.name .nil)) ?_) (fun e => Ev.eq (Ev.list (.cons (Ev.bin Ev.name .cint (.floordiv (by decide) (no_pylong8 (by decide)))) (.cons (Ev.bin Ev.name .cint (.mod (by decide))) .nil))) ?_)) (by walk_at "v"))
   (Rt.ret (Ev.eq (Ev.bin (Ev.call (Ev.g g_bytes) .type (.cons (Ev.eq (d' := .lst (((((low : Nat) : Int) + 55 + ((toldI b.length).length : Int)) :: toldI b.length).map D.int)) (Ev.bin (Ev.list (.cons (Ev.bin (Ev.bin Ev.name .cint .add) (Ev.call (Ev.g g_len) .builtin (.cons Ev.name .nil) (CallV.lenL (by rw [List.length_map]; lia))) .add) .nil)) Ev.name (.addL ?_)) ?_) .nil) (CallV.bytL (ks := (((low : Nat) : Int) + 55 + ((toldI b.length).length : Int)) :: toldI b.length) ?_ ?_)) Ev.name (.addY ?_)) ?_)))
  ·rw [decide_eq_decide]; lia
  ·rw [toldI, if_pos (of_decide_eq_true e)]; rfl
  ·rw [toldI, if_neg (of_decide_eq_false e), Int.fdiv_eq_ediv_of_nonneg _ (by decide), Int.fmod_eq_emod_of_nonneg _ (by decide)]; rfl
  ·rw [List.length_map]; simp; lia
  ·rw [List.length_map]; rfl
  ·intro k hk
   rcases List.mem_cons.mp hk with rfl | hk
   ·lia
   ·exact hin k hk
  ·rw [List.length_cons]; lia
  ·rw [List.length_map, List.length_cons]; lia
  ·unfold headI
   rw [if_neg h, List.map_cons, told_beN (by lia) hb]
   have e : (toldI b.length).length = (beN b.length).length := by rw [<- told_beN (by lia) hb, List.length_map]
   rw [e]
   rfl
end
end
section
set_option maxHeartbeats 2000000
noncomputable abbrev wrC (w : World) : Expr := arg0 (arg1 (valOf (sAt 0 (loopBody (sAt 1 (bodyIn (KK w) 345))))))
theorem encIs_flat : ∀ xs : List It, (xs.map encI).flatten = encIs xs
 | [] => by rw [encIs_0]; rfl
 | x :: xs => by rw [encIs_c, List.map_cons, List.flatten_cons, encIs_flat xs]
section
variable {B : Bs} {σ : Sto}
mutual
theorem written_ok : ∀ (it : It) {n : Nat}, (encI it).length <= 60000 -> it.deep + 3 <= n -> Call 345 [itD it] (.bytes (encI it)) B n σ σ
 | _, 0, _, h => by lia
 | .b x, n + 1, hz, hd => by
  refine x1_1 (⟨n - 1, by lia⟩ : ∃ k, n = k + 1) fun n Q => ?_; subst Q
  rw [itDx_b]
  have hx : x.length <= 60000 := by
   rw [encI_b] at hz
   split at hz
   ·exact hz
   ·rw [List.length_append] at hz; lia
  refine Call.rt (fn_law_written _) (Rt.seq (St1.unpack (ds := [.int 128, .bytes x]) (Ev.tuple (.cons .cint (.cons Ev.name .nil))) (by walk_at "v") (hw := fun env hk => swapped_or rfl (by decide) env hk))
   (Rt.ifF (EvT.val (Ev.call (Ev.g g_isinstance) .builtin (.cons Ev.name (.cons (Ev.g g_list) .nil)) .isListY) .bool) ?_)) rfl
  rw [encI_b]
  by_cases h : x.length = 1 /\ (x.getD 0 0).toNat < 128
  ·rw [if_pos h]
   refine Rt.ifT (EvT.eq (EvT.and (y := decide (((x.getD 0 0).toNat : Int) < 128)) (EvT.cmp (Ev.call (Ev.g g_len) .builtin (.cons Ev.name .nil) (CallV.lenY (by lia))) .cint .eqI) (fun e => EvT.cmp (Ev.sub Ev.name .cint (.byt (by decide) (by simp at e; lia) (by lia))) .cint .lt) (fun Z => rfl)) ?_) (Rt.ret Ev.name)
   rw [h.1]
   simp
   exact_mod_cast h.2
  ·rw [if_neg h]
   refine Rt.ifF (EvT.eq (EvT.and (y := decide (((x.getD 0 0).toNat : Int) < 128)) (EvT.cmp (Ev.call (Ev.g g_len) .builtin (.cons Ev.name .nil) (CallV.lenY (by lia))) .cint .eqI) (fun e => EvT.cmp (Ev.sub Ev.name .cint (.byt (by decide) (by simp at e; lia) (by lia))) .cint .lt) (fun Z => rfl)) ?_) (wr_tail (it := .bytes x) (n := n) (low := 128) (L := 128) rfl (by decide) (by lia))
   rw [Bool.and_eq_false_iff]
   by_cases h1 : x.length = 1
   ·right; exact decide_eq_false (by lia)
   ·left; exact beq_false_of_ne (by lia)
 | .l xs, n + 1, hz, hd => by
  rw [deep_l] at hd
  refine x1_1 (⟨n - 1, by lia⟩ : ∃ k, n = k + 1) fun n Q => ?_; subst Q
  have hl := @encI_len_l xs
  have hc := written_comp xs (n := n + 1) none (by lia) (by lia)
  rw [itDx_l, encI_l]
  have hn : (itDs xs).length <= 1000000 := by
   rw [itDs_length]
   have : ∀ xs : List It, xs.length <= (encIs xs).length := by
    intro xs
    induction xs with
    | nil => simp
    | cons x xs ih =>
     rw [encIs_cons_len, List.length_cons]
     have : 1 <= (encI x).length := by
      cases x with
      | b y =>
       rw [encI_b]
       split
       ·lia
       ·rw [List.length_append]; have := @headI_ge 128 y.length; lia
      | l ys => rw [encI_l, List.length_append]; have := @headI_ge 192 (encIs ys).length; lia
     lia
   have := this xs
   lia
  have hj := CallV.join (B := B) (n := n + 1) (σ := σ) (bs := xs.map encI) (by rw [encIs_flat]; lia)
  rw [encIs_flat] at hj
  refine Call.rt (fn_law_written _) (Rt.seq (St1.unpack (ds := [.int 128, .lst (itDs xs)]) (Ev.tuple (.cons .cint (.cons Ev.name .nil))) (by walk_at "v") (hw := fun env hk => swapped_or rfl (by decide) env hk))
   (Rt.ifT (EvT.val (Ev.call (Ev.g g_isinstance) .builtin (.cons Ev.name (.cons (Ev.g g_list) .nil)) .isList) .bool)
   (Rt.seq (St1.unpack (ds := [.int 192, .bytes (encIs xs)]) (Ev.tuple (.cons .cint (.cons (Ev.meth (a := .bytes []) .cbytes Meth.join .builtin (.cons (Ev.comp (σ1 := σ) (σ' := σ) (es := (xs.map encI).map D.bytes) (tgts := [Str.ofString "each"]) (caps := []) (.of (capN := []) rfl (by decide) (Clos.none rfl)) (EvI.val Ev.name .lst) .nil hc hn) .nil) hj) .nil))) (by walk_at "v") (hw := fun env hk => swapped_or rfl (by decide) env hk))
   (wr_tail (it := .lst (itDs xs)) (n := n) (low := 192) (L := 192) rfl (by decide) (by lia))))) rfl
theorem written_comp : ∀ (xs : List It) {n : Nat} (o : Option D), (encIs xs).length <= 60000 -> deeps xs + 3 <= n -> CompE (wrC B.w) B gl_law_written n (itDs xs) ((xs.map encI).map D.bytes) [(Str.ofString "each", o)] σ σ
 | [], _, _, _, _ => by rw [itDs_0]; exact .nil
 | x :: xs, n, o, hz, hd => by
  rw [encIs_cons_len] at hz
  rw [deeps_c] at hd
  rw [itDs_c]
  exact .keep (σ1 := σ) (TgtL.name (by walk_at "v")) .nil (Ev.call (Ev.g g_law_written) (Keeps'.fn rfl) (.cons Ev.name .nil) (Call.v (written_ok x (n := n) (by lia) (by lia)))) (written_comp xs (some (itD x)) (by lia) (by lia))
end
end
end
section
noncomputable abbrev fmC (w : World) : Expr := arg0 (valOf (sAt 0 (loopBody (sAt 1 (bodyIn (KK w) 350)))))
section
variable {B : Bs} {n : Nat} {σ : Sto} {i j : Nat} {ks : Bk}
theorem below_ok {a : Nd} {k : Nat} (hd : DigAt σ i j ks) (hf : fit a k) (hk : k <= 1000) (hz : ks.length + cntN a <= 80000) (h : Call 350 [nodeD a, .inst 290 i] (itD (formS a ks).1) B (n + 50) σ (putK σ j (formS a ks).2)) :
  Call 357 [nodeD a, .inst 290 i] (itD (itemS a ks).1) B (n + 51) σ (putK σ j (itemS a ks).2) := by
 have hm : findIn (KK B.w) (.ref 290) "of" = some (some (.ref 287)) := by kernel_rfl
 have ht : typeIn (KK B.w) (.ref 287) = some (.type "function") := by kernel_rfl
 refine x0_2 (formS_len hf hk ks) fun h1 h2 => ?_
 have hm1 := (formS_more a ks).1
 have hd2 := hd.set (ks' := (formS a ks).2)
 have henc := written_ok (B := B) (n := n + 50) (σ := putK σ j (formS a ks).2) (formS a ks).1 (by lia) (by lia)
 by_cases hl : (encI (formS a ks).1).length < 32
 ·have e : itemS a ks = formS a ks := by rw [itemS, itemOf, if_pos hl]
  rw [e]
  refine' Call.set0 (fn_law_below _) (Ex.seq (St1.assign (Ev.call (Ev.g g_law_form) (Keeps'.fn rfl) (.cons Ev.name (.cons Ev.name .nil)) (Call.v h)) (by walk_at "v"))
   (Ex.seq (St1.assign (Ev.call (Ev.g g_law_written) (Keeps'.fn rfl) (.cons Ev.name .nil) (Call.v henc)) (by walk_at "v"))
   (Ex.ret (Ev.ifexp (d := itD (formS a ks).1) (x := true) (EvT.eq (EvT.cmp (Ev.call (Ev.g g_len) .builtin (.cons Ev.name .nil) (CallV.lenY (b := encI (formS a ks).1) (by lia))) .cint .lt) ?_) (fun Z => Ev.name) (fun h => nomatch h))))) (low_itD _ _) (fun h => low_putK h _)
  exact decide_eq_true (by lia)
 ·have hof := of_ok (B := B) (n := n + 48) (x := encI (formS a ks).1) hd2 (by lia) (by lia)
  rw [putK_putK] at hof
  have e : itemS a ks = (.b (dig (posK (addK (formS a ks).2 (encI (formS a ks).1)) (encI (formS a ks).1))), addK (formS a ks).2 (encI (formS a ks).1)) := by rw [itemS, itemOf, if_neg hl]
  rw [e, itD_b]
  refine' Call.set0 (fn_law_below _) (Ex.seq (St1.assign (Ev.call (Ev.g g_law_form) (Keeps'.fn rfl) (.cons Ev.name (.cons Ev.name .nil)) (Call.v h)) (by walk_at "v"))
   (Ex.seq (St1.assign (Ev.call (Ev.g g_law_written) (Keeps'.fn rfl) (.cons Ev.name .nil) (Call.v henc)) (by walk_at "v"))
   (Ex.ret (Ev.ifexp (x := false) (EvT.eq (EvT.cmp (Ev.call (Ev.g g_len) .builtin (.cons Ev.name .nil) (CallV.lenY (b := encI (formS a ks).1) (by lia))) .cint .lt) ?_) (fun h => nomatch h)
    (fun Z => Ev.meth Ev.name (Meth.inst (ck_num _) hm ht hd2.inst rfl) (Keeps'.fn rfl) (.cons Ev.name .nil) (Call.v hof)))))) rfl (fun h => low_putK h _)
  exact decide_eq_false (by lia)
theorem fm_comp {kids : Fin 16 -> Nd}
  (ih : ∀ (i' : Fin 16) (σ : Sto) (ks : Bk), DigAt σ i j ks -> ks.length + cntN (kids i') <= 80000 -> Call 357 [nodeD (kids i'), .inst 290 i] (itD (itemS (kids i') ks).1) B n σ (putK σ j (itemS (kids i') ks).2)) :
  ∀ (l : List (Fin 16)) (σ : Sto) (ks : Bk) (o : Option D), DigAt σ i j ks -> ks.length + (l.map fun i => cntN (kids i)).sum <= 80000 ->
   CompE (fmC B.w) B gl_law_form n (l.map fun i => nodeD (kids i)) (itDs (itemsS kids l ks).1) [(Str.ofString "kid", o), (Str.ofString "digest", some (.inst 290 i))] σ (putK σ j (itemsS kids l ks).2) := by
 intro l
 induction l with
 | nil =>
  intro σ ks o hd hz
  rw [itemsS_0, itDs_0, putK_self hd]
  exact .nil
 | cons i' l ihl =>
  intro σ ks o hd hz
  rw [List.map_cons, List.sum_cons] at hz
  have hm := (formS_more (kids i') ks).2
  have hc := ihl (putK σ j (itemS (kids i') ks).2) (itemS (kids i') ks).2 (some (nodeD (kids i'))) hd.set (by lia)
  rw [putK_putK] at hc
  rw [itemsS_c, itDs_c]
  exact .keep (σ1 := σ) (TgtL.name (by walk_at "v")) .nil (Ev.call (Ev.g g_law_below) (Keeps'.fn rfl) (.cons Ev.name (.cons Ev.name .nil)) (Call.v (ih i' σ ks hd (by lia)))) hc
theorem lform_nil : Call 350 [nodeD .nil, .inst 290 i] (itD (formS .nil ks).1) B (n + 1) σ σ := by
 rw [nodeD_nil, formS_0, itD_b]
 exact Call.rt (fn_law_form _) (Rt.ifT (EvT.cmp Ev.name .cnone (.isN (d := .none))) (Rt.ret .cbytes)) rfl
theorem spell_ok {p : Pth} {leaf : Bool} (h : p.length <= 1000) : Call 333 [pth p, .bool leaf] (.bytes (packI (toI p) leaf)) B (n + 1) σ σ := spelled_ok toI_in (by rw [toI_length]; exact h)
theorem lform_leaf {p : Pth} {v : List UInt8} (hp : p.length <= 1000) : Call 350 [nodeD (.leaf p v), .inst 290 i] (itD (formS (.leaf p v) ks).1) B (n + 2) σ σ := by
 have hl := low_itD σ.length (formS (.leaf p v) ks).1
 rw [formS_l, itD_l, itDs_two, itD_b, itD_b] at *
 rw [nodeD_leaf]
 exact Call.rt (fn_law_form _) (Rt.ifF (EvT.cmp Ev.name .cnone (.isN (d := leafD p v))) (Rt.ifF (EvT.cmp (Ev.sub Ev.name .cint .t0) .cstr (.isS (by decide)))
  (Rt.ifT (EvT.cmp (Ev.sub Ev.name .cint .t0) .cstr (.isS (by decide))) (Rt.ret (Ev.list (.cons (Ev.call (Ev.g g_law_spelled) (Keeps'.fn rfl) (.cons (Ev.sub Ev.name .cint .t1) (.cons .cbool .nil)) (Call.v (spell_ok (n := n) hp))) (.cons (Ev.sub Ev.name .cint .t2) .nil))))))) hl
theorem lform_ext {p : Pth} {a : Nd} (hp : p.length <= 1000) (h : Call 357 [nodeD a, .inst 290 i] (itD (itemS a ks).1) B (n + 1) σ (putK σ j (itemS a ks).2)) : Call 350 [nodeD (.ext p a), .inst 290 i] (itD (formS (.ext p a) ks).1) B (n + 2) σ (putK σ j (formS (.ext p a) ks).2) := by
 have hl := low_itD σ.length (formS (.ext p a) ks).1
 rw [formS_ext] at *
 rw [itD_l, itDs_two, itD_b] at *
 rw [nodeD_ext]
 refine' Call.set0 (fn_law_form _) (Ex.ifF (EvT.cmp Ev.name .cnone (.isN (d := extD p a))) (Ex.ifF (EvT.cmp (Ev.sub Ev.name .cint .t0) .cstr (.isS (by decide)))
  (Ex.ifF (EvT.cmp (Ev.sub Ev.name .cint .t0) .cstr (.isS (by decide))) (Ex.ret (Ev.list (.cons (Ev.call (Ev.g g_law_spelled) (Keeps'.fn rfl) (.cons (Ev.sub Ev.name .cint .t1) (.cons .cbool .nil)) (Call.v (spell_ok (n := n) hp))) (.cons (Ev.call (Ev.g g_law_below) (Keeps'.fn rfl) (.cons (Ev.sub Ev.name .cint .t2) (.cons Ev.name .nil)) (Call.v h)) .nil))))))) hl (fun h => low_putK h _)
theorem lform_br {kids : Fin 16 -> Nd} {v : List UInt8} (hd : DigAt σ i j ks) (hz : ks.length + cntN (.br kids v) <= 80000)
  (ih : ∀ (i' : Fin 16) (σ : Sto) (ks : Bk), DigAt σ i j ks -> ks.length + cntN (kids i') <= 80000 -> Call 357 [nodeD (kids i'), .inst 290 i] (itD (itemS (kids i') ks).1) B n σ (putK σ j (itemS (kids i') ks).2)) :
  Call 350 [nodeD (.br kids v), .inst 290 i] (itD (formS (.br kids v) ks).1) B (n + 1) σ (putK σ j (formS (.br kids v) ks).2) := by
 have hlow := low_itD σ.length (formS (.br kids v) ks).1
 rw [cntN_b] at hz
 have hc := fm_comp (B := B) (n := n) ih (List.finRange 16) σ ks none hd (by lia)
 rw [<- kidsD_map] at hc
 have hlen := (itemsS_len kids (List.finRange 16) ks).2.2
 rw [List.length_finRange] at hlen
 have e : itDs (itemsS kids (List.finRange 16) ks).1 ++ [D.bytes v] = itDs ((itemsS kids (List.finRange 16) ks).1 ++ [.b v]) := by
  rw [itDs_append, itDs_c, itDs_0, itD_b]
 rw [formS_br] at *
 rw [itD_l] at *
 rw [nodeD_br]
 rw [<- e] at *
 refine' Call.set0 (fn_law_form _) (Ex.ifF (EvT.cmp Ev.name .cnone (.isN (d := brD kids v))) (Ex.ifT (EvT.cmp (Ev.sub Ev.name .cint .t0) .cstr (.isS (by decide)))
  (Ex.ret (Ev.bin (Ev.comp (σ1 := σ) (σ' := putK σ j (itemsS kids (List.finRange 16) ks).2) (es := itDs (itemsS kids (List.finRange 16) ks).1) (tgts := [Str.ofString "kid"]) (caps := [(Str.ofString "digest", .inst 290 i)]) (.of (capN := [Str.ofString "digest"]) rfl (by decide) (Clos.one rfl)) (EvI.val (Ev.sub Ev.name .cint .t1) .tup) (.cons (by walk_at "v") .nil) hc (by rw [kidsD_length]; decide)) (Ev.list (.cons (Ev.sub Ev.name .cint .t2) .nil)) (.addL ?_))))) hlow (fun h => low_putK h _)
 rw [itDs_length]; simp; lia
theorem law_form_ok : ∀ (a : Nd) {k n : Nat} {σ : Sto} {ks : Bk}, DigAt σ i j ks -> fit a k -> k <= 1000 -> ks.length + cntN a <= 80000 -> 2 * k + 60 <= n -> Call 350 [nodeD a, .inst 290 i] (itD (formS a ks).1) B n σ (putK σ j (formS a ks).2)
 | .nil, k, n, σ, ks, hd, hf, hk, hz, hn => by
  refine x1_1 (⟨n - 1, by lia⟩ : ∃ m, n = m + 1) fun n Q => ?_; subst Q
  have e : (formS .nil ks).2 = ks := by rw [formS_0]
  rw [e, putK_self hd]; exact lform_nil
 | .leaf p v, k, n, σ, ks, hd, hf, hk, hz, hn => by
  refine x1_1 (⟨n - 2, by lia⟩ : ∃ m, n = m + 2) fun n Q => ?_; subst Q
  have e : (formS (.leaf p v) ks).2 = ks := by rw [formS_l]
  rw [fit_l] at hf
  rw [e, putK_self hd]; exact lform_leaf (by lia)
 | .ext p a, k, n, σ, ks, hd, hf, hk, hz, hn => by
  refine x1_1 (⟨n - 52, by lia⟩ : ∃ m, n = m + 52) fun n Q => ?_; subst Q
  rw [fit_e] at hf
  rw [cntN_e] at hz
  exact lform_ext (n := n + 50) (by lia) (below_ok (n := n) hd hf.2.2 (by lia) (by lia) (law_form_ok a hd hf.2.2 (by lia) (by lia) (by lia)))
 | .br kids v, k, n, σ, ks, hd, hf, hk, hz, hn => by
  refine x1_1 (⟨n - 52, by lia⟩ : ∃ m, n = m + 52) fun n Q => ?_; subst Q
  rw [fit_b] at hf
  refine lform_br (n := n + 51) hd hz fun i' σ ks hd hz => ?_
  rcases hf.2 i' with h | h
  ·have e := isNil_eq h
   have hf0 : fit (kids i') 0 := by rw [e, fit_0]; trivial
   refine below_ok (k := 0) (n := n) hd hf0 (by lia) hz ?_
   rw [e] at hz ⊢
   have e2 : (formS .nil ks).2 = ks := by rw [formS_0]
   rw [e2, putK_self hd]; exact lform_nil (n := n + 49)
  ·exact below_ok (n := n) hd h.2 (by lia) hz (law_form_ok (kids i') hd h.2 (by lia) hz (by lia))
end
end
section
noncomputable abbrev Row := Pth × List UInt8
noncomputable def plt (p q : Pth) : Bool := pltB (toI p) (toI q)
theorem plt_nn : plt [] [] = false := rfl
theorem plt_cn {y : Fin 16} {q : Pth} : plt (y :: q) [] = false := rfl
theorem plt_cc {x y : Fin 16} {p q : Pth} : plt (x :: p) (y :: q) = if x = y then plt p q else decide (x < y) := by
 unfold plt
 rw [toI_cons, toI_cons, pltB_c]
 by_cases h : x = y
 ·subst h; rw [if_pos rfl, if_pos rfl]
 ·have hv : x.val ≠ y.val := fun e => h (Fin.ext e)
  rw [if_neg (by lia), if_neg h, decide_eq_decide, Fin.lt_def]; lia
theorem plt_irrefl (p : Pth) : plt p p = false := pltB_irrefl _
theorem plt_trans {p q r : Pth} (h1 : plt p q = true) (h2 : plt q r = true) : plt p r = true := pltB_trans h1 h2
theorem plt_total {p q : Pth} (h : p ≠ q) : plt p q = true \/ plt q p = true := pltB_total fun e => h (toI_inj.mp e)
noncomputable def Asc (rs : List Row) : Prop := rs.Pairwise fun a b => plt a.1 b.1 = true
theorem plt_share : ∀ (a : Nat) {p q r : Pth}, (p = q \/ plt p q = true) -> (q = r \/ plt q r = true) -> p.take a = r.take a -> a <= p.length -> a <= r.length -> a <= q.length /\ q.take a = p.take a
 | 0, _, _, _, _, _, _, _, _ => ⟨Nat.zero_le _, by simp⟩
 | a + 1, p, q, r, h1, h2, ht, hp, hr => by
  cases p with
  | nil => simp at hp
  | cons x p =>
   cases r with
   | nil => simp at hr
   | cons z r =>
    rw [List.take_succ_cons, List.take_succ_cons] at ht
    injection ht with e1 e2
    subst e1
    simp only [List.length_cons, Nat.add_le_add_iff_right] at hp hr
    cases q with
    | nil =>
     rcases h1 with e | h1
     ·cases e
     ·rw [plt_cn] at h1; cases h1
    | cons y q =>
     have hxy : x = y := by
      rcases h1 with e | h1
      ·cases e; rfl
      ·rcases h2 with e | h2
       ·cases e; rfl
       ·rw [plt_cc] at h1 h2
        by_cases hxy : x = y
        ·exact hxy
        ·rw [if_neg hxy, decide_eq_true_eq] at h1
         rw [if_neg (Ne.symm hxy), decide_eq_true_eq] at h2
         exact absurd h2 (by rw [Fin.lt_def] at *; lia)
     subst hxy
     have h1' : p = q \/ plt p q = true := by
      rcases h1 with e | h1
      ·cases e; exact .inl rfl
      ·rw [plt_cc, if_pos rfl] at h1; exact .inr h1
     have h2' : q = r \/ plt q r = true := by
      rcases h2 with e | h2
      ·cases e; exact .inl rfl
      ·rw [plt_cc, if_pos rfl] at h2; exact .inr h2
     refine x0_2 (plt_share a h1' h2' e2 hp hr) fun q1 q2 => ?_
     exact ⟨by simp [q1], by rw [List.take_succ_cons, List.take_succ_cons, q2]⟩
noncomputable def heldR (rs : List Row) : List UInt8 := rs.foldl (fun h r => if r.1 = [] then r.2 else h) []
noncomputable def gOne (i : Fin 16) (r : Row) : Option Row := match r.1 with
 | [] => none
 | x :: p => if x = i then some (p, r.2) else none
noncomputable def grp (i : Fin 16) (rs : List Row) : List Row := rs.filterMap (gOne i)
noncomputable def dropR (a : Nat) (rs : List Row) : List Row := rs.map fun x => (x.1.drop a, x.2)
noncomputable def lastR (r : Row) (t : List Row) : Row := (r :: t).getLast (by simp)
noncomputable def mkN : Nat -> List Row -> Nd
 | _, [] => .nil
 | _, [r] => .leaf r.1 r.2
 | 0, _ :: _ :: _ => .nil
 | k + 1, r :: s :: t =>
  if 0 < lcp r.1 (lastR r (s :: t)).1 then .ext (r.1.take (lcp r.1 (lastR r (s :: t)).1)) (mkN k (dropR (lcp r.1 (lastR r (s :: t)).1) (r :: s :: t)))
  else .br (fun i => mkN k (grp i (r :: s :: t))) (heldR (r :: s :: t))
theorem mkN_nil (k : Nat) : mkN k [] = .nil := by cases k <;> rfl
theorem mkN_one (k : Nat) (r : Row) : mkN k [r] = .leaf r.1 r.2 := by cases k <;> rfl
theorem mkN_more (k : Nat) (r s : Row) (t : List Row) : mkN (k + 1) (r :: s :: t) = if 0 < lcp r.1 (lastR r (s :: t)).1 then .ext (r.1.take (lcp r.1 (lastR r (s :: t)).1)) (mkN k (dropR (lcp r.1 (lastR r (s :: t)).1) (r :: s :: t)))
  else .br (fun i => mkN k (grp i (r :: s :: t))) (heldR (r :: s :: t)) := rfl
theorem mem_grp {i : Fin 16} {rs : List Row} {r : Row} : r ∈ grp i rs ↔ (i :: r.1, r.2) ∈ rs := by
 unfold grp
 rw [List.mem_filterMap]
 constructor
 ·rintro ⟨⟨p, v⟩, hm, h⟩
  unfold gOne at h
  cases p with
  | nil => cases h
  | cons x p =>
   dsimp only at h
   split at h
   ·rename_i e; cases h; subst e; exact hm
   ·cases h
 ·intro h
  exact ⟨_, h, by simp [gOne]⟩
theorem asc_grp {i : Fin 16} {rs : List Row} (h : Asc rs) : Asc (grp i rs) := by
 unfold Asc grp
 rw [List.pairwise_filterMap]
 refine List.Pairwise.imp ?_ h
 rintro ⟨p, v⟩ ⟨q, w⟩ hlt b hb b' hb'
 unfold gOne at hb hb'
 cases p with
 | nil => cases hb
 | cons x p =>
  cases q with
  | nil => cases hb'
  | cons y q =>
   dsimp only at hb hb' hlt
   split at hb
   ·split at hb'
    ·rename_i e1 e2
     cases hb; cases hb'
     subst e1; subst e2
     rw [plt_cc, if_pos rfl] at hlt
     exact hlt
    ·cases hb'
   ·cases hb
theorem len_grp {i : Fin 16} {rs : List Row} {k : Nat} (h : ∀ r ∈ rs, r.1.length <= k + 1) : ∀ r ∈ grp i rs, r.1.length <= k := fun r hr => by
 have := h _ (mem_grp.mp hr)
 simpa using this
theorem grp_len {i : Fin 16} {rs : List Row} : (grp i rs).length <= rs.length := List.length_filterMap_le _ _
theorem grp_append {i : Fin 16} {rs ts : List Row} : grp i (rs ++ ts) = grp i rs ++ grp i ts := by unfold grp; rw [List.filterMap_append]
theorem last_mem (r : Row) (t : List Row) : lastR r t ∈ r :: t := List.getLast_mem _
theorem asc_last {r s : Row} {t : List Row} (h : Asc (r :: s :: t)) : plt r.1 (lastR r (s :: t)).1 = true := by
 unfold Asc at h
 rw [List.pairwise_cons] at h
 refine h.1 _ ?_
 unfold lastR
 rw [List.getLast_cons (by simp)]
 exact List.getLast_mem _
theorem asc_ends {r : Row} {t : List Row} (h : Asc (r :: t)) : ∀ x ∈ r :: t, (r.1 = x.1 \/ plt r.1 x.1 = true) /\ (x.1 = (lastR r t).1 \/ plt x.1 (lastR r t).1 = true) := by
 intro x hx
 constructor
 ·rcases List.mem_cons.mp hx with rfl | hx
  ·exact .inl rfl
  ·exact .inr ((List.pairwise_cons.mp h).1 x hx)
 ·obtain ⟨i, hi, rfl⟩ := List.mem_iff_getElem.mp hx
  unfold lastR
  rw [List.getLast_eq_getElem]
  by_cases he : i = (r :: t).length - 1
  ·left; congr 1; congr 1
  ·right; exact List.pairwise_iff_getElem.mp h i _ hi (by simp) (by lia)
theorem lcp_take {p q : Pth} : ∀ {a : Nat}, a <= lcp p q -> p.take a = q.take a := by
 intro a ha
 refine List.ext_getElem? fun i => ?_
 by_cases hi : i < a
 ·rw [List.getElem?_take_of_lt hi, List.getElem?_take_of_lt hi]
  refine x1_2 (lcp_in (p := p) (q := q) (k := i) (by lia)) fun x e1 e2 => ?_
  rw [e1, e2]
 ·rw [List.getElem?_eq_none (by rw [List.length_take]; lia), List.getElem?_eq_none (by rw [List.length_take]; lia)]
theorem asc_share {r : Row} {t : List Row} (h : Asc (r :: t)) : ∀ x ∈ r :: t, lcp r.1 (lastR r t).1 <= x.1.length /\ x.1.take (lcp r.1 (lastR r t).1) = r.1.take (lcp r.1 (lastR r t).1) := fun x hx =>
 plt_share _ (asc_ends h x hx).1 (asc_ends h x hx).2 (lcp_take (Nat.le_refl _)) (lcp_le_left _ _) (lcp_le_right _ _)
theorem plt_append (s p q : Pth) : plt (s ++ p) (s ++ q) = plt p q := by
 induction s with
 | nil => rfl
 | cons x s ih => rw [List.cons_append, List.cons_append, plt_cc, if_pos rfl, ih]
theorem asc_drop {a : Nat} {s : Pth} {rs : List Row} (h : Asc rs) (hs : ∀ x ∈ rs, x.1.take a = s) : Asc (dropR a rs) := by
 unfold Asc dropR
 rw [List.pairwise_map]
 refine List.Pairwise.imp_of_mem ?_ h
 intro x y hx hy hlt
 have e1 : x.1 = s ++ x.1.drop a := by rw [<- hs x hx, List.take_append_drop]
 have e2 : y.1 = s ++ y.1.drop a := by rw [<- hs y hy, List.take_append_drop]
 rw [e1, e2, plt_append] at hlt
 exact hlt
theorem len_drop {a k : Nat} {rs : List Row} (ha : 0 < a) (h : ∀ r ∈ rs, r.1.length <= k + 1) : ∀ r ∈ dropR a rs, r.1.length <= k := fun r hr => by
 refine x1_2 (List.mem_map.mp hr) fun x hx Q => ?_; subst Q
 have := h x hx
 show (x.1.drop a).length <= k
 rw [List.length_drop]; lia
end
section
noncomputable def Ghost (B : Bs) (σ σ' : Sto) : Prop := ∀ c, Sim B σ c -> ∃ G', Le [] c ⟨G', c.β, c.s⟩ /\ Sim B σ' ⟨G', c.β, c.s⟩
theorem Ghost.refl {B : Bs} {σ : Sto} : Ghost B σ σ := fun c s => ⟨c.G, .refl _ _, s⟩
theorem Ghost.trans {B : Bs} {σ σ1 σ2 : Sto} (g : Ghost B σ σ1) (h : Ghost B σ1 σ2) : Ghost B σ σ2 := fun c s => by
 obtain ⟨G1, l1, s1⟩ := g c s
 obtain ⟨G2, l2, s2⟩ := h _ s1
 exact ⟨G2, l1.trans l2, s2⟩
theorem Rt.ghost {B : Bs} {gl : Gl} {n : Nat} {ρ : Loc} {σ σ1 σ' : Sto} {ss : List Stmt} {d : D} (g : Ghost B σ σ1) (h : Rt ss d B gl n ρ σ1 σ') : Rt ss d B gl n ρ σ σ' := by
 obtain ⟨ρ', h⟩ := h
 refine ⟨ρ', fun A env c al st ok fr E Q k => ?_⟩
 obtain ⟨G', l, s⟩ := g c ok.sim
 exact h A env ⟨G', c.β, c.s⟩ al st (ok.step l s) (fr.step l) E Q fun f c' l' s' r => k f c' ((le_mut l).trans l') s' r
theorem idRep_thaw {G : Gm} {β : List Addr} {x : Nat} {a : Addr} {i : Int} {ds : List D} {l2 : List (Int × D)} (hb : β[x]? = some a) (r : Rep G β (.ref a) (.lst ds)) : ∀ {l1 : List (Int × D)} {vk : List (Int × Value)}, IdRep G β vk (l1 ++ (i, .obj x) :: l2) -> IdRep G β vk (l1 ++ (i, .lst ds) :: l2)
 | [], [], h => h.elim
 | [], y :: ys, h => by
  refine ⟨⟨h.1.1, ?_⟩, h.2⟩
  have h2 := h.1.2
  generalize hy : y.2 = v at h2
  cases h2 with
  | @obj _ b hb' =>
   rw [hb] at hb'
   injection hb' with e
   subst e
   exact r
 | _ :: _, [], h => h.elim
 | _ :: _, _ :: _, h => ⟨h.1, idRep_thaw hb r h.2⟩
theorem thaw1 {B : Bs} {σ : Sto} {g x : Nat} {i : Int} {ds : List D} {l1 l2 : List (Int × D)} (hg : σ[g]? = some (.idct (l1 ++ (i, .obj x) :: l2))) (hx : σ[x]? = some (.lst ds)) (hne : x ≠ g) :
  Ghost B σ ((σ.set x .dead).set g (.idct (l1 ++ (i, .lst ds) :: l2))) := by
 intro c s
 have hxl : x < c.β.length := by rw [s.len]; exact (List.getElem?_eq_some_iff.mp hx).1
 have ha : c.β[x]? = some c.β[x] := List.getElem?_eq_getElem hxl
 obtain ⟨G', hG, l, s2, r2⟩ := frozen s ha hx
 refine ⟨G', l, ?_⟩
 have hg2 : (σ.set x .dead)[g]? = some (.idct (l1 ++ (i, .obj x) :: l2)) := by rw [List.getElem?_set_ne hne]; exact hg
 have hgl : g < c.β.length := by rw [s.len]; exact (List.getElem?_eq_some_iff.mp hg).1
 have hga : c.β[g]? = some c.β[g] := List.getElem?_eq_getElem hgl
 obtain ⟨vk, hd, rx⟩ := s2.cells g _ _ hga hg2
 exact sim_mutc (c := ⟨G', c.β, c.s⟩) (t := c.s.toks) s2 hga hg2 nofun (Heap.SameBut.refl _ _) ⟨vk, hd, idRep_thaw ha r2 rx⟩
noncomputable abbrev Ent := Fin 16 × Nat
noncomputable abbrev objE (e : Ent) : Int × D := ((e.1.val : Int), .obj e.2)
noncomputable abbrev lstE (f : Fin 16 -> List D) (e : Ent) : Int × D := ((e.1.val : Int), .lst (f e.1))
theorem thaw_all {B : Bs} {g : Nat} {f : Fin 16 -> List D} : ∀ (l2 l1 : List Ent) (σ : Sto), σ[g]? = some (.idct (l1.map (lstE f) ++ l2.map objE)) -> (∀ e ∈ l2, σ[e.2]? = some (.lst (f e.1)) /\ g < e.2) -> (l2.map (fun x => x.2)).Nodup ->
  ∃ σ', Ghost B σ σ' /\ σ'[g]? = some (.idct ((l1 ++ l2).map (lstE f))) /\ σ'.length = σ.length /\ ∀ z, z < g -> σ'[z]? = σ[z]?
 | [], l1, σ, hg, _, _ => ⟨σ, .refl, by simpa using hg, rfl, fun Z Z => rfl⟩
 | e :: l2, l1, σ, hg, he, hn => by
  obtain ⟨he1, he2⟩ := he e (.head _)
  rw [List.map_cons, List.nodup_cons] at hn
  have hne : e.2 ≠ g := by lia
  rw [List.map_cons] at hg
  have t := thaw1 (B := B) hg he1 hne
  have hgl : g < σ.length := (List.getElem?_eq_some_iff.mp hg).1
  obtain ⟨σ', q1, q2, q3, q4⟩ := thaw_all (f := f) l2 (l1 ++ [e]) ((σ.set e.2 .dead).set g (.idct (l1.map (lstE f) ++ ((e.1.val : Int), .lst (f e.1)) :: l2.map objE)))
   (by rw [List.getElem?_set_self (by rw [List.length_set]; exact hgl), List.map_append]; simp)
   (fun e' he' => by
    obtain ⟨w1, w2⟩ := he e' (.tail _ he')
    refine ⟨?_, w2⟩
    rw [List.getElem?_set_ne (by lia), List.getElem?_set_ne]
    ·exact w1
    ·intro q; exact hn.1 (q ▸ List.mem_map_of_mem he')) hn.2
  refine ⟨σ', t.trans q1, by rw [q2, List.append_assoc]; rfl, by rw [q3, List.length_set, List.length_set], fun z hz => ?_⟩
  rw [q4 z hz, List.getElem?_set_ne (by lia), List.getElem?_set_ne (by lia)]
structure GInv (σ st : Sto) (done : List Row) (es : List Ent) : Prop where
 dict : st[σ.length]? = some (.idct (es.map objE))
 keys : (es.map (fun x => x.1)).Nodup
 objs : (es.map (fun x => x.2)).Nodup
 at_ : ∀ e ∈ es, st[e.2]? = some (.lst ((grp e.1 done).map rowD)) /\ σ.length < e.2
 none : ∀ i, i ∉ es.map (fun x => x.1) -> grp i done = []
 pre : ∀ z, z < σ.length -> st[z]? = σ[z]?
 few : es.length <= done.length
theorem dget_ent {f : Ent -> D} : ∀ {es : List Ent} (_ : (es.map (fun x => x.1)).Nodup) {e : Ent}, e ∈ es -> dget (es.map fun e => ((e.1.val : Int), f e)) (e.1.val : Int) = some (f e)
 | a :: es, hn, e, he => by
  rw [List.map_cons, List.nodup_cons] at hn
  unfold dget
  rw [List.map_cons, List.find?_cons]
  rcases List.mem_cons.mp he with rfl | he
  ·simp
  ·have hne : a.1 ≠ e.1 := fun q => hn.1 (q ▸ List.mem_map_of_mem he)
   have hv : ((a.1.val : Int)) ≠ e.1.val := fun q => hne (Fin.ext (by lia))
   simp only [hv, decide_false]
   exact dget_ent hn.2 he
theorem dget_noent {f : Ent -> D} : ∀ {es : List Ent} {i : Fin 16}, i ∉ es.map (fun x => x.1) -> dget (es.map fun e => ((e.1.val : Int), f e)) (i.val : Int) = none
 | [], _, _ => rfl
 | a :: es, i, h => by
  rw [List.map_cons, List.mem_cons, not_or] at h
  have hv : ((a.1.val : Int)) ≠ i.val := fun q => h.1 (Fin.ext (by lia)).symm
  unfold dget
  rw [List.map_cons, List.find?_cons]
  simp only [hv, decide_false]
  exact dget_noent h.2
theorem grp_snoc_nil {i : Fin 16} {done : List Row} {v : List UInt8} : grp i (done ++ [([], v)]) = grp i done := by rw [grp_append]; simp [grp, gOne]
theorem grp_snoc_same {x : Fin 16} {p : Pth} {done : List Row} {v : List UInt8} : grp x (done ++ [(x :: p, v)]) = grp x done ++ [(p, v)] := by rw [grp_append]; simp [grp, gOne]
theorem grp_snoc_ne {i x : Fin 16} {p : Pth} {done : List Row} {v : List UInt8} (h : x ≠ i) : grp i (done ++ [(x :: p, v)]) = grp i done := by rw [grp_append]; simp [grp, gOne, h]
theorem GInv.nil {σ st : Sto} {done : List Row} {es : List Ent} {v : List UInt8} (h : GInv σ st done es) : GInv σ st (done ++ [([], v)]) es :=
 ⟨h.dict, h.keys, h.objs, fun e he => by rw [grp_snoc_nil]; exact h.at_ e he, fun i hi => by rw [grp_snoc_nil]; exact h.none i hi, h.pre, by rw [List.length_append]; have := h.few; lia⟩
theorem GInv.old {σ st : Sto} {done : List Row} {es : List Ent} {v : List UInt8} {p : Pth} {x : Fin 16} {y : Nat} (h : GInv σ st done es) (he : (x, y) ∈ es) :
  GInv σ ((st ++ [Cell.lst []]).set y (Cell.lst ((grp x done).map rowD ++ [rowD (p, v)]))) (done ++ [(x :: p, v)]) es := by
 obtain ⟨h1, h2⟩ := h.at_ _ he
 have hy : y < st.length := (List.getElem?_eq_some_iff.mp h1).1
 have hg : σ.length < st.length := (List.getElem?_eq_some_iff.mp h.dict).1
 refine ⟨?_, h.keys, h.objs, fun e hm => ?_, fun i hi => ?_, fun z hz => ?_, by rw [List.length_append]; have := h.few; lia⟩
 ·rw [List.getElem?_set_ne (Nat.ne_of_gt h2), List.getElem?_append_left hg]; exact h.dict
 ·obtain ⟨w1, w2⟩ := h.at_ e hm
  refine ⟨?_, w2⟩
  have hel : e.2 < st.length := (List.getElem?_eq_some_iff.mp w1).1
  by_cases hq : e = (x, y)
  ·subst hq
   rw [List.getElem?_set_self (by rw [List.length_append]; lia), grp_snoc_same, List.map_append]; rfl
  ·have hk : e.1 ≠ x := fun q => hq (by
    obtain ⟨j1, l1, e1⟩ := List.mem_iff_getElem.mp hm
    obtain ⟨j2, l2, e2⟩ := List.mem_iff_getElem.mp he
    have : j1 = j2 := (List.getElem_inj (h₀ := by simpa using l1) (h₁ := by simpa using l2) h.keys).mp (by simp [e1, e2, q])
    subst this
    rw [<- e1, e2])
   have ho : y ≠ e.2 := fun q => hq (by
    obtain ⟨j1, l1, e1⟩ := List.mem_iff_getElem.mp hm
    obtain ⟨j2, l2, e2⟩ := List.mem_iff_getElem.mp he
    have : j1 = j2 := (List.getElem_inj (h₀ := by simpa using l1) (h₁ := by simpa using l2) h.objs).mp (by simp [e1, e2, q])
    subst this
    rw [<- e1, e2])
   rw [List.getElem?_set_ne ho, List.getElem?_append_left hel, grp_snoc_ne (Ne.symm hk)]; exact w1
 ·have hk : x ≠ i := fun q => hi (q ▸ List.mem_map_of_mem he)
  rw [grp_snoc_ne hk]; exact h.none i hi
 ·rw [List.getElem?_set_ne (by lia), List.getElem?_append_left (by lia)]; exact h.pre z hz
theorem GInv.new {σ st : Sto} {done : List Row} {es : List Ent} {v : List UInt8} {p : Pth} {x : Fin 16} (h : GInv σ st done es) (hx : x ∉ es.map (fun x => x.1)) :
  GInv σ (((st ++ [Cell.lst []]).set σ.length (Cell.idct (es.map objE ++ [((x.val : Int), D.obj st.length)]))).set st.length (Cell.lst [rowD (p, v)])) (done ++ [(x :: p, v)]) (es ++ [(x, st.length)]) := by
 have hg : σ.length < st.length := (List.getElem?_eq_some_iff.mp h.dict).1
 have hlt : ∀ e ∈ es, e.2 < st.length := fun e he => (List.getElem?_eq_some_iff.mp (h.at_ e he).1).1
 refine ⟨?_, ?_, ?_, fun e hm => ?_, fun i hi => ?_, fun z hz => ?_, by rw [List.length_append, List.length_append]; have := h.few; simp; lia⟩
 ·rw [List.getElem?_set_ne (by lia), List.getElem?_set_self (by rw [List.length_append]; lia), List.map_append]; rfl
 ·rw [List.map_append, List.nodup_append]
  exact ⟨h.keys, by simp, fun a ha b hb e => by simp at hb; subst hb; subst e; exact hx ha⟩
 ·rw [List.map_append, List.nodup_append]
  refine ⟨h.objs, by simp, fun a ha b hb e => ?_⟩
  simp at hb
  refine x1_2 (List.mem_map.mp ha) fun e' he' q => ?_
  have := hlt e' he'
  lia
 ·rcases List.mem_append.mp hm with hm | hm
  ·refine x0_2 (h.at_ e hm) fun w1 w2 => ?_
   have := hlt e hm
   have hk : x ≠ e.1 := fun q => hx (q ▸ List.mem_map_of_mem hm)
   refine ⟨?_, w2⟩
   rw [List.getElem?_set_ne (by lia), List.getElem?_set_ne (by lia), List.getElem?_append_left this, grp_snoc_ne hk]; exact w1
  ·rw [List.mem_singleton] at hm
   subst hm
   refine ⟨?_, hg⟩
   rw [List.getElem?_set_self (by simp), grp_snoc_same, h.none x hx]; rfl
 ·rw [List.map_append, List.mem_append, not_or] at hi
  have hk : x ≠ i := fun q => hi.2 (by simp [q])
  rw [grp_snoc_ne hk]; exact h.none i hi.1
 ·rw [List.getElem?_set_ne (by lia), List.getElem?_set_ne (by lia), List.getElem?_append_left (by lia)]; exact h.pre z hz
end
section
noncomputable def arg2 (e : Expr) : Expr := nE 2 (ePt e).1
noncomputable abbrev lnFor (w : World) : Stmt := sAt 7 (bodyIn (KK w) 328)
noncomputable abbrev lnWh (w : World) : Stmt := sAt 4 (bodyIn (KK w) 328)
noncomputable abbrev lnE (w : World) : Expr := arg0 (arg2 (valOf (sAt 0 (loopBody (sAt 5 (bodyIn (KK w) 328))))))
noncomputable abbrev lnB (w : World) : Expr := arg0 (arg1 (valOf (sAt 8 (bodyIn (KK w) 328))))
noncomputable abbrev lnLoc (rows : D) (first last alike path val groups held : Option D) : Loc := [(Str.ofString "rows", some rows), (Str.ofString "first", first), (Str.ofString "last", last), (Str.ofString "alike", alike), (Str.ofString "path", path), (Str.ofString "value_now", val), (Str.ofString "groups", groups), (Str.ofString "held", held)]
section
variable {B : Bs} {n : Nat} {σ : Sto}
theorem ln_loop {q : D} {first last alike : Option D} : ∀ (rest done : List Row) (st : Sto) (es : List Ent) (o1 o2 : Option D) (h : List UInt8), GInv σ st done es -> (∀ r ∈ rest, r.1.length <= 1000) -> done.length + rest.length <= 1000 -> ∃ st' es' o1' o2',
  ForL (loopTgt (lnFor B.w)) (loopBody (lnFor B.w)) B gl_law_node n (rest.map rowD) .next (lnLoc q first last alike o1 o2 (some (.obj σ.length)) (some (.bytes h))) (lnLoc q first last alike o1' o2' (some (.obj σ.length)) (some (.bytes (rest.foldl (fun h r => if r.1 = [] then r.2 else h) h)))) st st' /\ GInv σ st' (done ++ rest) es' := by
 intro rest
 induction rest with
 | nil => intro done st es o1 o2 h g _ _; exact ⟨st, es, o1, o2, .nil, by rw [List.append_nil]; exact g⟩
 | cons r rest ih =>
  intro done st es o1 o2 h g hz hl
  have hz' : ∀ r ∈ rest, r.1.length <= 1000 := fun r hr => hz r (.tail _ hr)
  have hl' : (done ++ [r]).length + rest.length <= 1000 := by rw [List.length_append, List.length_singleton]; rw [List.length_cons] at hl; lia
  have hrl := hz r (.head _)
  obtain ⟨p, v⟩ := r
  cases p with
  | nil =>
   refine x4_2 (ih (done ++ [([], v)]) st es (some (pth [])) (some (.bytes v)) v g.nil hz' hl') fun st' es' o1' o2' l g' => ?_
   refine ⟨st', es', o1', o2', ?_, by rw [List.append_assoc] at g'; exact g'⟩
   refine .step (Tgt.tup (ds := [pth [], .bytes v]) (by walk_at "v")) (Ex.ifT (EvT.eq (EvT.cmp Ev.name (Ev.eq (d' := pth []) (Ev.tuple .nil) rfl) .eqPth) (by simp)) (Ex.seq (St1.assign (d := .bytes v) Ev.name (by walk_at "v")) .nil)) ?_
   rw [List.foldl_cons, if_pos rfl]
   exact l
  | cons x p =>
   have hpl : p.length <= 1000 := by simp at hrl; lia
   have hds : ∀ {i : Fin 16}, ((grp i done).map rowD).length <= 1000000 := fun {i} => by
    have := grp_len (i := i) (rs := done)
    rw [List.length_map]; lia
   have hgl : σ.length < st.length := (List.getElem?_eq_some_iff.mp g.dict).1
   have hd1 : (st ++ [Cell.lst []])[σ.length]? = some (.idct (es.map objE)) := by rw [List.getElem?_append_left hgl]; exact g.dict
   have hel : (es.map objE).length <= 1000000 := by
    rw [List.length_map]
    have := g.few
    lia
   have sd := CallV.setdefaultI (B := B) (n := n) (i := (x.val : Int)) (d0 := .obj st.length) hd1 hel
   by_cases hx : x ∈ es.map (fun x => x.1)
   ·refine x1_2 (List.mem_map.mp hx) fun e he Q => ?_; subst Q
    obtain ⟨x, y⟩ := e
    have hget := dget_ent (f := fun e => D.obj e.2) g.keys he
    dsimp only at hget sd hrl ⊢
    rw [hget] at sd
    dsimp only [Option.getD] at sd
    refine x0_2 (g.at_ _ he) fun h1 h2 => ?_
    have hyl : y < st.length := (List.getElem?_eq_some_iff.mp h1).1
    have h1' : (st ++ [Cell.lst []])[y]? = some (.lst ((grp x done).map rowD)) := by rw [List.getElem?_append_left hyl]; exact h1
    have ap := CallV.append (B := B) (n := n) (d := rowD (p, v)) h1' hds
    refine x4_2 (ih (done ++ [(x :: p, v)]) _ es (some (pth (x :: p))) (some (.bytes v)) h (g.old (p := p) (v := v) he) hz' hl') fun st' es' o1' o2' l g' => ?_
    refine ⟨st', es', o1', o2', ?_, by rw [List.append_assoc] at g'; exact g'⟩
    refine .step (Tgt.tup (ds := [pth (x :: p), .bytes v]) (by walk_at "v")) (Ex.ifF (EvT.eq (EvT.cmp Ev.name (Ev.eq (d' := pth []) (Ev.tuple .nil) rfl) .eqPth) (by simp))
     (Ex.seq (St1.expr (d := .none) (Ev.meth (a := .obj y) (Ev.meth (a := .obj σ.length) Ev.name (Meth.idct g.dict PySem.F.slot_dict_setdefault PySem.F.type_dict_setdefault) .builtin (.cons (Ev.sub Ev.name .cint (.pth (p := x :: p) (i := 0) (x := x) (by decide) rfl (by simp; lia))) (.cons (Ev.listM .nil) .nil)) sd) (Meth.append h1') .builtin (.cons (Ev.tuple (.cons (Ev.slice Ev.name (.some .cint) .none .none (Slc.from1 (p := x :: p) (by simp; lia))) (.cons Ev.name .nil))) .nil) ap)) .nil)) ?_
    rw [List.foldl_cons, if_neg (by simp)]
    exact l
   ·have hget := dget_noent (f := fun e => D.obj e.2) hx
    have hput : dput (es.map objE) (x.val : Int) (.obj st.length) = es.map objE ++ [((x.val : Int), .obj st.length)] := by
     unfold dput
     rw [hget, if_neg (by simp)]
    rw [hget, hput] at sd
    dsimp only [Option.getD] at sd
    have hm1 : ((st ++ [Cell.lst []]).set σ.length (.idct (es.map objE ++ [((x.val : Int), .obj st.length)])))[st.length]? = some (.lst []) := by
     rw [List.getElem?_set_ne (by lia)]; simp
    have ap := CallV.append (B := B) (n := n) (d := rowD (p, v)) hm1 (by simp)
    rw [List.nil_append] at ap
    refine x4_2 (ih (done ++ [(x :: p, v)]) _ _ (some (pth (x :: p))) (some (.bytes v)) h (g.new (p := p) (v := v) hx) hz' hl') fun st' es' o1' o2' l g' => ?_
    refine ⟨st', es', o1', o2', ?_, by rw [List.append_assoc] at g'; exact g'⟩
    refine .step (Tgt.tup (ds := [pth (x :: p), .bytes v]) (by walk_at "v")) (Ex.ifF (EvT.eq (EvT.cmp Ev.name (Ev.eq (d' := pth []) (Ev.tuple .nil) rfl) .eqPth) (by simp))
     (Ex.seq (St1.expr (d := .none) (Ev.meth (a := .obj st.length) (Ev.meth (a := .obj σ.length) Ev.name (Meth.idct g.dict PySem.F.slot_dict_setdefault PySem.F.type_dict_setdefault) .builtin (.cons (Ev.sub Ev.name .cint (.pth (p := x :: p) (i := 0) (x := x) (by decide) rfl (by simp; lia))) (.cons (Ev.listM .nil) .nil)) sd) (Meth.append hm1) .builtin (.cons (Ev.tuple (.cons (Ev.slice Ev.name (.some .cint) .none .none (Slc.from1 (p := x :: p) (by simp; lia))) (.cons Ev.name .nil))) .nil) ap)) .nil)) ?_
    rw [List.foldl_cons, if_neg (by simp)]
    exact l
end
end
section
section
variable {B : Bs} {n : Nat} {σ : Sto}
theorem ln_while {q : D} {f l : Pth} (hf : f.length <= 100000) (hl : l.length <= 100000) (hlt : lcp f l = f.length \/ lcp f l < l.length) : ∀ (m k : Nat), k + m = lcp f l ->
  Wh (loopTgt (lnWh B.w)) (loopBody (lnWh B.w)) B gl_law_node n m .next (lnLoc q (some (pth f)) (some (pth l)) (some (.int k)) none none none none) (lnLoc q (some (pth f)) (some (pth l)) (some (.int (lcp f l : Nat))) none none none none) σ σ := by
 have l1 := lcp_le_left f l
 have l2 := lcp_le_right f l
 intro m
 induction m with
 | zero =>
  intro k hk
  obtain rfl : k = lcp f l := by lia
  refine .done ?_
  by_cases h : lcp f l < f.length
  ·refine x2_3 (lcp_end h (hlt.resolve_left (by lia))) fun x y e1 e2 hne => ?_
   refine EvT.eq (EvT.and (y := ((x.val : Int) == (y.val : Int))) (EvT.cmp Ev.name (Ev.call (Ev.g g_len) .builtin (.cons Ev.name .nil) (CallV.lenPth (p := f) (by lia))) .lt) (fun Z => EvT.cmp (Ev.sub Ev.name Ev.name (Item.pth (p := f) (x := x) (by lia) (by simpa using e1) (by lia))) (Ev.sub Ev.name Ev.name (Item.pth (p := l) (x := y) (by lia) (by simpa using e2) (by lia))) .eqI) (fun Z => rfl)) ?_
   rw [Bool.and_eq_false_iff]
   right
   exact beq_false_of_ne fun e => hne (Fin.ext (by lia))
  ·have hx : decide (((lcp f l : Nat) : Int) < (f.length : Int)) = false := decide_eq_false (by lia)
   refine EvT.eq (EvT.and (y := true) (EvT.cmp Ev.name (Ev.call (Ev.g g_len) .builtin (.cons Ev.name .nil) (CallV.lenPth (p := f) (by lia))) .lt) (fun h => by rw [hx] at h; cases h) (fun Z => rfl)) ?_
   simp only [hx, Bool.false_and]
 | succ m ih =>
  intro k hk
  refine x1_2 (lcp_in (p := f) (q := l) (k := k) (by lia)) fun x e1 e2 => ?_
  have ih' := ih (k + 1) (by lia)
  rw [show (((k + 1 : Nat)) : Int) = (k : Int) + 1 from rfl] at ih'
  refine .step (σ1 := σ) (σ2 := σ) ?_ ?_ ih'
  ·refine EvT.eq (EvT.and (y := ((x.val : Int) == (x.val : Int))) (EvT.cmp Ev.name (Ev.call (Ev.g g_len) .builtin (.cons Ev.name .nil) (CallV.lenPth (p := f) (by lia))) .lt) (fun Z => EvT.cmp (Ev.sub Ev.name Ev.name (Item.pth (p := f) (x := x) (by lia) (by simpa using e1) (by lia))) (Ev.sub Ev.name Ev.name (Item.pth (p := l) (x := x) (by lia) (by simpa using e2) (by lia))) .eqI) (fun Z => rfl)) ?_
   simp; lia
  ·exact Ex.seq (St1.assign (Ev.bin Ev.name .cint .add) (by walk_at "v")) .nil
theorem ln_ext_comp {a : Nat} : ∀ (l : List Row) (o1 o2 : Option D), (∀ r ∈ l, r.1.length <= 1000) ->
  CompE (lnE B.w) B gl_law_node n (l.map rowD) ((dropR a l).map rowD) [(Str.ofString "path", o1), (Str.ofString "value_now", o2), (Str.ofString "alike", some (.int a))] σ σ
 | [], _, _, _ => .nil
 | (p, v) :: l, o1, o2, h => by
  have hp : p.length <= 1000 := h (p, v) (.head _)
  exact .keep (σ1 := σ) (TgtL.tup (ds := [pth p, .bytes v]) (by walk_at "v") (hx := by
   intro x hx
   change x ∈ [Str.ofString "path", Str.ofString "value_now"] at hx
   cases hx with
   | head => rfl
   | tail _ hx =>
    cases hx with
    | head => rfl
    | tail _ hx => cases hx)) .nil (Ev.tuple (.cons (Ev.slice Ev.name (.some Ev.name) .none .none (Slc.from (p := p) (k := a) (by lia))) (.cons Ev.name .nil))) (ln_ext_comp l (some (pth p)) (some (.bytes v)) fun r hr => h r (.tail _ hr))
theorem ln_br_comp {k g : Nat} {rows : List Row} {es : List Ent} (hd : σ[g]? = some (.idct (es.map (lstE fun i => (grp i rows).map rowD)))) (hk : (es.map (fun x => x.1)).Nodup) (hnone : ∀ i, i ∉ es.map (fun x => x.1) -> grp i rows = [])
  (ih : ∀ i, Call 328 [.lst ((grp i rows).map rowD)] (nodeD (mkN k (grp i rows))) B n σ σ) : ∀ (l : List (Fin 16)) (o : Option D),
  CompE (lnB B.w) B gl_law_node n (l.map fun (i : Fin 16) => .int (i.val : Int)) (l.map fun i => nodeD (mkN k (grp i rows))) [(Str.ofString "nibble", o), (Str.ofString "groups", some (.obj g))] σ σ
 | [], _ => .nil
 | i :: l, o => by
  have hget : (dget (es.map (lstE fun i => (grp i rows).map rowD)) (i.val : Int)).getD (.lst []) = .lst ((grp i rows).map rowD) := by
   by_cases h : i ∈ es.map (fun x => x.1)
   ·refine x1_2 (List.mem_map.mp h) fun e he Q => ?_; subst Q
    rw [dget_ent (f := fun e => D.lst ((grp e.1 rows).map rowD)) hk he]; rfl
   ·rw [dget_noent (f := fun e => D.lst ((grp e.1 rows).map rowD)) h, hnone i h]; rfl
  have gt := CallV.getI (B := B) (n := n) (i := (i.val : Int)) (d0 := .lst []) hd
  rw [hget] at gt
  exact .keep (σ1 := σ) (TgtL.name (by walk_at "v")) .nil (Ev.call (Ev.g g_law_node) (Keeps'.fn rfl) (.cons (Ev.meth (a := .obj g) Ev.name (Meth.idct hd PySem.F.slot_dict_get PySem.F.type_dict_get) .builtin (.cons Ev.name (.cons (Ev.list .nil) .nil)) gt) .nil) (Call.v (ih i))) (ln_br_comp hd hk hnone ih l (some (.int i.val)))
theorem last_item (r : Row) (t : List Row) : ((r :: t).map rowD)[(((r :: t).length : Int) - 1).toNat]? = some (rowD (lastR r t)) := by
 unfold lastR
 rw [List.getLast_eq_getElem, List.getElem?_map, show ((((r :: t).length : Nat) : Int) - 1).toNat = (r :: t).length - 1 by lia, List.getElem?_eq_getElem (by simp)]
 rfl
theorem ln_open {r : Row} {t : List Row} {d : D} {σ' : Sto} (hz : (r :: t).length <= 1000) (h : Rt ((bodyIn (KK B.w) 328).drop 2) d B gl_law_node n (lnLoc (.lst ((r :: t).map rowD)) (some (pth r.1)) (some (pth (lastR r t).1)) none none none none none) σ σ') :
  Rt (bodyIn (KK B.w) 328) d B gl_law_node n (locs0 [Str.ofString "rows"] [.lst ((r :: t).map rowD)] [Str.ofString "first", Str.ofString "last", Str.ofString "alike", Str.ofString "path", Str.ofString "value_now", Str.ofString "groups", Str.ofString "held"]) σ σ' := by
 have hl : ((r :: t).map rowD).length <= 1000000 := by rw [List.length_map]; lia
 have hli := last_item r t
 refine Rt.ifF (EvT.cmp Ev.name (Ev.list .nil) (.eqL (k := 0) .cn)) (Rt.seq (St1.unpack (ds := [pth r.1, pth (lastR r t).1]) (Ev.tuple (.cons (Ev.sub (Ev.sub Ev.name .cint (.lst (i := 0) (ds := (r :: t).map rowD) (d := rowD r) (by decide) rfl hl)) .cint (.tup (i := 0) (ds := [pth r.1, .bytes r.2]) (d := pth r.1) (by decide) rfl (by simp)))
  (.cons (Ev.sub (Ev.sub Ev.name (Ev.bin (Ev.call (Ev.g g_len) .builtin (.cons Ev.name .nil) (CallV.lenL hl)) .cint .sub) (.lst (ds := (r :: t).map rowD) (d := rowD (lastR r t)) (by simp <;> lia) (by rw [List.length_map]; exact hli) hl)) .cint (.tup (i := 0) (ds := [pth (lastR r t).1, .bytes (lastR r t).2]) (d := pth (lastR r t).1) (by decide) rfl (by simp))) .nil))) (by walk_at "v") (hw := fun env hk => swapped_or rfl (by decide) env hk)) h)
theorem law_node_ok : ∀ (k : Nat) (rows : List Row) {σ : Sto} {n : Nat}, Asc rows -> (∀ r ∈ rows, r.1.length <= k) -> rows.length <= 900 -> k <= 900 -> k + 2 <= n -> Call 328 [.lst (rows.map rowD)] (nodeD (mkN k rows)) B n σ σ
 | k, [], σ, n, _, _, _, _, hn => by
  refine x1_1 (⟨n - 1, by lia⟩ : ∃ m, n = m + 1) fun n Q => ?_; subst Q
  rw [mkN_nil, nodeD_nil]
  exact Call.rt (fn_law_node _) (Rt.ifT (EvT.cmp Ev.name (Ev.list .nil) (.eqL (k := 0) .nil)) (Rt.ret .cnone)) rfl
 | k, [r], σ, n, _, _, _, _, hn => by
  refine x1_1 (⟨n - 1, by lia⟩ : ∃ m, n = m + 1) fun n Q => ?_; subst Q
  rw [mkN_one, nodeD_leaf]
  refine Call.rt (fn_law_node _) (ln_open (t := []) (by simp) (Rt.ifT (EvT.eq (EvT.cmp (Ev.call (Ev.g g_len) .builtin (.cons Ev.name .nil) (CallV.lenL (ds := [r].map rowD) (by simp))) .cint .eqI) rfl) (Rt.ret (Ev.tuple (.cons .cstr (.cons Ev.name (.cons (Ev.sub (Ev.sub Ev.name .cint (.lst (i := 0) (ds := [r].map rowD) (d := rowD r) (by decide) rfl (by simp))) .cint (.tup (i := 1) (ds := [pth r.1, .bytes r.2]) (d := .bytes r.2) (by decide) rfl (by simp))) .nil))))))) ?_
  exact low_nodeD (σ.length) (.leaf r.1 r.2)
 | 0, r :: s :: t, σ, n, ha, hk, _, _, _ => by
  have h1 : r.1 = [] := List.length_eq_zero_iff.mp (Nat.le_zero.mp (hk r (.head _)))
  have h2 : s.1 = [] := List.length_eq_zero_iff.mp (Nat.le_zero.mp (hk s (.tail _ (.head _))))
  have := (List.pairwise_cons.mp ha).1 s (.head _)
  rw [h1, h2, plt_nn] at this
  cases this
 | k + 1, r :: s :: t, σ, n, ha, hk, hz, hk9, hn => by
  refine x1_1 (⟨n - 1, by lia⟩ : ∃ m, n = m + 1) fun n Q => ?_; subst Q
  have hr := hk r (.head _)
  have hL := hk _ (last_mem r (s :: t))
  have hlt := asc_last ha
  have hl : ((r :: s :: t).map rowD).length <= 1000000 := by rw [List.length_map]; lia
  have hc : lcp r.1 (lastR r (s :: t)).1 = r.1.length \/ lcp r.1 (lastR r (s :: t)).1 < (lastR r (s :: t)).1.length := by
   refine Decidable.or_iff_not_imp_left.mpr fun hne => Nat.lt_of_le_of_ne (lcp_le_right _ _) fun e => ?_
   have e2 := lcp_take (p := r.1) (q := (lastR r (s :: t)).1) (Nat.le_refl _)
   have e3 : (lastR r (s :: t)).1.take (lcp r.1 (lastR r (s :: t)).1) = (lastR r (s :: t)).1 := by rw [e, List.take_length]
   rw [e3] at e2
   have e4 := List.take_append_drop (lcp r.1 (lastR r (s :: t)).1) r.1
   rw [e2] at e4
   rw [<- e4] at hlt
   have e5 : plt ((lastR r (s :: t)).1 ++ List.drop (lcp r.1 (lastR r (s :: t)).1) r.1) ((lastR r (s :: t)).1 ++ []) = true := by rw [List.append_nil]; exact hlt
   rw [plt_append] at e5
   cases hd : List.drop (lcp r.1 (lastR r (s :: t)).1) r.1 with
   | nil => rw [hd, plt_nn] at e5; cases e5
   | cons _ _ => rw [hd, plt_cn] at e5; cases e5
  have wh := ln_while (B := B) (n := n) (σ := σ) (q := .lst ((r :: s :: t).map rowD)) (f := r.1) (l := (lastR r (s :: t)).1) (by lia) (by lia) hc _ 0 (Nat.zero_add _)
  rw [show ((0 : Nat) : Int) = 0 from rfl] at wh
  have hshare := asc_share ha
  generalize hae : lcp r.1 (lastR r (s :: t)).1 = a at wh hshare
  have head : ∀ {d : D} {σ' : Sto}, Rt ((bodyIn (KK B.w) 328).drop 5) d B gl_law_node n (lnLoc (.lst ((r :: s :: t).map rowD)) (some (pth r.1)) (some (pth (lastR r (s :: t)).1)) (some (.int (a : Nat))) none none none none) σ σ' ->
    Rt (bodyIn (KK B.w) 328) d B gl_law_node n (locs0 [Str.ofString "rows"] [.lst ((r :: s :: t).map rowD)] [Str.ofString "first", Str.ofString "last", Str.ofString "alike", Str.ofString "path", Str.ofString "value_now", Str.ofString "groups", Str.ofString "held"]) σ σ' := fun {d σ'} h =>
   ln_open (by lia) (Rt.ifF (EvT.eq (EvT.cmp (Ev.call (Ev.g g_len) .builtin (.cons Ev.name .nil) (CallV.lenL hl)) .cint .eqI) (by rw [List.length_map]; exact beq_false_of_ne (by simp; lia)))
    (Rt.seq (St1.assign .cint (by walk_at "v")) (Rt.seq (St1.of (StX.while_ wh)) h)))
  have hlow := low_nodeD σ.length (mkN (k + 1) (r :: s :: t))
  rw [mkN_more, hae] at hlow ⊢
  by_cases h0 : 0 < a
  ·rw [if_pos h0] at hlow ⊢
   have ih := law_node_ok k (dropR a (r :: s :: t)) (σ := σ) (n := n) (asc_drop ha fun x hx => (hshare x hx).2) (len_drop h0 hk) (by unfold dropR; rw [List.length_map]; exact hz) (by lia) (by lia)
   have hcmp := ln_ext_comp (B := B) (n := n) (σ := σ) (a := a) (r :: s :: t) none none fun x hx => by have := hk x hx; lia
   rw [nodeD_ext] at hlow ⊢
   exact Call.rt (fn_law_node _) (head (Rt.ifT (EvT.eq (EvT.cmp Ev.name .cint .gt) (decide_eq_true (by lia))) (Rt.ret (Ev.tuple (.cons .cstr (.cons (Ev.slice Ev.name .none (.some Ev.name) .none (Slc.upto (p := r.1) (k := a) (by lia)))
    (.cons (Ev.call (Ev.g g_law_node) (Keeps'.fn rfl) (.cons (Ev.comp (σ1 := σ) (σ' := σ) (es := (dropR a (r :: s :: t)).map rowD) (tgts := [Str.ofString "path", Str.ofString "value_now"]) (caps := [(Str.ofString "alike", .int a)]) (.of (capN := [Str.ofString "alike"]) rfl (by decide) (Clos.one rfl)) (EvI.val Ev.name .lst) (.cons (by walk_at "v") .nil) hcmp hl) .nil) (Call.v ih)) .nil))))))) hlow
  ·rw [if_neg h0] at hlow ⊢
   have g0 : GInv σ (σ ++ [Cell.idct []]) [] [] := ⟨get_last, .nil, .nil, (fun Z h => nomatch h), (fun Z Z => rfl), (fun z hz => by rw [List.getElem?_append_left hz]), Nat.le_refl _⟩
   refine x4_2 (ln_loop (B := B) (n := n) (q := .lst ((r :: s :: t).map rowD)) (first := some (pth r.1)) (last := some (pth (lastR r (s :: t)).1)) (alike := some (.int (a : Nat))) (r :: s :: t) [] (σ ++ [Cell.idct []]) [] none none [] g0 (fun x hx => by have := hk x hx; lia) (by simp at hz ⊢; lia)) fun st es o1 o2 lp g => ?_
   rw [List.nil_append] at g
   rw [show List.foldl (fun (h : List UInt8) (r : Row) => if r.1 = [] then r.2 else h) [] (r :: s :: t) = heldR (r :: s :: t) from rfl] at lp
   refine x1_4 (thaw_all (B := B) (g := σ.length) (f := fun i => (grp i (r :: s :: t)).map rowD) es [] st (by simpa using g.dict) (fun e he => g.at_ e he) g.objs) fun σ' gh q1 q2 q3 => ?_
   rw [List.nil_append] at q1
   have ecut : σ' = σ ++ σ'.drop σ.length := by
    have hle : σ.length <= σ'.length := Nat.le_of_lt (List.getElem?_eq_some_iff.mp q1).1
    have : σ'.take σ.length = σ := by
     refine List.ext_getElem? fun z => ?_
     by_cases hz : z < σ.length
     ·rw [List.getElem?_take_of_lt hz, q3 z hz, g.pre z hz]
     ·rw [List.getElem?_eq_none (by rw [List.length_take]; lia), List.getElem?_eq_none (by lia)]
    conv => lhs; rw [<- List.take_append_drop σ.length σ', this]
   have hcmp := ln_br_comp (B := B) (n := n) (k := k) (rows := r :: s :: t) q1 g.keys g.none (fun i => law_node_ok k (grp i (r :: s :: t)) (asc_grp ha) (len_grp hk) (Nat.le_trans grp_len hz) (by lia) (by lia)) (List.finRange 16) none
   rw [<- ups16] at hcmp
   have hkd : (List.finRange 16).map (fun i => nodeD (mkN k (grp i (r :: s :: t)))) = kidsD fun i => mkN k (grp i (r :: s :: t)) := (kidsD_map _).symm
   rw [hkd] at hcmp
   rw [nodeD_br] at hlow ⊢
   refine Call.rt0 (σj := σ'.drop σ.length) (fn_law_node _) ?_ hlow
   rw [<- ecut]
   exact head (Rt.ifF (EvT.eq (EvT.cmp Ev.name .cint .gt) (decide_eq_false (by lia))) (Rt.seq (St1.unpack (ds := [.obj σ.length, .bytes []]) (Ev.tuple (.cons Ev.dictI (.cons .cbytes .nil))) (by walk_at "v") (hw := fun env hk => swapped_or rfl (by decide) env hk))
    (Rt.seq (St1.of (StX.for_ (EvI.val Ev.name .lst) lp)) (Rt.ghost gh (Rt.ret (Ev.tuple (.cons .cstr (.cons (Ev.call (Ev.g g_tuple) .type (.cons (Ev.comp (σ1 := σ') (σ' := σ') (es := kidsD fun i => mkN k (grp i (r :: s :: t))) (tgts := [Str.ofString "nibble"]) (caps := [(Str.ofString "groups", .obj σ.length)]) (.of (capN := [Str.ofString "groups"]) rfl (by decide) (Clos.one rfl)) (EvI.range1 (Ev.g g_range) (.cons .cint .nil) (by decide) (by decide)) (.cons (by walk_at "v") .nil) hcmp (by rw [upsLen]; decide)) .nil) (CallV.tupL (by rw [kidsD_length]; decide)))
    (.cons Ev.name .nil)))))))))
end
end
section
theorem take_drop_iff {p u : Pth} (s : Nat) : u = p ↔ u.take s = p.take s /\ u.drop s = p.drop s := by
 constructor
 ·rintro rfl; exact ⟨rfl, rfl⟩
 ·rintro ⟨h1, h2⟩; rw [<- List.take_append_drop s u, h1, h2, List.take_append_drop]
theorem va_nil (p : Pth) : valueAt .nil p = [] := by cases p <;> rfl
theorem va_leaf (q : Pth) (w : List UInt8) (p : Pth) : valueAt (.leaf q w) p = if q = p then w else [] := by rw [valueAt_l]
theorem va_ext (q : Pth) (a : Nd) (p : Pth) : valueAt (.ext q a) p = if p.take q.length = q then valueAt a (p.drop q.length) else [] := by rw [valueAt_e]
theorem va_br_nil (ks : _root_.Fin 16 -> Nd) (w : List UInt8) : valueAt (.br ks w) [] = w := by rw [valueAt_b0]
theorem va_br_cons (ks : _root_.Fin 16 -> Nd) (w : List UInt8) (x : _root_.Fin 16) (r : Pth) : valueAt (.br ks w) (x :: r) = valueAt (ks x) r := by rw [valueAt_b1]
theorem va_exts (p : Pth) (a : Nd) (u : Pth) : valueAt (exts p a) u = if u.take p.length = p then valueAt a (u.drop p.length) else [] := by
 unfold exts
 split
 ·rename_i h
  have : p = [] := List.length_eq_zero_iff.mp h
  subst this; simp
 ·exact va_ext _ _ _
theorem va_ledTo (p : Pth) (a : Nd) (u : Pth) : valueAt (ledTo p a) u = if u.take p.length = p then valueAt a (u.drop p.length) else [] := by
 cases a with
 | nil => rw [ledTo, va_nil]; simp [va_nil]
 | leaf q w =>
  rw [ledTo, va_leaf]
  by_cases h : u.take p.length = p
  ·rw [if_pos h, va_leaf]
   have : (p ++ q = u) ↔ q = u.drop p.length := by
    conv => lhs; rhs; rw [<- List.take_append_drop p.length u, h]
    exact List.append_right_inj _
   simp only [this]
  ·rw [if_neg h, if_neg]
   rintro rfl; simp at h
 | ext q b =>
  rw [ledTo, va_ext]
  by_cases h : u.take p.length = p
  ·rw [if_pos h, va_ext, List.drop_drop]
   have e : u.take (p ++ q).length = p ++ (u.drop p.length).take q.length := by
    conv => lhs; rw [<- List.take_append_drop p.length u, h, List.length_append, List.take_length_add_append]
   rw [e, List.length_append]
   simp only [List.append_right_inj]
  ·rw [if_neg h, if_neg]
   intro e
   apply h
   have := congrArg (List.take p.length) e
   rw [List.take_take, List.length_append, Nat.min_eq_left (by lia)] at this
   simpa using this
 | br ks w => rw [ledTo, va_exts]
theorem va_putF {ks : _root_.Fin 16 -> Nd} {w v : List UInt8} {p : Pth} (hk : ∀ x r, p = x :: r -> ks x = .nil) (u : Pth) : valueAt (putF ks w p v) u = if u = p then v else valueAt (.br ks w) u := by
 cases p with
 | nil =>
  rw [putF]
  cases u with
  | nil => rw [va_br_nil, if_pos rfl]
  | cons y t => rw [va_br_cons, if_neg (by simp), va_br_cons]
 | cons x r =>
  rw [putF]
  cases u with
  | nil => rw [va_br_nil, if_neg (by simp), va_br_nil]
  | cons y t =>
   rw [va_br_cons, va_br_cons]
   unfold upd
   by_cases h : y = x
   ·subst h
    rw [if_pos rfl, va_leaf, hk y r rfl, va_nil]
    by_cases e : r = t
    ·subst e; simp
    ·rw [if_neg e, if_neg (by simpa using Ne.symm e)]
   ·rw [if_neg h, if_neg (by simp [h])]
theorem va_forkL (t : Pth) (w : List UInt8) (u : Pth) : valueAt (.br (forkL t w).1 (forkL t w).2) u = if u = t then w else [] := by
 cases t with
 | nil =>
  rw [forkL]
  cases u with
  | nil => rw [va_br_nil]; rfl
  | cons y t => rw [va_br_cons, if_neg (by simp)]; exact va_nil t
 | cons x r =>
  rw [forkL]
  cases u with
  | nil => rw [va_br_nil, if_neg (by simp)]
  | cons y t =>
   rw [va_br_cons]
   show valueAt (upd noKids x (.leaf r w) y) t = _
   unfold upd
   by_cases h : y = x
   ·subst h
    rw [if_pos rfl, va_leaf]
    by_cases e : r = t
    ·subst e; simp
    ·rw [if_neg e, if_neg (by simpa using Ne.symm e)]
   ·rw [if_neg h, if_neg (by simp [h])]; exact va_nil t
theorem va_forkE (x : _root_.Fin 16) (r : Pth) (a : Nd) (u : Pth) : valueAt (.br (forkE (x :: r) a) []) u = if u.take (x :: r).length = x :: r then valueAt a (u.drop (x :: r).length) else [] := by
 rw [forkE]
 cases u with
 | nil => rw [va_br_nil, if_neg (by simp)]
 | cons y t =>
  rw [va_br_cons]
  unfold upd
  by_cases h : y = x
  ·subst h
   rw [if_pos rfl, List.length_cons, List.take_succ_cons, List.drop_succ_cons]
   by_cases h0 : r.length = 0
   ·have : r = [] := List.length_eq_zero_iff.mp h0
    subst this; simp
   ·rw [if_neg h0, va_ext]; simp
  ·rw [if_neg h, if_neg (by rw [List.length_cons, List.take_succ_cons]; simp [h])]; exact va_nil t
theorem forkL_nil {q p : Pth} {w : List UInt8} : ∀ x r, p.drop (lcp q p) = x :: r -> (forkL (q.drop (lcp q p)) w).1 x = .nil := fun x r h => by
 cases hq : q.drop (lcp q p) with
 | nil => rw [forkL]; rfl
 | cons y t =>
  have hne := lcp_fork hq h
  rw [forkL]
  show upd noKids y _ x = .nil
  unfold upd
  rw [if_neg hne]; rfl
theorem forkE_nil {q p : Pth} {a : Nd} : ∀ x r, p.drop (lcp q p) = x :: r -> (forkE (q.drop (lcp q p)) a) x = .nil := fun x r h => by
 cases hq : q.drop (lcp q p) with
 | nil => rw [forkE]; rfl
 | cons y t =>
  have hne := lcp_fork hq h
  rw [forkE]
  unfold upd
  rw [if_neg hne]; rfl
theorem va_putIn (v : List UInt8) : ∀ (a : Nd) (p u : Pth), valueAt (putIn a p v) u = if u = p then v else valueAt a u
 | .nil, p, u => by
  rw [putIn_0, va_leaf, va_nil]
  by_cases h : u = p
  ·rw [if_pos h, if_pos h.symm]
  ·rw [if_neg h, if_neg (Ne.symm h)]
 | .leaf q w, p, u => by
  rw [putIn_l]
  have l1 := lcp_le_left q p
  have l2 := lcp_le_right q p
  have ht := lcp_take (p := q) (q := p) (Nat.le_refl _)
  by_cases h : lcp q p = q.length /\ lcp q p = p.length
  ·rw [if_pos h]
   have e : q = p := by
    have h1 := ht
    rw [h.1, List.take_length, <- h.1, h.2, List.take_length] at h1
    exact h1
   subst e
   rw [va_leaf, va_leaf]
   by_cases hu : u = q
   ·rw [if_pos hu.symm, if_pos hu]
   ·rw [if_neg (Ne.symm hu), if_neg hu, if_neg (Ne.symm hu)]
  ·rw [if_neg h, va_exts, List.length_take, Nat.min_eq_left l2, va_putF forkL_nil, va_forkL, va_leaf]
   have hp := take_drop_iff (p := p) (u := u) (lcp q p)
   have hq := take_drop_iff (p := q) (u := u) (lcp q p)
   rw [ht] at hq
   by_cases hu : u.take (lcp q p) = p.take (lcp q p)
   ·simp only [hu, true_and] at hp hq
    rw [if_pos hu]
    simp only [hp, eq_comm (a := q), hq]
   ·simp only [hu, false_and, iff_false] at hp hq
    rw [if_neg hu, if_neg hp, if_neg (Ne.symm hq)]
 | .ext q a, p, u => by
  rw [putIn_e]
  have l1 := lcp_le_left q p
  have l2 := lcp_le_right q p
  have ht := lcp_take (p := q) (q := p) (Nat.le_refl _)
  have hp := take_drop_iff (p := p) (u := u) (lcp q p)
  by_cases h : lcp q p = q.length
  ·rw [if_pos h, va_ext, va_putIn v a, va_ext]
   rw [h] at ht hp ⊢
   rw [List.take_length] at ht
   by_cases hu : u.take q.length = q
   ·rw [if_pos hu, if_pos hu]
    have e : u = p ↔ u.drop q.length = p.drop q.length := by rw [hp, hu, ht]; simp [<- ht]
    simp only [e]
   ·rw [if_neg hu, if_neg hu, if_neg]
    rintro rfl; exact hu ht.symm
  ·rw [if_neg h, va_exts, List.length_take, Nat.min_eq_left l2, va_putF forkE_nil, va_ext]
   cases hq : q.drop (lcp q p) with
   | nil =>
    have := congrArg List.length hq
    rw [List.length_drop] at this
    simp at this; lia
   | cons x r =>
    rw [va_forkE]
    have hqe : q = p.take (lcp q p) ++ x :: r := by rw [<- ht, <- hq, List.take_append_drop]
    have hql : q.length = lcp q p + (x :: r).length := by rw [<- hq, List.length_drop]; lia
    by_cases hu : u.take (lcp q p) = p.take (lcp q p)
    ·rw [if_pos hu, List.drop_drop]
     simp only [hu, true_and] at hp
     have e : u.take q.length = q ↔ (u.drop (lcp q p)).take (x :: r).length = x :: r := by
      have : u.take q.length = p.take (lcp q p) ++ (u.drop (lcp q p)).take (x :: r).length := by
       rw [hql, List.take_add, hu]
      rw [this]
      conv => lhs; rhs; rw [hqe]
      exact List.append_right_inj _
     rw [<- hql]
     simp only [hp, e]
    ·rw [if_neg hu]
     simp only [hu, false_and, iff_false] at hp
     rw [if_neg hp, if_neg]
     intro e
     apply hu
     have := congrArg (List.take (lcp q p)) e
     rw [List.take_take, Nat.min_eq_left l1, ht] at this
     exact this
 | .br ks w, [], u => by
  rw [putIn_b0]
  cases u with
  | nil => rw [va_br_nil, if_pos rfl]
  | cons y t => rw [va_br_cons, if_neg (by simp), va_br_cons]
 | .br ks w, x :: r, u => by
  rw [putIn_b1]
  cases u with
  | nil => rw [va_br_nil, if_neg (by simp), va_br_nil]
  | cons y t =>
   rw [va_br_cons, va_br_cons]
   unfold upd
   by_cases h : y = x
   ·subst h
    rw [if_pos rfl, va_putIn v (ks y)]
    simp
   ·rw [if_neg h, if_neg (by simp [h])]
end
section
theorem mem_living {ks : _root_.Fin 16 -> Nd} {i : _root_.Fin 16} : i ∈ living ks ↔ (ks i).isNil = false := by
 unfold living
 rw [List.mem_filter]
 simp
theorem living_nodup (ks : _root_.Fin 16 -> Nd) : (living ks).Nodup := by
 unfold living
 exact List.Nodup.sublist (List.filter_sublist) (List.nodup_finRange 16)
theorem nil_of_notin {ks : _root_.Fin 16 -> Nd} {i : _root_.Fin 16} (h : i ∉ living ks) : ks i = .nil := by
 rw [mem_living] at h
 exact isNil_eq (by simpa using h)
theorem va_settle (ks : _root_.Fin 16 -> Nd) (v : List UInt8) (u : Pth) : valueAt (settle ks v) u = valueAt (.br ks v) u := by
 unfold settle
 by_cases hv : v = []
 ·rw [if_pos hv]
  subst hv
  cases e : living ks with
  | nil =>
   dsimp only
   rw [va_nil]
   cases u with
   | nil => rw [va_br_nil]
   | cons y t => rw [va_br_cons, show ks y = .nil from nil_of_notin (by rw [e]; simp), va_nil]
  | cons x r =>
   cases r with
   | nil =>
    dsimp only
    rw [va_ledTo]
    cases u with
    | nil => rw [va_br_nil]; simp
    | cons y t =>
     rw [va_br_cons]
     by_cases h : y = x
     ·subst h; simp
     ·have hn : ks y = .nil := nil_of_notin (by rw [e]; simpa using h)
      rw [hn, va_nil, if_neg (by simpa using h)]
   | cons y r => rfl
 ·rw [if_neg hv]
  split
  ·rename_i h
   have e : living ks = [] := List.length_eq_zero_iff.mp h
   rw [va_leaf]
   cases u with
   | nil => rw [if_pos rfl, va_br_nil]
   | cons y t => rw [if_neg (by simp), va_br_cons, show ks y = .nil from nil_of_notin (by rw [e]; simp), va_nil]
  ·rfl
theorem va_takenOut : ∀ (a : Nd) (p u : Pth), valueAt (takenOut a p) u = if u = p then [] else valueAt a u
 | .nil, p, u => by rw [takenOut_0, va_nil]; simp
 | .leaf q w, p, u => by
  rw [takenOut_l]
  by_cases h : q = p
  ·subst h
   rw [if_pos rfl, va_nil, va_leaf]
   by_cases hu : u = q
   ·rw [if_pos hu]
   ·rw [if_neg hu, if_neg (Ne.symm hu)]
  ·rw [if_neg h, va_leaf]
   by_cases hu : u = p
   ·rw [if_pos hu, if_neg (fun e => h (e.trans hu))]
   ·rw [if_neg hu]
 | .ext q a, p, u => by
  rw [takenOut_e]
  by_cases h : p.take q.length = q
  ·rw [if_pos h, va_ledTo, va_takenOut a, va_ext]
   have hp := take_drop_iff (p := p) (u := u) q.length
   rw [h] at hp
   by_cases hu : u.take q.length = q
   ·rw [if_pos hu, if_pos hu]
    simp only [hu, true_and] at hp
    simp only [hp]
   ·rw [if_neg hu, if_neg hu]; simp
  ·rw [if_neg h, va_ext]
   by_cases hu : u = p
   ·rw [if_pos hu, if_neg (by rw [hu]; exact h)]
   ·rw [if_neg hu]
 | .br ks w, [], u => by
  rw [takenOut_b0, va_settle]
  cases u with
  | nil => rw [va_br_nil, if_pos rfl]
  | cons y t => rw [va_br_cons, if_neg (by simp), va_br_cons]
 | .br ks w, x :: r, u => by
  rw [takenOut_b1, va_settle]
  cases u with
  | nil => rw [va_br_nil, if_neg (by simp), va_br_nil]
  | cons y t =>
   rw [va_br_cons, va_br_cons]
   unfold upd
   by_cases h : y = x
   ·subst h
    rw [if_pos rfl, va_takenOut (ks y)]; simp
   ·rw [if_neg h, if_neg (by simp [h])]
noncomputable def Nd.isBr : Nd -> Bool
 | .br _ _ => true
 | _ => false
noncomputable def Canon : Nd -> Prop
 | .nil => True
 | .leaf _ v => v ≠ []
 | .ext p a => p ≠ [] /\ a.isBr = true /\ Canon a
 | .br ks v => (∀ i, Canon (ks i)) /\ (v ≠ [] -> ∃ i, (ks i).isNil = false) /\ (v = [] -> ∃ i j, i ≠ j /\ (ks i).isNil = false /\ (ks j).isNil = false)
theorem canon_exts {p : Pth} {a : Nd} (h : Canon a) (hb : a.isBr = true) : Canon (exts p a) := by
 unfold exts
 split
 ·exact h
 ·rename_i hp; exact ⟨fun e => hp (by rw [e]; rfl), hb, h⟩
theorem canon_ledTo {p : Pth} {a : Nd} (hp : p ≠ []) (h : Canon a) : Canon (ledTo p a) := by
 cases a with
 | nil => exact h
 | leaf q w => exact h
 | ext q b => exact ⟨by simp [hp], h.2⟩
 | br ks v => exact canon_exts h rfl
theorem canon_noKids (i : _root_.Fin 16) : Canon (noKids i) := trivial
theorem upd_at {ks : _root_.Fin 16 -> Nd} {i : _root_.Fin 16} {x : Nd} : upd ks i x i = x := by unfold upd; rw [if_pos rfl]
theorem upd_ne {ks : _root_.Fin 16 -> Nd} {i j : _root_.Fin 16} {x : Nd} (h : j ≠ i) : upd ks i x j = ks j := by unfold upd; rw [if_neg h]
theorem canon_upd {ks : _root_.Fin 16 -> Nd} {i : _root_.Fin 16} {x : Nd} (h : ∀ i, Canon (ks i)) (hx : Canon x) : ∀ j, Canon (upd ks i x j) := fun j => by
 by_cases e : j = i
 ·rw [e, upd_at]; exact hx
 ·rw [upd_ne e]; exact h j
theorem isNil_upd {ks : _root_.Fin 16 -> Nd} {i j : _root_.Fin 16} {x : Nd} (hx : x.isNil = false) (h : (ks j).isNil = false) : (upd ks i x j).isNil = false := by
 by_cases e : j = i
 ·rw [e, upd_at]; exact hx
 ·rw [upd_ne e]; exact h
theorem putIn_some {a : Nd} {p : Pth} {v : List UInt8} : (putIn a p v).isNil = false := by
 have hx : ∀ {p : Pth} {b : Nd}, b.isNil = false -> (exts p b).isNil = false := fun {p b} h => by unfold exts; split; exact h; rfl
 have hf : ∀ {ks : _root_.Fin 16 -> Nd} {w : List UInt8} {p : Pth}, (putF ks w p v).isNil = false := fun {ks w p} => by cases p <;> rfl
 cases a with
 | nil => rfl
 | leaf q w =>
  rw [putIn_l]
  split
  ·rfl
  ·exact hx hf
 | ext q b =>
  rw [putIn_e]
  split
  ·rfl
  ·exact hx hf
 | br ks w => cases p <;> rfl
theorem putF_br {ks : _root_.Fin 16 -> Nd} {w v : List UInt8} {p : Pth} : (putF ks w p v).isBr = true := by cases p <;> rfl
theorem canon_putIn {v : List UInt8} (hv : v ≠ []) : ∀ {a : Nd} {p : Pth}, Canon a -> Canon (putIn a p v)
 | .nil, p, _ => hv
 | .leaf q w, p, h => by
  rw [putIn_l]
  split
  ·exact hv
  ·rename_i hne
   refine canon_exts ?_ putF_br
   have hw : w ≠ [] := h
   have l1 := lcp_le_left q p
   have l2 := lcp_le_right q p
   cases hq : q.drop (lcp q p) with
   | nil =>
    have e1 := congrArg List.length hq
    rw [List.length_drop] at e1
    rw [forkL]
    cases hp : p.drop (lcp q p) with
    | nil =>
     have e2 := congrArg List.length hp
     rw [List.length_drop] at e2
     simp at e1 e2
     exact absurd ⟨by lia, by lia⟩ hne
    | cons x r =>
     rw [putF]
     exact ⟨canon_upd canon_noKids (x := .leaf r v) hv, fun Z => ⟨x, by rw [upd_at]; rfl⟩, fun e => absurd e hw⟩
   | cons y t =>
    rw [forkL]
    cases hp : p.drop (lcp q p) with
    | nil =>
     rw [putF]
     exact ⟨canon_upd canon_noKids (x := .leaf t w) hw, fun Z => ⟨y, by show (upd noKids y _ y).isNil = false; rw [upd_at]; rfl⟩, fun e => absurd e hv⟩
    | cons x r =>
     have hxy := lcp_fork hq hp
     rw [putF]
     exact ⟨canon_upd (canon_upd canon_noKids (x := .leaf t w) hw) (x := .leaf r v) hv, fun e => absurd rfl e, fun Z => ⟨x, y, hxy, by rw [upd_at]; rfl, by rw [upd_ne (Ne.symm hxy)]; show (upd noKids y _ y).isNil = false; rw [upd_at]; rfl⟩⟩
 | .ext q a, p, h => by
  refine x0_3 h fun h1 h2 h3 => ?_; clear h
  rw [putIn_e]
  split
  ·refine ⟨h1, ?_, canon_putIn hv h3⟩
   cases a with
   | br ks w => cases (p.drop (lcp q p)) <;> rfl
   | nil => cases h2
   | leaf _ _ => cases h2
   | ext _ _ => cases h2
  ·rename_i hne
   refine canon_exts ?_ putF_br
   have l1 := lcp_le_left q p
   cases hq : q.drop (lcp q p) with
   | nil =>
    have e1 := congrArg List.length hq
    rw [List.length_drop] at e1
    simp at e1; lia
   | cons y t =>
    rw [forkE]
    have hk : Canon (if t.length = 0 then a else .ext t a) := by
     split
     ·exact h3
     ·rename_i ht; exact ⟨fun e => ht (by rw [e]; rfl), h2, h3⟩
    have hkn : (if t.length = 0 then a else Nd.ext t a).isNil = false := by
     split
     ·cases a with
      | br ks w => rfl
      | nil => cases h2
      | leaf _ _ => cases h2
      | ext _ _ => cases h2
     ·rfl
    cases hp : p.drop (lcp q p) with
    | nil =>
     rw [putF]
     exact ⟨canon_upd canon_noKids hk, fun Z => ⟨y, by rw [upd_at]; exact hkn⟩, fun e => absurd e hv⟩
    | cons x r =>
     have hxy := lcp_fork hq hp
     rw [putF]
     exact ⟨canon_upd (canon_upd canon_noKids hk) (x := .leaf r v) hv, fun e => absurd rfl e, fun Z => ⟨x, y, hxy, by rw [upd_at]; rfl, by rw [upd_ne (Ne.symm hxy), upd_at]; exact hkn⟩⟩
 | .br ks w, [], h => by
  refine x0_3 h fun h1 h2 h3 => ?_; clear h
  rw [putIn_b0]
  refine ⟨h1, fun Z => ?_, fun e => absurd e hv⟩
  by_cases hw : w = []
  ·refine x2_3 (h3 hw) fun i j Z hi Z => ?_
   exact ⟨i, hi⟩
  ·exact h2 hw
 | .br ks w, x :: r, h => by
  refine x0_3 h fun h1 h2 h3 => ?_; clear h
  rw [putIn_b1]
  refine ⟨canon_upd h1 (canon_putIn hv (h1 x)), fun Z => ⟨x, by rw [upd_at]; exact putIn_some⟩, fun e => ?_⟩
  refine x2_3 (h3 e) fun i j hij hi hj => ?_
  exact ⟨i, j, hij, isNil_upd putIn_some hi, isNil_upd putIn_some hj⟩
theorem canon_settle {ks : _root_.Fin 16 -> Nd} {v : List UInt8} (h : ∀ i, Canon (ks i)) : Canon (settle ks v) := by
 unfold settle
 have hn := living_nodup ks
 by_cases hv : v = []
 ·rw [if_pos hv]
  cases e : living ks with
  | nil => exact trivial
  | cons x r =>
   cases r with
   | nil => exact canon_ledTo (by simp) (h x)
   | cons y r =>
    rw [e] at hn
    refine ⟨h, fun q => absurd hv q, fun Z => ⟨x, y, ?_, mem_living.mp (by rw [e]; simp), mem_living.mp (by rw [e]; simp)⟩⟩
    rintro rfl
    simp at hn
 ·rw [if_neg hv]
  split
  ·exact hv
  ·rename_i hl
   cases e : living ks with
   | nil => rw [e] at hl; exact absurd rfl hl
   | cons x r => exact ⟨h, fun Z => ⟨x, mem_living.mp (by rw [e]; simp)⟩, fun q => absurd q hv⟩
theorem canon_takenOut : ∀ {a : Nd} {p : Pth}, Canon a -> Canon (takenOut a p)
 | .nil, p, h => h
 | .leaf q w, p, h => by
  rw [takenOut_l]
  split
  ·exact trivial
  ·exact h
 | .ext q a, p, h => by
  rw [takenOut_e]
  split
  ·exact canon_ledTo h.1 (canon_takenOut h.2.2)
  ·exact h
 | .br ks w, [], h => by rw [takenOut_b0]; exact canon_settle h.1
 | .br ks w, x :: r, h => by rw [takenOut_b1]; exact canon_settle (canon_upd h.1 (canon_takenOut (h.1 x)))
end
section
theorem has_some : ∀ {a : Nd}, Canon a -> a.isNil = false -> ∃ u, valueAt a u ≠ []
 | .nil, _, h => by cases h
 | .leaf p v, h, _ => ⟨p, by rw [va_leaf, if_pos rfl]; exact h⟩
 | .ext p a, h, _ => by
  have hn : a.isNil = false := by
   have := h.2.1
   cases a <;> first | rfl | cases this
  refine x1_1 (has_some h.2.2 hn) fun u hu => ?_
  exact ⟨p ++ u, by rw [va_ext]; simpa using hu⟩
 | .br ks v, h, _ => by
  by_cases hv : v = []
  ·refine x2_3 (h.2.2 hv) fun i j Z hi Z => ?_
   refine x1_1 (has_some (h.1 i) hi) fun u hu => ?_
   exact ⟨i :: u, by rw [va_br_cons]; exact hu⟩
  ·exact ⟨[], by rw [va_br_nil]; exact hv⟩
theorem br_no {ks : _root_.Fin 16 -> Nd} {v : List UInt8} (h : Canon (.br ks v)) (x : _root_.Fin 16) : ∃ u, valueAt (.br ks v) u ≠ [] /\ ∀ t, u ≠ x :: t := by
 by_cases hv : v = []
 ·refine x2_3 (h.2.2 hv) fun i j hij hi hj => ?_
  by_cases hx : i = x
  ·refine x1_1 (has_some (h.1 j) hj) fun u hu => ?_
   exact ⟨j :: u, by rw [va_br_cons]; exact hu, fun t e => by injection e with e; exact hij (hx.trans e.symm)⟩
  ·refine x1_1 (has_some (h.1 i) hi) fun u hu => ?_
   exact ⟨i :: u, by rw [va_br_cons]; exact hu, fun t e => by injection e with e; exact hx e⟩
 ·exact ⟨[], by rw [va_br_nil]; exact hv, fun t e => by cases e⟩
theorem br_two {ks : _root_.Fin 16 -> Nd} {v : List UInt8} (h : Canon (.br ks v)) : ∃ u w, u ≠ w /\ valueAt (.br ks v) u ≠ [] /\ valueAt (.br ks v) w ≠ [] := by
 refine x1_1 (has_some h rfl) fun u hu => ?_
 cases u with
 | cons x t =>
  refine x1_2 (br_no h x) fun w hw hn => ?_
  exact ⟨_, w, fun e => hn t e.symm, hu, hw⟩
 | nil =>
  rw [va_br_nil] at hu
  refine x1_1 (h.2.1 hu) fun i hi => ?_
  obtain ⟨w, hw⟩ := has_some (h.1 i) hi
  exact ⟨[], i :: w, by simp, by rw [va_br_nil]; exact hu, by rw [va_br_cons]; exact hw⟩
theorem ext_pre {p : Pth} {a : Nd} {u : Pth} (h : valueAt (.ext p a) u ≠ []) : ∃ t, u = p ++ t /\ valueAt a t ≠ [] := by
 rw [va_ext] at h
 split at h
 ·rename_i e
  exact ⟨u.drop p.length, by conv => lhs; rw [<- List.take_append_drop p.length u, e], h⟩
 ·exact absurd rfl h
theorem ext_at {p : Pth} {a : Nd} {u : Pth} : valueAt (.ext p a) (p ++ u) = valueAt a u := by rw [va_ext]; simp
theorem ext_two {p : Pth} {a : Nd} (h : Canon (.ext p a)) : ∃ u w, u ≠ w /\ valueAt (.ext p a) u ≠ [] /\ valueAt (.ext p a) w ≠ [] := by
 refine x0_3 h fun Z h2 h3 => ?_; clear h
 cases a with
 | br ks v =>
  refine x2_3 (br_two h3) fun u w hne hu hw => ?_
  exact ⟨p ++ u, p ++ w, fun e => hne (List.append_cancel_left e), by rw [ext_at]; exact hu, by rw [ext_at]; exact hw⟩
 | nil => cases h2
 | leaf _ _ => cases h2
 | ext _ _ => cases h2
theorem leaf_one {p : Pth} {v : List UInt8} {u : Pth} (h : valueAt (.leaf p v) u ≠ []) : u = p := by
 rw [va_leaf] at h
 split at h
 ·rename_i e; exact e.symm
 ·exact absurd rfl h
theorem not_leaf {p : Pth} {v : List UInt8} {b : Nd} (h : ∀ u, valueAt (.leaf p v) u = valueAt b u) (ht : ∃ u w, u ≠ w /\ valueAt b u ≠ [] /\ valueAt b w ≠ []) : False := by
 refine x2_3 ht fun u w hne hu hw => ?_; clear ht
 rw [<- h] at hu hw
 exact hne ((leaf_one hu).trans (leaf_one hw).symm)
theorem ext_no_br {p : Pth} {a : Nd} {ks : _root_.Fin 16 -> Nd} {v : List UInt8} (hp : p ≠ []) (hb : Canon (.br ks v)) (h : ∀ u, valueAt (.ext p a) u = valueAt (.br ks v) u) : False := by
 cases p with
 | nil => exact hp rfl
 | cons x p =>
  refine x1_2 (br_no hb x) fun u hu hn => ?_
  rw [<- h] at hu
  refine x1_2 (ext_pre hu) fun t Q Z => ?_; subst Q
  exact hn _ rfl
theorem ext_len {p q : Pth} {a b : Nd} (ha : Canon (.ext p a)) (hb : Canon (.ext q b)) (h : ∀ u, valueAt (.ext p a) u = valueAt (.ext q b) u) (hl : p.length <= q.length) : p = q := by
 refine x1_1 (has_some ha rfl) fun u hu => ?_
 refine x1_2 (ext_pre hu) fun t Q ht => ?_; subst Q
 have hq := hu
 rw [h] at hq
 refine x1_2 (ext_pre hq) fun s es hs => ?_
 have e1 : q.take p.length = p := by
  have := congrArg (List.take p.length) es
  rw [List.take_append_of_le_length (Nat.le_refl _), List.take_length, List.take_append_of_le_length hl] at this
  exact this.symm
 have e2 : q = p ++ q.drop p.length := by conv => lhs; rw [<- List.take_append_drop p.length q, e1]
 cases hd : q.drop p.length with
 | nil => rw [hd, List.append_nil] at e2; exact e2.symm
 | cons x r =>
  exfalso
  rw [hd] at e2
  refine x0_3 ha fun Z hb2 hb3 => ?_; clear ha
  cases a with
  | br ks v =>
   refine x1_2 (br_no hb3 x) fun w hw hn => ?_
   have : valueAt (.ext q b) (p ++ w) ≠ [] := by rw [<- h, ext_at]; exact hw
   refine x1_2 (ext_pre this) fun z ez Z => ?_
   rw [e2, List.append_assoc] at ez
   exact hn _ (List.append_cancel_left ez)
  | nil => cases hb2
  | leaf _ _ => cases hb2
  | ext _ _ => cases hb2
theorem canon_uniq : ∀ {a b : Nd}, Canon a -> Canon b -> (∀ u, valueAt a u = valueAt b u) -> a = b
 | .nil, b, _, hb, h => by
  cases hn : b.isNil with
  | true => exact (isNil_eq hn).symm
  | false =>
   refine x1_1 (has_some hb hn) fun u hu => ?_
   exact absurd ((h u).symm.trans (va_nil u)) hu
 | .leaf p v, .nil, ha, _, h => by have := h p; rw [va_leaf, if_pos rfl, va_nil] at this; exact absurd this ha
 | .ext p a, .nil, ha, _, h => by
  refine x1_1 (has_some ha rfl) fun u hu => ?_
  exact absurd ((h u).trans (va_nil u)) hu
 | .br ks v, .nil, ha, _, h => by
  refine x1_1 (has_some ha rfl) fun u hu => ?_
  exact absurd ((h u).trans (va_nil u)) hu
 | .leaf p v, .leaf q w, ha, hb, h => by
  have := h p
  rw [va_leaf, if_pos rfl, va_leaf] at this
  split at this
  ·rename_i e; rw [e, this]
  ·exact absurd this ha
 | .leaf p v, .ext q b, _, hb, h => (not_leaf h (ext_two hb)).elim
 | .leaf p v, .br ks w, _, hb, h => (not_leaf h (br_two hb)).elim
 | .ext p a, .leaf q w, ha, _, h => (not_leaf (fun u => (h u).symm) (ext_two ha)).elim
 | .br ks v, .leaf q w, ha, _, h => (not_leaf (fun u => (h u).symm) (br_two ha)).elim
 | .ext p a, .ext q b, ha, hb, h => by
  have e : p = q := by
   rcases Nat.le_total p.length q.length with hl | hl
   ·exact ext_len ha hb h hl
   ·exact (ext_len hb ha (fun u => (h u).symm) hl).symm
  subst e
  rw [canon_uniq ha.2.2 hb.2.2 fun u => by have := h (p ++ u); rwa [ext_at, ext_at] at this]
 | .ext p a, .br ks v, ha, hb, h => (ext_no_br ha.1 hb h).elim
 | .br ks v, .ext p a, ha, hb, h => (ext_no_br hb.1 ha fun u => (h u).symm).elim
 | .br ks v, .br js w, ha, hb, h => by
  have ev : v = w := by have := h []; rwa [va_br_nil, va_br_nil] at this
  have ek : ks = js := funext fun i => canon_uniq (ha.1 i) (hb.1 i) fun u => by have := h (i :: u); rwa [va_br_cons, va_br_cons] at this
  rw [ev, ek]
noncomputable def Holds (a : Nd) (rs : List Row) : Prop := (∀ r ∈ rs, valueAt a r.1 = r.2) /\ ∀ u, (∀ r ∈ rs, r.1 ≠ u) -> valueAt a u = []
theorem Holds.ext {a b : Nd} {rs : List Row} (ha : Holds a rs) (hb : Holds b rs) : ∀ u, valueAt a u = valueAt b u := fun u => by
 by_cases h : ∃ r ∈ rs, r.1 = u
 ·refine x1_2 h fun r hr Q => ?_; clear h; subst Q
  rw [ha.1 r hr, hb.1 r hr]
 ·have h' : ∀ r ∈ rs, r.1 ≠ u := fun r hr e => h ⟨r, hr, e⟩
  rw [ha.2 u h', hb.2 u h']
theorem Holds.perm {a : Nd} {rs ts : List Row} (h : Holds a rs) (p : ∀ r, r ∈ rs ↔ r ∈ ts) : Holds a ts :=
 ⟨fun r hr => h.1 r ((p r).mpr hr), fun u hu => h.2 u fun r hr => hu r ((p r).mp hr)⟩
theorem asc_nil_first {r : Row} {t : List Row} (h : Asc (r :: t)) : ∀ x ∈ t, x.1 ≠ [] := fun x hx e => by
 have := (List.pairwise_cons.mp h).1 x hx
 rw [e] at this
 cases hr : r.1 with
 | nil => rw [hr, plt_nn] at this; cases this
 | cons _ _ => rw [hr, plt_cn] at this; cases this
theorem held_no : ∀ {t : List Row} {h : List UInt8}, (∀ x ∈ t, x.1 ≠ []) -> t.foldl (fun h r => if r.1 = [] then r.2 else h) h = h
 | [], _, _ => rfl
 | x :: t, h, hx => by rw [List.foldl_cons, if_neg (hx x (.head _))]; exact held_no fun y hy => hx y (.tail _ hy)
theorem held_eq {r : Row} {t : List Row} (h : Asc (r :: t)) : heldR (r :: t) = if r.1 = [] then r.2 else [] := by
 unfold heldR
 rw [List.foldl_cons, held_no (asc_nil_first h)]
theorem mem_drop {a : Nat} {s : Pth} {rs : List Row} (hs : ∀ x ∈ rs, x.1.take a = s) {r : Row} : r ∈ dropR a rs ↔ (s ++ r.1, r.2) ∈ rs := by
 unfold dropR
 rw [List.mem_map]
 constructor
 ·rintro ⟨x, hx, rfl⟩
  rw [<- hs x hx, List.take_append_drop]; exact hx
 ·intro h
  have e := hs _ h
  refine ⟨_, h, ?_⟩
  dsimp only at e ⊢
  have hl : r.1 = (s ++ r.1).drop a := by
   have := List.take_append_drop a (s ++ r.1)
   rw [e] at this
   exact (List.append_cancel_left this).symm
  rw [<- hl]
theorem two_len {r s : Row} {t : List Row} (ha : Asc (r :: s :: t)) (hk : ∀ x ∈ r :: s :: t, x.1.length <= 0) : False := by
 have h1 : r.1 = [] := List.length_eq_zero_iff.mp (Nat.le_zero.mp (hk r (.head _)))
 have h2 : s.1 = [] := List.length_eq_zero_iff.mp (Nat.le_zero.mp (hk s (.tail _ (.head _))))
 have := (List.pairwise_cons.mp ha).1 s (.head _)
 rw [h1, h2, plt_nn] at this
 cases this
theorem mkN_holds : ∀ (k : Nat) (rows : List Row), Asc rows -> (∀ r ∈ rows, r.1.length <= k) -> Holds (mkN k rows) rows
 | k, [], _, _ => by rw [mkN_nil]; exact ⟨(fun r h => nomatch h), (fun u Z => va_nil u)⟩
 | k, [r], _, _ => by
  rw [mkN_one]
  refine ⟨fun x hx => ?_, fun u hu => ?_⟩
  ·rw [List.mem_singleton] at hx; subst hx; rw [va_leaf, if_pos rfl]
  ·rw [va_leaf, if_neg (hu r (.head _))]
 | 0, r :: s :: t, ha, hk => (two_len ha hk).elim
 | k + 1, r :: s :: t, ha, hk => by
  have hshare := asc_share ha
  rw [mkN_more]
  generalize lcp r.1 (lastR r (s :: t)).1 = a at hshare
  by_cases h0 : 0 < a
  ·rw [if_pos h0]
   have hs : ∀ x ∈ r :: s :: t, x.1.take a = r.1.take a := fun x hx => (hshare x hx).2
   have hrl := (hshare r (.head _)).1
   have hlen : (r.1.take a).length = a := by rw [List.length_take]; lia
   refine x0_2 (mkN_holds k (dropR a (r :: s :: t)) (asc_drop ha hs) (len_drop h0 hk)) fun i1 i2 => ?_
   refine ⟨fun x hx => ?_, fun u hu => ?_⟩
   ·rw [va_ext, hlen, if_pos (hs x hx)]
    exact i1 (x.1.drop a, x.2) (List.mem_map_of_mem hx)
   ·rw [va_ext, hlen]
    split
    ·rename_i e
     refine i2 _ fun y hy e2 => ?_
     have := (mem_drop hs).mp hy
     refine hu _ this ?_
     dsimp only
     rw [e2, <- e, List.take_append_drop]
    ·rfl
  ·rw [if_neg h0]
   have ih := fun i => mkN_holds k (grp i (r :: s :: t)) (asc_grp ha) (len_grp hk)
   refine ⟨fun x hx => ?_, fun u hu => ?_⟩
   ·cases hp : x.1 with
    | nil =>
     rw [va_br_nil, held_eq ha]
     rcases List.mem_cons.mp hx with rfl | hx
     ·rw [if_pos hp]
     ·exact absurd hp (asc_nil_first ha x hx)
    | cons i w =>
     rw [va_br_cons]
     exact (ih i).1 (w, x.2) (mem_grp.mpr (by rw [<- hp]; exact hx))
   ·cases u with
    | nil => rw [va_br_nil, held_eq ha, if_neg (hu r (.head _))]
    | cons i w =>
     rw [va_br_cons]
     exact (ih i).2 w fun y hy e => hu _ (mem_grp.mp hy) (by rw [<- e])
theorem lcp_rest : ∀ {p q : Pth}, lcp (p.drop (lcp p q)) (q.drop (lcp p q)) = 0
 | [], q => by simp [lcpE]
 | x :: p, [] => by simp [lcpE]
 | x :: p, y :: q => by
  by_cases h : x = y
  ·subst h; simp only [lcp_c, if_true, List.drop_succ_cons]; exact lcp_rest
  ·simp only [lcp_c, if_neg h, List.drop_zero]
theorem last_drop {a : Nat} (r : Row) (t : List Row) : lastR (r.1.drop a, r.2) (dropR a t) = ((lastR r t).1.drop a, (lastR r t).2) := by
 have h1 : (r.1.drop a, r.2) :: dropR a t = (r :: t).map fun x => (x.1.drop a, x.2) := rfl
 unfold lastR
 simp only [h1]
 rw [List.getLast_map]
theorem mkN_some {k : Nat} {rows : List Row} {r : Row} (ha : Asc rows) (hk : ∀ r ∈ rows, r.1.length <= k) (hr : r ∈ rows) (hv : r.2 ≠ []) : (mkN k rows).isNil = false := by
 have := (mkN_holds k rows ha hk).1 r hr
 cases hn : (mkN k rows).isNil with
 | false => rfl
 | true => rw [isNil_eq hn, va_nil] at this; exact absurd this.symm hv
theorem lcp_zero_cons {x y : _root_.Fin 16} {p q : Pth} (h : ¬ 0 < lcp (x :: p) (y :: q)) : x ≠ y := fun e => h (by rw [lcp_c, if_pos e]; lia)
theorem mkN_canon : ∀ (k : Nat) (rows : List Row), Asc rows -> (∀ r ∈ rows, r.1.length <= k) -> (∀ r ∈ rows, r.2 ≠ []) -> Canon (mkN k rows)
 | k, [], _, _, _ => by rw [mkN_nil]; trivial
 | k, [r], _, _, hv => by rw [mkN_one]; exact hv r (.head _)
 | 0, r :: s :: t, ha, hk, _ => (two_len ha hk).elim
 | k + 1, r :: s :: t, ha, hk, hv => by
  have hshare := asc_share ha
  have hrest : lcp (r.1.drop (lcp r.1 (lastR r (s :: t)).1)) ((lastR r (s :: t)).1.drop (lcp r.1 (lastR r (s :: t)).1)) = 0 := lcp_rest
  have hlt := asc_last ha
  have hlm := last_mem r (s :: t)
  rw [mkN_more]
  generalize hae : lcp r.1 (lastR r (s :: t)).1 = a at hshare hrest
  by_cases h0 : 0 < a
  ·rw [if_pos h0]
   have hs : ∀ x ∈ r :: s :: t, x.1.take a = r.1.take a := fun x hx => (hshare x hx).2
   have hrl := (hshare r (.head _)).1
   have hd := asc_drop ha hs
   have hl := len_drop h0 hk
   refine ⟨fun e => ?_, ?_, mkN_canon k _ hd hl fun y hy => hv (r.1.take a ++ y.1, y.2) ((mem_drop hs).mp hy)⟩
   ·have := congrArg List.length e
    rw [List.length_take, List.length_nil] at this
    lia
   ·have e : dropR a (r :: s :: t) = (r.1.drop a, r.2) :: (s.1.drop a, s.2) :: dropR a t := rfl
    rw [e] at hd hl ⊢
    cases k with
    | zero => exact (two_len hd hl).elim
    | succ k =>
     rw [mkN_more]
     have e2 : lastR (r.1.drop a, r.2) ((s.1.drop a, s.2) :: dropR a t) = ((lastR r (s :: t)).1.drop a, (lastR r (s :: t)).2) := last_drop r (s :: t)
     rw [e2, hrest, if_neg (Nat.lt_irrefl 0)]; rfl
  ·rw [if_neg h0]
   have some : ∀ {x : Row} {i : _root_.Fin 16} {w : Pth}, x ∈ r :: s :: t -> x.1 = i :: w -> (mkN k (grp i (r :: s :: t))).isNil = false := fun {x i w} hx e =>
    mkN_some (r := (w, x.2)) (asc_grp ha) (len_grp hk) (mem_grp.mpr (by rw [<- e]; exact hx)) (hv x hx)
   have hlast : ∃ y w, (lastR r (s :: t)).1 = y :: w := by
    cases e : (lastR r (s :: t)).1 with
    | cons y w => exact ⟨y, w, rfl⟩
    | nil =>
     rw [e] at hlt
     cases hr : r.1 with
     | nil => rw [hr, plt_nn] at hlt; cases hlt
     | cons _ _ => rw [hr, plt_cn] at hlt; cases hlt
   refine x2_1 hlast fun y w ey => ?_; clear hlast
   refine ⟨fun i => mkN_canon k _ (asc_grp ha) (len_grp hk) fun x hx => hv (i :: x.1, x.2) (mem_grp.mp hx), fun Z => ⟨y, some hlm ey⟩, fun hnil => ?_⟩
   cases hr : r.1 with
   | nil =>
    rw [held_eq ha, if_pos hr] at hnil
    exact absurd hnil (hv r (.head _))
   | cons x u =>
    have hxy : x ≠ y := lcp_zero_cons (p := u) (q := w) (by rw [<- hr, <- ey, hae]; exact h0)
    exact ⟨x, y, hxy, some (.head _) hr, some hlm ey⟩
theorem node_uniq {a : Nd} {rs : List Row} {k : Nat} (hc : Canon a) (hh : Holds a rs) (ha : Asc rs) (hk : ∀ r ∈ rs, r.1.length <= k) (hv : ∀ r ∈ rs, r.2 ≠ []) : a = mkN k rs :=
 canon_uniq hc (mkN_canon k rs ha hk hv) (hh.ext (mkN_holds k rs ha hk))
end
section
theorem asc_ext : ∀ {l m : List Row}, Asc l -> Asc m -> (∀ r, r ∈ l ↔ r ∈ m) -> l = m
 | [], [], _, _, _ => rfl
 | [], y :: m, _, _, h => by have := (h y).mpr (.head _); cases this
 | x :: l, [], _, _, h => by have := (h x).mp (.head _); cases this
 | x :: l, y :: m, hl, hm, h => by
  unfold Asc at hl hm
  rw [List.pairwise_cons] at hl hm
  have irr : ∀ {r : Row}, plt r.1 r.1 = true -> False := fun {r} q => by rw [plt_irrefl] at q; cases q
  have exy : x = y := by
   rcases List.mem_cons.mp ((h x).mp (.head _)) with e | hx
   ·exact e
   ·rcases List.mem_cons.mp ((h y).mpr (.head _)) with e | hy
    ·exact e.symm
    ·exact (irr (plt_trans (hl.1 y hy) (hm.1 x hx))).elim
  subst exy
  congr 1
  refine asc_ext hl.2 hm.2 fun r => ⟨fun hr => ?_, fun hr => ?_⟩
  ·rcases List.mem_cons.mp ((h r).mp (.tail _ hr)) with e | hr'
   ·subst e; exact (irr (hl.1 r hr)).elim
   ·exact hr'
  ·rcases List.mem_cons.mp ((h r).mpr (.tail _ hr)) with e | hr'
   ·subst e; exact (irr (hm.1 r hr)).elim
   ·exact hr'
theorem fin_asc : (List.finRange 16).Pairwise fun a b => a < b := List.pairwise_lt_finRange 16
theorem rows_split {r : Row} {t : List Row} (ha : Asc (r :: t)) (hv : ∀ x ∈ r :: t, x.2 ≠ []) :
  r :: t = (if heldR (r :: t) = [] then [] else [([], heldR (r :: t))]) ++ (List.finRange 16).flatMap fun i => (grp i (r :: t)).map fun x => (i :: x.1, x.2) := by
 have hm : ∀ x : Row, x ∈ ((List.finRange 16).flatMap fun i => (grp i (r :: t)).map fun x => ((i :: x.1, x.2) : Row)) ↔ x ∈ r :: t /\ x.1 ≠ [] := fun x => by
  rw [List.mem_flatMap]
  constructor
  ·rintro ⟨i, _, hx⟩
   refine x1_2 (List.mem_map.mp hx) fun y hy Q => ?_; subst Q
   exact ⟨mem_grp.mp hy, by simp⟩
  ·rintro ⟨hx, hne⟩
   obtain ⟨p, v⟩ := x
   cases p with
   | nil => exact absurd rfl hne
   | cons i w => exact ⟨i, List.mem_finRange i, List.mem_map.mpr ⟨(w, v), mem_grp.mpr hx, rfl⟩⟩
 have hasc : Asc ((List.finRange 16).flatMap fun i => (grp i (r :: t)).map fun x => ((i :: x.1, x.2) : Row)) := by
  unfold Asc
  rw [List.pairwise_flatMap]
  refine ⟨fun i Z => ?_, fin_asc.imp fun {a b} hab x hx y hy => ?_⟩
  ·rw [List.pairwise_map]
   exact List.Pairwise.imp (fun {x y} h => by dsimp only; rw [plt_cc, if_pos rfl]; exact h) (asc_grp (i := i) ha)
  ·refine x1_2 (List.mem_map.mp hx) fun x' Z Q => ?_; subst Q
   refine x1_2 (List.mem_map.mp hy) fun y' Z Q => ?_; subst Q
   dsimp only
   rw [plt_cc, if_neg (Fin.ne_of_lt hab), decide_eq_true_eq]; exact hab
 refine asc_ext ha ?_ fun x => ?_
 ·unfold Asc
  rw [List.pairwise_append]
  refine ⟨by split <;> simp, hasc, fun x hx y hy => ?_⟩
  split at hx
  ·cases hx
  ·rw [List.mem_singleton] at hx
   subst hx
   have := ((hm y).mp hy).2
   cases hy1 : y.1 with
   | nil => exact absurd hy1 this
   | cons _ _ => rfl
 ·rw [List.mem_append, hm, held_eq ha]
  constructor
  ·intro hx
   by_cases hp : x.1 = []
   ·left
    rcases List.mem_cons.mp hx with rfl | hx'
    ·rw [if_pos hp, if_neg (hv x hx), List.mem_singleton]
     rw [<- hp]
    ·exact absurd hp (asc_nil_first ha x hx')
   ·exact .inr ⟨hx, hp⟩
  ·rintro (hx | hx)
   ·by_cases hp : r.1 = []
    ·rw [if_pos hp, if_neg (hv r (.head _)), List.mem_singleton] at hx
     rw [hx, <- hp]; exact .head _
    ·rw [if_neg hp, if_pos rfl] at hx; cases hx
   ·exact hx.1
theorem items_mkN : ∀ (k : Nat) (rows : List Row) (q : Pth), Asc rows -> (∀ r ∈ rows, r.1.length <= k) -> (∀ r ∈ rows, r.2 ≠ []) -> itemsN (mkN k rows) q = rows.map fun r => (q ++ r.1, r.2)
 | k, [], q, _, _, _ => by rw [mkN_nil, itemsN_0]; rfl
 | k, [r], q, _, _, _ => by rw [mkN_one, itemsN_l]; rfl
 | 0, r :: s :: t, q, ha, hk, _ => (two_len ha hk).elim
 | k + 1, r :: s :: t, q, ha, hk, hv => by
  have hshare := asc_share ha
  rw [mkN_more]
  generalize lcp r.1 (lastR r (s :: t)).1 = a at hshare
  by_cases h0 : 0 < a
  ·rw [if_pos h0, itemsN_e]
   have hs : ∀ x ∈ r :: s :: t, x.1.take a = r.1.take a := fun x hx => (hshare x hx).2
   rw [items_mkN k (dropR a (r :: s :: t)) _ (asc_drop ha hs) (len_drop h0 hk) fun y hy => hv (r.1.take a ++ y.1, y.2) ((mem_drop hs).mp hy)]
   unfold dropR
   rw [List.map_map]
   refine List.map_congr_left fun x hx => ?_
   show (q ++ r.1.take a ++ x.1.drop a, x.2) = (q ++ x.1, x.2)
   rw [<- hs x hx, List.append_assoc, List.take_append_drop]
  ·rw [if_neg h0, itemsN_b]
   have ih := fun i => items_mkN k (grp i (r :: s :: t)) (q ++ [i]) (asc_grp ha) (len_grp hk) fun x hx => hv (i :: x.1, x.2) (mem_grp.mp hx)
   have e := rows_split ha hv
   conv => rhs; rw [e, List.map_append, List.map_flatMap]
   congr 1
   ·split
    ·rfl
    ·simp
   ·refine congrArg (fun f => List.flatMap f (List.finRange 16)) (funext fun i => ?_)
    rw [ih i, List.map_map]
    refine List.map_congr_left fun x Z => ?_
    simp
theorem fit_mkN : ∀ (k m : Nat) (rows : List Row), Asc rows -> (∀ r ∈ rows, r.1.length <= k) -> (∀ r ∈ rows, r.1.length <= m) -> (∀ r ∈ rows, r.2.length <= 100) -> fit (mkN k rows) m
 | k, m, [], _, _, _, _ => by rw [mkN_nil, fit_0]; trivial
 | k, m, [r], _, _, hm, hv => by rw [mkN_one, fit_l]; exact ⟨hm r (.head _), hv r (.head _)⟩
 | 0, m, r :: s :: t, ha, hk, _, _ => (two_len ha hk).elim
 | k + 1, m, r :: s :: t, ha, hk, hm, hv => by
  have hshare := asc_share ha
  rw [mkN_more]
  generalize lcp r.1 (lastR r (s :: t)).1 = a at hshare
  have hs : ∀ x ∈ r :: s :: t, x.1.take a = r.1.take a := fun x hx => (hshare x hx).2
  have hrl := (hshare r (.head _)).1
  have hrm := hm r (.head _)
  by_cases h0 : 0 < a
  ·rw [if_pos h0, fit_e]
   have hlen : (r.1.take a).length = a := by rw [List.length_take]; lia
   rw [hlen]
   refine ⟨h0, by lia, fit_mkN k (m - a) _ (asc_drop ha hs) (len_drop h0 hk) (fun x hx => ?_) fun y hy => hv (r.1.take a ++ y.1, y.2) ((mem_drop hs).mp hy)⟩
   refine x1_2 (List.mem_map.mp hx) fun y hy Q => ?_; subst Q
   have := hm y hy
   show (y.1.drop a).length <= _
   rw [List.length_drop]; lia
  ·rw [if_neg h0, fit_b]
   refine ⟨?_, fun i => ?_⟩
   ·rw [held_eq ha]
    split
    ·exact hv r (.head _)
    ·simp
   ·by_cases hg : grp i (r :: s :: t) = []
    ·left; rw [hg, mkN_nil]; rfl
    ·right
     refine x1_1 (List.exists_mem_of_ne_nil _ hg) fun x hx => ?_
     have h1 := hm _ (mem_grp.mp hx)
     simp at h1
     refine ⟨by lia, fit_mkN k (m - 1) _ (asc_grp ha) (len_grp hk) (fun y hy => ?_) fun y hy => hv (i :: y.1, y.2) (mem_grp.mp hy)⟩
     have := hm _ (mem_grp.mp hy)
     simp at this
     lia
theorem sum_zero {f : _root_.Fin 16 -> Nat} (h : ∀ i, f i = 0) : ∀ l : List (_root_.Fin 16), (l.map f).sum = 0
 | [] => rfl
 | i :: l => by rw [List.map_cons, List.sum_cons, h i, sum_zero h l]
theorem sum_grp (rows : List Row) : ((List.finRange 16).map fun i => (grp i rows).length).sum <= rows.length := by
 induction rows with
 | nil => rw [sum_zero (f := fun i => (grp i []).length) fun i => rfl]; exact Nat.le_refl _
 | cons r rows ih =>
  have e : ∀ i, (grp i (r :: rows)).length = (grp i [r]).length + (grp i rows).length := fun i => by
   rw [<- List.length_append, <- grp_append]; rfl
  have h2 : ∀ l : List (_root_.Fin 16), (l.map fun i => (grp i (r :: rows)).length).sum = (l.map fun i => (grp i [r]).length).sum + (l.map fun i => (grp i rows).length).sum := by
   intro l
   induction l with
   | nil => rfl
   | cons i l ih2 => rw [List.map_cons, List.map_cons, List.map_cons, List.sum_cons, List.sum_cons, List.sum_cons, ih2, e i]; lia
  have h1 : ((List.finRange 16).map fun i => (grp i [r]).length).sum <= 1 := by
   obtain ⟨p, v⟩ := r
   cases p with
   | nil => rw [sum_zero (f := fun i => (grp i [([], v)]).length) fun i => rfl]; exact Nat.zero_le _
   | cons x p =>
    have : ∀ l : List (_root_.Fin 16), l.Nodup -> (l.map fun i => (grp i [(x :: p, v)]).length).sum <= if x ∈ l then 1 else 0 := by
     intro l
     induction l with
     | nil => intro _; simp
     | cons i l ih3 =>
      intro hn
      rw [List.nodup_cons] at hn
      have := ih3 hn.2
      rw [List.map_cons, List.sum_cons]
      by_cases hx : x = i
      ·subst hx
       rw [if_neg hn.1] at this
       have g1 : (grp x [(x :: p, v)]).length = 1 := by simp [grp, gOne]
       rw [if_pos (.head _), g1]; lia
      ·have g0 : (grp i [(x :: p, v)]).length = 0 := by simp [grp, gOne, hx]
       rw [g0]
       by_cases hxl : x ∈ l
       ·rw [if_pos hxl] at this; rw [if_pos (.tail _ hxl)]; lia
       ·rw [if_neg hxl] at this; lia
    have := this _ (List.nodup_finRange 16)
    split at this <;> lia
  rw [h2, List.length_cons]; lia
theorem cnt_mkN : ∀ (k : Nat) (rows : List Row), cntN (mkN k rows) <= (k + 1) * rows.length
 | k, [] => by rw [mkN_nil, cntN_0]; lia
 | k, [r] => by rw [mkN_one, cntN_l]; simp
 | 0, r :: s :: t => by show cntN .nil <= _; rw [cntN_0]; lia
 | k + 1, r :: s :: t => by
  rw [mkN_more]
  generalize lcp r.1 (lastR r (s :: t)).1 = a
  have hl : 2 <= (r :: s :: t).length := by simp
  generalize hrows : r :: s :: t = rows at hl
  have e : (k + 1 + 1) * rows.length = (k + 1) * rows.length + rows.length := by rw [Nat.add_mul, Nat.one_mul]
  split
  ·rw [cntN_e]
   have := cnt_mkN k (dropR a rows)
   have e2 : (dropR a rows).length = rows.length := by unfold dropR; rw [List.length_map]
   rw [e2] at this
   lia
  ·rw [cntN_b]
   have h1 : ∀ l : List (_root_.Fin 16), (l.map fun i => cntN (mkN k (grp i rows))).sum <= (k + 1) * (l.map fun i => (grp i rows).length).sum := by
    intro l
    induction l with
    | nil => simp
    | cons i l ih =>
     rw [List.map_cons, List.map_cons, List.sum_cons, List.sum_cons, Nat.mul_add]
     have := cnt_mkN k (grp i rows)
     lia
   have h2 := h1 (List.finRange 16)
   have h3 := Nat.mul_le_mul_left (k + 1) (sum_grp rows)
   lia
end
section
theorem nib_byte {a b : _root_.Fin 16} : hiN (((16 * (a.val : Int) + (b.val : Int))).toNat.toUInt8) = a /\ loN (((16 * (a.val : Int) + (b.val : Int))).toNat.toUInt8) = b := by
 have e : (((16 * (a.val : Int) + (b.val : Int))).toNat.toUInt8).toNat = 16 * a.val + b.val := by
  rw [show ((16 * (a.val : Int) + (b.val : Int))).toNat = 16 * a.val + b.val by omega]
  show (UInt8.ofNat _).toNat = _
  rw [UInt8.toNat_ofNat']; lia
 constructor
 ·apply Fin.ext; show _ / 16 = _; rw [e]; omega
 ·apply Fin.ext; show _ % 16 = _; rw [e]; omega
theorem nib_prs : ∀ (m : Nat) (r : Pth), r.length = 2 * m -> nibN ((prs (toI r)).map fun k => k.toNat.toUInt8) = r
 | 0, r, h => by
  have : r = [] := List.length_eq_zero_iff.mp (by lia)
  subst this; rfl
 | m + 1, [], h => by simp at h
 | m + 1, [_], h => by simp at h; lia
 | m + 1, a :: b :: r, h => by
  have h' : r.length = 2 * m := by simp at h; lia
  rw [toI_cons, toI_cons, prs_c, List.map_cons, nibN_cons, nib_prs m r h']
  refine x0_2 (@nib_byte a b) fun e1 e2 => ?_
  rw [e1, e2]
noncomputable def aheadN (p : Pth) (leaf : Bool) : Pth := if p.length % 2 = 1 then [if leaf then 3 else 1] else [if leaf then 2 else 0, 0]
theorem ahead_toI (p : Pth) (leaf : Bool) : aheadI (toI p) leaf = toI (aheadN p leaf) := by
 unfold aheadI aheadN
 rw [toI_length]
 split <;> cases leaf <;> rfl
theorem read_pack (p : Pth) (leaf : Bool) : readN (packI (toI p) leaf) = some (p, leaf) := by
 refine x1_2 (ahead_even (toI p) leaf) fun m hm Z => ?_
 rw [ahead_toI, <- toI_append, toI_length] at hm
 have h := nib_prs m (aheadN p leaf ++ p) hm
 unfold packI
 rw [ahead_toI, <- toI_append]
 generalize (prs (toI (aheadN p leaf ++ p))).map (fun k => k.toNat.toUInt8) = b at h
 cases b with
 | nil =>
  unfold aheadN at h
  split at h <;> cases h
 | cons x r =>
  rw [nibN_cons] at h
  rw [readN]
  unfold aheadN at h
  by_cases ho : p.length % 2 = 1
  ·rw [if_pos ho] at h
   injection h with h1 h2
   rw [h1, h2]
   cases leaf <;> rfl
  ·rw [if_neg ho] at h
   injection h with h1 h2
   injection h2 with h2 h3
   rw [h1, h2, h3]
   cases leaf <;> rfl
theorem pack_inj {p q : Pth} {l m : Bool} (h : packI (toI p) l = packI (toI q) m) : p = q /\ l = m := by
 have h1 := read_pack p l
 rw [h, read_pack q m] at h1
 injection h1 with h1
 injection h1 with h1 h2
 exact ⟨h1.symm, h2.symm⟩
theorem u8_inj {a b : Nat} (ha : a < 256) (hb : b < 256) (h : a.toUInt8 = b.toUInt8) : a = b := by
 have := congrArg UInt8.toNat h
 change (UInt8.ofNat a).toNat = (UInt8.ofNat b).toNat at this
 rw [UInt8.toNat_ofNat', UInt8.toNat_ofNat'] at this
 lia
theorem beN_len {k : Nat} (h0 : 56 <= k) (h1 : k < 65536) : (beN k).length = if k < 256 then 1 else 2 := by
 split
 ·rw [beN_one (by lia) (by omega)]; rfl
 ·rw [beN_two (by lia) h1]; rfl
theorem beN_inj {k m : Nat} (h0 : 56 <= k) (h1 : k < 65536) (h2 : 56 <= m) (h3 : m < 65536) (h : beN k = beN m) : k = m := by
 have hl := congrArg List.length h
 rw [beN_len h0 h1, beN_len h2 h3] at hl
 by_cases hk : k < 256
 ·have hm : m < 256 := by
   rw [if_pos hk] at hl
   by_cases hm : m < 256
   ·exact hm
   ·rw [if_neg hm] at hl; cases hl
  rw [beN_one (by lia) hk, beN_one (by lia) hm] at h
  injection h with h
  exact u8_inj hk hm h
 ·have hm : ¬ m < 256 := by
   intro hm
   rw [if_neg hk, if_pos hm] at hl; cases hl
  rw [beN_two (by lia) h1, beN_two (by lia) h3] at h
  injection h with e1 e2
  injection e2 with e2
  have := u8_inj (by lia) (by lia) e1
  have := u8_inj (by lia) (by lia) e2
  lia
theorem low_le {a : Nat} (h : a = 128 \/ a = 192) : a <= 192 := by rcases h with rfl | rfl <;> decide
theorem low_eq {a b k l : Nat} (ha : a = 128 \/ a = 192) (hb : b = 128 \/ b = 192) (hk : k <= 55) (hl : l <= 55) (e : a + k = b + l) : a = b /\ k = l := by
 rcases ha with rfl | rfl <;> rcases hb with rfl | rfl <;> lia
theorem low_ne {a b k l : Nat} (ha : a = 128 \/ a = 192) (hb : b = 128 \/ b = 192) (hk : k <= 55) (hl : l <= 2 /\ 1 <= l) (e : a + k = b + 55 + l) : False := by
 rcases ha with rfl | rfl <;> rcases hb with rfl | rfl <;> lia
theorem low_eq2 {a b k l : Nat} (ha : a = 128 \/ a = 192) (hb : b = 128 \/ b = 192) (hk : k <= 2 /\ 1 <= k) (hl : l <= 2 /\ 1 <= l) (e : a + 55 + k = b + 55 + l) : a = b /\ k = l := by
 rcases ha with rfl | rfl <;> rcases hb with rfl | rfl <;> lia
theorem beN_few {k : Nat} (h : ¬ k <= 55) (hk : k < 65536) : (beN k).length <= 2 /\ 1 <= (beN k).length := by
 rw [beN_len (by lia) hk]; split <;> decide
theorem head_inj {low low' m m' : Nat} {s t : List UInt8} (hl : low = 128 \/ low = 192) (hl' : low' = 128 \/ low' = 192) (hm : m < 65536) (hm' : m' < 65536) (h : headI low m ++ s = headI low' m' ++ t) : low = low' /\ m = m' /\ s = t := by
 unfold headI at h
 have l1 := low_le hl
 have l2 := low_le hl'
 by_cases h1 : m <= 55
 ·by_cases h2 : m' <= 55
  ·rw [if_pos h1, if_pos h2] at h
   injection h with e1 e2
   have := low_eq hl hl' h1 h2 (u8_inj (by clear hl hl'; lia) (by clear hl hl'; lia) e1)
   exact ⟨this.1, this.2, e2⟩
  ·rw [if_pos h1, if_neg h2] at h
   injection h with e1 e2
   have q2 := beN_few h2 hm'
   exact (low_ne hl hl' h1 q2 (u8_inj (by clear hl hl'; lia) (by clear hl hl'; lia) e1)).elim
 ·by_cases h2 : m' <= 55
  ·rw [if_neg h1, if_pos h2] at h
   injection h with e1 e2
   have q1 := beN_few h1 hm
   exact (low_ne hl' hl h2 q1 (u8_inj (by clear hl hl'; lia) (by clear hl hl'; lia) e1).symm).elim
  ·rw [if_neg h1, if_neg h2, List.cons_append, List.cons_append] at h
   injection h with e1 e2
   have q1 := beN_few h1 hm
   have q2 := beN_few h2 hm'
   have e := low_eq2 hl hl' q1 q2 (u8_inj (by clear hl hl'; lia) (by clear hl hl'; lia) e1)
   refine x0_2 (List.append_inj e2 e.2) fun e3 e4 => ?_
   exact ⟨e.1, beN_inj (by clear hl hl'; lia) hm (by clear hl hl'; lia) hm' e3, e4⟩
theorem head_first {low m : Nat} (hl : low = 128 \/ low = 192) (hm : m < 65536) : ∃ c r, headI low m = c :: r /\ 128 <= c.toNat := by
 unfold headI
 have key : ∀ a : Nat, 128 <= a -> a < 256 -> 128 <= (a.toUInt8).toNat := fun a h1 h2 => by
  show 128 <= (UInt8.ofNat a).toNat
  rw [UInt8.toNat_ofNat']; lia
 split
 ·exact ⟨_, _, rfl, key _ (by lia) (by lia)⟩
 ·rename_i h
  have hb := beN_len (k := m) (by lia) hm
  have q1 : (beN m).length <= 2 /\ 1 <= (beN m).length := by rw [hb]; split <;> lia
  exact ⟨_, _, rfl, key _ (by lia) (by lia)⟩
theorem single_no {x : List UInt8} {low m : Nat} {s t u : List UInt8} (h1 : x.length = 1 /\ (x.getD 0 0).toNat < 128) (hl : low = 128 \/ low = 192) (hm : m < 65536) (h : x ++ s = headI low m ++ u ++ t) : False := by
 refine x2_2 (head_first hl hm) fun c r e hc => ?_
 rw [e] at h
 match x, h1 with
 | [y], h1 =>
  injection h with e1 e2
  rw [e1] at h1
  have := h1.2
  simp at this
  lia
theorem encI_pos (x : It) : 1 <= (encI x).length := by
 cases x with
 | b y =>
  rw [encI_b]
  split
  ·lia
  ·rw [List.length_append]; have := @headI_ge 128 y.length; lia
 | l ys => rw [encI_l, List.length_append]; have := @headI_ge 192 (encIs ys).length; lia
mutual
theorem encI_pre : ∀ (x y : It) (s t : List UInt8), (encI x).length <= 60000 -> (encI y).length <= 60000 -> encI x ++ s = encI y ++ t -> x = y /\ s = t
 | .b u, .b w, s, t, h1, h2, h => by
  rw [encI_b] at h1 h
  rw [encI_b] at h2 h
  by_cases hu : u.length = 1 /\ (u.getD 0 0).toNat < 128
  ·rw [if_pos hu] at h h1
   by_cases hw : w.length = 1 /\ (w.getD 0 0).toNat < 128
   ·rw [if_pos hw] at h
    refine x0_2 (List.append_inj h (by lia)) fun e1 e2 => ?_
    exact ⟨by rw [e1], e2⟩
   ·rw [if_neg hw] at h h2
    rw [List.length_append] at h2
    exact (single_no hu (.inl rfl) (by lia) h).elim
  ·rw [if_neg hu] at h h1
   rw [List.length_append] at h1
   by_cases hw : w.length = 1 /\ (w.getD 0 0).toNat < 128
   ·rw [if_pos hw] at h
    exact (single_no hw (.inl rfl) (by lia) h.symm).elim
   ·rw [if_neg hw] at h h2
    rw [List.length_append] at h2
    rw [List.append_assoc, List.append_assoc] at h
    refine x0_3 (head_inj (.inl rfl) (.inl rfl) (by lia) (by lia) h) fun Z e1 e2 => ?_
    refine x0_2 (List.append_inj e2 e1) fun e3 e4 => ?_
    exact ⟨by rw [e3], e4⟩
 | .b u, .l ys, s, t, h1, h2, h => by
  rw [encI_b] at h1 h
  rw [encI_l] at h2 h
  rw [List.length_append] at h2
  by_cases hu : u.length = 1 /\ (u.getD 0 0).toNat < 128
  ·rw [if_pos hu] at h
   exact (single_no hu (.inr rfl) (by lia) h).elim
  ·rw [if_neg hu] at h h1
   rw [List.length_append] at h1
   rw [List.append_assoc, List.append_assoc] at h
   obtain ⟨e0, _⟩ := head_inj (.inl rfl) (.inr rfl) (by lia) (by lia) h
   cases e0
 | .l xs, .b w, s, t, h1, h2, h => by
  rw [encI_l] at h1 h
  rw [encI_b] at h2 h
  rw [List.length_append] at h1
  by_cases hu : w.length = 1 /\ (w.getD 0 0).toNat < 128
  ·rw [if_pos hu] at h
   exact (single_no hu (.inr rfl) (by lia) h.symm).elim
  ·rw [if_neg hu] at h h2
   rw [List.length_append] at h2
   rw [List.append_assoc, List.append_assoc] at h
   obtain ⟨e0, _⟩ := head_inj (.inr rfl) (.inl rfl) (by lia) (by lia) h
   cases e0
 | .l xs, .l ys, s, t, h1, h2, h => by
  rw [encI_l] at h1 h
  rw [encI_l] at h2 h
  rw [List.length_append] at h1 h2
  rw [List.append_assoc, List.append_assoc] at h
  refine x0_3 (head_inj (.inr rfl) (.inr rfl) (by lia) (by lia) h) fun Z e1 e2 => ?_
  obtain ⟨e3, e4⟩ := List.append_inj e2 e1
  exact ⟨by rw [encIs_inj xs ys (by lia) (by lia) e3], e4⟩
theorem encIs_inj : ∀ (xs ys : List It), (encIs xs).length <= 60000 -> (encIs ys).length <= 60000 -> encIs xs = encIs ys -> xs = ys
 | [], [], _, _, _ => rfl
 | [], y :: ys, _, _, h => by
  have := congrArg List.length h
  rw [encIs_cons_len, show encIs [] = [] by rw [encIs_0], List.length_nil] at this
  have := encI_pos y
  lia
 | x :: xs, [], _, _, h => by
  have := congrArg List.length h
  rw [encIs_cons_len, show encIs [] = [] by rw [encIs_0], List.length_nil] at this
  have := encI_pos x
  lia
 | x :: xs, y :: ys, h1, h2, h => by
  rw [encIs_cons_len] at h1 h2
  rw [encIs_c, encIs_c] at h
  obtain ⟨e1, e2⟩ := encI_pre x y (encIs xs) (encIs ys) (by lia) (by lia) h
  rw [e1, encIs_inj xs ys (by lia) (by lia) e2]
end
theorem encI_inj {x y : It} (h1 : (encI x).length <= 60000) (h2 : (encI y).length <= 60000) (h : encI x = encI y) : x = y :=
 (encI_pre x y [] [] h1 h2 (by rw [List.append_nil, List.append_nil, h])).1
theorem dig_inj {k m : Nat} (hk : k <= 1000000) (hm : m <= 1000000) (h : dig k = dig m) : k = m := by
 unfold dig at h
 rw [List.append_assoc, List.append_assoc] at h
 have hl : ∀ k : Nat, (leB 4 (k : Int)).length = 4 := fun k => KTBy.low_length _ _
 refine x0_2 (List.append_inj h (by rw [hl, hl])) fun e Z => ?_
 have := leB_inj (k := 4) (x := (k : Int)) (y := (m : Int)) (by lia) (by lia) (by lia) (by lia) e
 lia
end
section
noncomputable def Pre (ks K : Bk) : Prop := ∃ t, K = ks ++ t
theorem Pre.refl (ks : Bk) : Pre ks ks := ⟨[], by simp⟩
theorem Pre.trans {a b c : Bk} (h : Pre a b) (k : Pre b c) : Pre a c := by
 refine x1_1 h fun t Q => ?_; clear h; subst Q
 obtain ⟨u, rfl⟩ := k
 exact ⟨t ++ u, by simp⟩
theorem pre_addK {ks : Bk} {x : List UInt8} : Pre ks (addK ks x) := by
 unfold addK
 split
 ·exact .refl _
 ·exact ⟨[x], rfl⟩
theorem Pre.mem {ks K : Bk} {x : List UInt8} (p : Pre ks K) (h : x ∈ ks) : x ∈ K := by
 obtain ⟨t, rfl⟩ := p
 exact List.mem_append_left _ h
theorem pos_pre {ks K : Bk} {x : List UInt8} (h : x ∈ ks) (p : Pre ks K) : posK K x = posK ks x := by
 obtain ⟨t, rfl⟩ := p
 unfold posK
 rw [List.idxOf_append, if_pos h]
theorem pos_inj {K : Bk} {x y : List UInt8} (hx : x ∈ K) (hy : y ∈ K) (h : posK K x = posK K y) : x = y := by
 unfold posK at h
 have e : K.idxOf x = K.idxOf y := by lia
 have l1 := List.idxOf_lt_length_of_mem hx
 have l2 := List.idxOf_lt_length_of_mem hy
 have a1 : K[K.idxOf x] = x := List.getElem_idxOf l1
 have a2 : K[K.idxOf y] = y := List.getElem_idxOf l2
 rw [<- a1, <- a2]
 simp only [e]
theorem addK_mem {K : Bk} {x : List UInt8} (h : x ∈ K) : addK K x = K := by unfold addK; rw [if_pos h]
noncomputable def itF (K : Bk) (f : It) : It := if (encI f).length < 32 then f else .b (dig (posK K (encI f)))
noncomputable def inK (K : Bk) (f : It) : Prop := (encI f).length < 32 \/ encI f ∈ K
noncomputable def formF (K : Bk) : Nd -> It
 | .nil => .b []
 | .leaf p v => .l [.b (packI (toI p) true), .b v]
 | .ext p a => .l [.b (packI (toI p) false), itF K (formF K a)]
 | .br ks v => .l ((List.finRange 16).map (fun i => itF K (formF K (ks i))) ++ [.b v])
theorem formF_0 {K : Bk} : formF K .nil = (.b []) := rfl
theorem formF_l {K : Bk} {p : Pth} {v : List UInt8} : formF K (.leaf p v) = (.l [.b (packI (toI p) true), .b v]) := rfl
theorem formF_e {K : Bk} {p : Pth} {a : Nd} : formF K (.ext p a) = (.l [.b (packI (toI p) false), itF K (formF K a)]) := rfl
theorem formF_b {K : Bk} {ks : (_root_.Fin 16 -> Nd)} {v : List UInt8} : formF K (.br ks v) = (.l ((List.finRange 16).map (fun i => itF K (formF K (ks i))) ++ [.b v])) := rfl
noncomputable def known (K : Bk) : Nd -> Prop
 | .nil => True
 | .leaf _ _ => True
 | .ext _ a => known K a /\ inK K (formF K a)
 | .br ks _ => ∀ i, known K (ks i) /\ inK K (formF K (ks i))
theorem known_0 {K : Bk} : known K .nil = (True) := rfl
theorem known_l {K : Bk} {p : Pth} {v : List UInt8} : known K (.leaf p v) = (True) := rfl
theorem known_e {K : Bk} {p : Pth} {a : Nd} : known K (.ext p a) = (known K a /\ inK K (formF K a)) := rfl
theorem known_b {K : Bk} {ks : (_root_.Fin 16 -> Nd)} {v : List UInt8} : known K (.br ks v) = (∀ i, known K (ks i) /\ inK K (formF K (ks i))) := rfl
theorem itemOf_F {f : It} {ks K : Bk} (h : Pre (itemOf f ks).2 K) : (itemOf f ks).1 = itF K f /\ inK K f /\ Pre ks (itemOf f ks).2 := by
 unfold itemOf at h ⊢
 unfold itF inK
 by_cases hl : (encI f).length < 32
 ·rw [if_pos hl] at h ⊢
  rw [if_pos hl]
  exact ⟨rfl, .inl hl, .refl _⟩
 ·rw [if_neg hl] at h ⊢
  rw [if_neg hl]
  exact ⟨by rw [pos_pre mem_addK h], .inr (h.mem mem_addK), pre_addK⟩
theorem itemOf_known {f : It} {K : Bk} (h : inK K f) : itemOf f K = (itF K f, K) := by
 unfold itemOf itF
 by_cases hl : (encI f).length < 32
 ·rw [if_pos hl, if_pos hl]
 ·rw [if_neg hl, if_neg hl, addK_mem (h.resolve_left hl)]
theorem itF_pre {f : It} {K K' : Bk} (h : inK K f) (p : Pre K K') : itF K' f = itF K f /\ inK K' f := by
 unfold itF
 by_cases hl : (encI f).length < 32
 ·rw [if_pos hl, if_pos hl]; exact ⟨rfl, .inl hl⟩
 ·rw [if_neg hl, if_neg hl, pos_pre (h.resolve_left hl) p]; exact ⟨rfl, .inr (p.mem (h.resolve_left hl))⟩
theorem itemsS_F {kids : _root_.Fin 16 -> Nd} {K : Bk} (ih : ∀ i ks, Pre (formS (kids i) ks).2 K -> (formS (kids i) ks).1 = formF K (kids i) /\ known K (kids i) /\ Pre ks (formS (kids i) ks).2) :
  ∀ (l : List (_root_.Fin 16)) (ks : Bk), Pre (itemsS kids l ks).2 K -> (itemsS kids l ks).1 = l.map (fun i => itF K (formF K (kids i))) /\ (∀ i ∈ l, known K (kids i) /\ inK K (formF K (kids i))) /\ Pre ks (itemsS kids l ks).2
 | [], ks, _ => ⟨rfl, (fun Z h => nomatch h), .refl _⟩
 | i :: l, ks, h => by
  rw [itemsS_c] at h ⊢
  refine x0_3 (itemsS_F ih l (itemS (kids i) ks).2 h) fun h1 h2 h3 => ?_
  have hp := h3.trans h
  have h3' := h3
  unfold itemS at hp h3'
  refine x0_3 (itemOf_F hp) fun i1 i2 i3 => ?_
  obtain ⟨j1, j2, j3⟩ := ih i ks (i3.trans hp)
  have e1 : (itemS (kids i) ks).1 = itF K (formF K (kids i)) := by unfold itemS; rw [i1, j1]
  refine ⟨?_, fun j hj => ?_, (j3.trans i3).trans h3'⟩
  ·rw [List.map_cons]
   dsimp only
   rw [e1, h1]
  ·rcases List.mem_cons.mp hj with rfl | hj
   ·rw [j1] at i2; exact ⟨j2, i2⟩
   ·exact h2 j hj
theorem formS_F : ∀ (a : Nd) (ks K : Bk), Pre (formS a ks).2 K -> (formS a ks).1 = formF K a /\ known K a /\ Pre ks (formS a ks).2
 | .nil, ks, K, _ => by rw [formS_0, formF_0, known_0]; exact ⟨rfl, trivial, .refl _⟩
 | .leaf p v, ks, K, _ => by rw [formS_l, formF_l, known_l]; exact ⟨rfl, trivial, .refl _⟩
 | .ext p a, ks, K, h => by
  rw [formS_ext] at h ⊢
  unfold itemS at h ⊢
  refine x0_3 (itemOf_F h) fun i1 i2 i3 => ?_
  refine x0_3 (formS_F a ks K (i3.trans h)) fun j1 j2 j3 => ?_
  rw [formF_e, known_e]
  rw [j1] at i2
  exact ⟨by dsimp only; rw [i1, j1], ⟨j2, i2⟩, j3.trans i3⟩
 | .br kids v, ks, K, h => by
  rw [formS_br] at h ⊢
  obtain ⟨h1, h2, h3⟩ := itemsS_F (K := K) (fun i ks => formS_F (kids i) ks K) (List.finRange 16) ks h
  rw [formF_b, known_b]
  exact ⟨by dsimp only; rw [h1], fun i => h2 i (List.mem_finRange i), h3⟩
theorem itemsS_known {kids : _root_.Fin 16 -> Nd} {K : Bk} (ih : ∀ i, formS (kids i) K = (formF K (kids i), K)) (hk : ∀ i, inK K (formF K (kids i))) :
  ∀ l : List (_root_.Fin 16), itemsS kids l K = (l.map (fun i => itF K (formF K (kids i))), K)
 | [] => rfl
 | i :: l => by
  have e : itemS (kids i) K = (itF K (formF K (kids i)), K) := by unfold itemS; rw [ih i]; exact itemOf_known (hk i)
  rw [itemsS_c, e]
  dsimp only
  rw [itemsS_known ih hk l]
  rfl
theorem formS_known : ∀ (a : Nd) {K : Bk}, known K a -> formS a K = (formF K a, K)
 | .nil, K, _ => by rw [formS_0, formF_0]
 | .leaf p v, K, _ => by rw [formS_l, formF_l]
 | .ext p a, K, h => by
  rw [known_e] at h
  rw [formS_ext, formF_e]
  unfold itemS
  rw [formS_known a h.1]
  dsimp only
  rw [itemOf_known h.2]
 | .br kids v, K, h => by
  rw [known_b] at h
  rw [formS_br, formF_b, itemsS_known (fun i => formS_known (kids i) (h i).1) (fun i => (h i).2)]
theorem known_pre : ∀ (a : Nd) {K K' : Bk}, known K a -> Pre K K' -> known K' a /\ formF K' a = formF K a
 | .nil, K, K', _, _ => by rw [known_0, formF_0, formF_0]; exact ⟨trivial, rfl⟩
 | .leaf p v, K, K', _, _ => by rw [known_l, formF_l, formF_l]; exact ⟨trivial, rfl⟩
 | .ext p a, K, K', h, hp => by
  rw [known_e] at h
  refine x0_2 (known_pre a h.1 hp) fun i1 i2 => ?_
  refine x0_2 (itF_pre h.2 hp) fun j1 j2 => ?_
  rw [known_e, formF_e, formF_e, i2, j1]
  exact ⟨⟨i1, j2⟩, rfl⟩
 | .br kids v, K, K', h, hp => by
  rw [known_b] at h
  rw [known_b, formF_b, formF_b]
  refine ⟨fun i => ?_, ?_⟩
  ·refine x0_2 (known_pre (kids i) (h i).1 hp) fun i1 i2 => ?_
   rw [i2]
   exact ⟨i1, (itF_pre (h i).2 hp).2⟩
  ·congr 2
   refine congrArg (fun f => List.map f (List.finRange 16)) (funext fun i => ?_)
   refine x0_2 (known_pre (kids i) (h i).1 hp) fun i1 i2 => ?_
   rw [i2]
   exact (itF_pre (h i).2 hp).1
noncomputable def rootK (K : Bk) (a : Nd) : Prop := known K a /\ encI (formF K a) ∈ K
noncomputable def rootF (K : Bk) (a : Nd) : List UInt8 := dig (posK K (encI (formF K a)))
theorem rootS_F (a : Nd) (ks : Bk) : Pre ks (rootS a ks).2 /\ rootK (rootS a ks).2 a /\ (rootS a ks).1 = rootF (rootS a ks).2 a := by
 unfold rootS
 dsimp only
 have hp : Pre (formS a ks).2 (addK (formS a ks).2 (encI (formS a ks).1)) := pre_addK
 refine x0_3 (formS_F a ks _ hp) fun h1 h2 h3 => ?_
 have hm : encI (formS a ks).1 ∈ addK (formS a ks).2 (encI (formS a ks).1) := mem_addK
 refine ⟨h3.trans hp, ⟨h2, ?_⟩, ?_⟩
 ·rw [<- h1]; exact hm
 ·unfold rootF; rw [<- h1]
theorem rootS_known {a : Nd} {K : Bk} (h : rootK K a) : rootS a K = (rootF K a, K) := by
 unfold rootS
 rw [formS_known a h.1]
 dsimp only
 rw [addK_mem h.2]; rfl
theorem rootK_pre {a : Nd} {K K' : Bk} (h : rootK K a) (p : Pre K K') : rootK K' a /\ rootF K' a = rootF K a := by
 refine x0_2 (known_pre a h.1 p) fun h1 h2 => ?_
 unfold rootK rootF
 rw [h2, pos_pre h.2 p]
 exact ⟨⟨h1, p.mem h.2⟩, rfl⟩
theorem formF_len {a : Nd} {K : Bk} {k : Nat} (h : known K a) (hf : fit a k) (hk : k <= 1000) : (encI (formF K a)).length <= 3000 := by
 have := (formS_len hf hk K).1
 rw [formS_known a h] at this
 exact this
theorem posK_le' {K : Bk} {x : List UInt8} (h : x ∈ K) (hz : K.length <= 900000) : posK K x <= 1000000 := by have := posK_le h; lia
theorem formF_shape (K : Bk) (a : Nd) : formF K a = .b [] \/ ∃ xs, formF K a = .l xs := by
 cases a with
 | nil => exact .inl (by rw [formF_0])
 | leaf p v => exact .inr ⟨_, by rw [formF_l]⟩
 | ext p a => exact .inr ⟨_, by rw [formF_e]⟩
 | br ks v => exact .inr ⟨_, by rw [formF_b]⟩
theorem itF_inj {K : Bk} {a b : Nd} {k m : Nat} (hz : K.length <= 900000) (ha : known K a) (hb : known K b) (fa : fit a k) (fb : fit b m) (hk : k <= 1000) (hm : m <= 1000) (ia : inK K (formF K a)) (ib : inK K (formF K b)) (h : itF K (formF K a) = itF K (formF K b)) : formF K a = formF K b := by
 have l1 := formF_len ha fa hk
 have l2 := formF_len hb fb hm
 have no : ∀ {c : Nd} {k : Nat}, formF K c = .b (dig k) -> False := fun {c k} e => by
  rcases formF_shape K c with e2 | ⟨xs, e2⟩
  ·rw [e2] at e
   injection e with e
   have := congrArg List.length e
   rw [dig_length] at this
   cases this
  ·rw [e2] at e; cases e
 unfold itF at h
 by_cases h1 : (encI (formF K a)).length < 32
 ·by_cases h2 : (encI (formF K b)).length < 32
  ·rw [if_pos h1, if_pos h2] at h; exact h
  ·rw [if_pos h1, if_neg h2] at h; exact (no h).elim
 ·by_cases h2 : (encI (formF K b)).length < 32
  ·rw [if_neg h1, if_pos h2] at h; exact (no h.symm).elim
  ·rw [if_neg h1, if_neg h2] at h
   injection h with h
   have m1 := ia.resolve_left h1
   have m2 := ib.resolve_left h2
   exact encI_inj (by lia) (by lia) (pos_inj m1 m2 (dig_inj (posK_le' m1 hz) (posK_le' m2 hz) h))
theorem form_inj {K : Bk} (hz : K.length <= 900000) : ∀ (a b : Nd) {k m : Nat}, known K a -> known K b -> fit a k -> fit b m -> k <= 1000 -> m <= 1000 -> formF K a = formF K b -> a = b
 | .nil, .nil, _, _, _, _, _, _, _, _, _ => rfl
 | .nil, .leaf _ _, _, _, _, _, _, _, _, _, h => by rw [formF_l, formF_0] at h; cases h
 | .nil, .ext _ _, _, _, _, _, _, _, _, _, h => by rw [formF_e, formF_0] at h; cases h
 | .nil, .br _ _, _, _, _, _, _, _, _, _, h => by rw [formF_b, formF_0] at h; cases h
 | .leaf _ _, .nil, _, _, _, _, _, _, _, _, h => by rw [formF_0, formF_l] at h; cases h
 | .ext _ _, .nil, _, _, _, _, _, _, _, _, h => by rw [formF_0, formF_e] at h; cases h
 | .br _ _, .nil, _, _, _, _, _, _, _, _, h => by rw [formF_0, formF_b] at h; cases h
 | .leaf p v, .leaf q w, _, _, _, _, _, _, _, _, h => by
  rw [formF_l, formF_l] at h
  injection h with h
  injection h with h1 h2
  injection h1 with h1
  injection h2 with h2
  injection h2 with h2
  rw [(pack_inj h1).1, h2]
 | .leaf p v, .ext q b, _, _, _, _, _, _, _, _, h => by
  rw [formF_e, formF_l] at h
  injection h with h
  injection h with h1 h2
  injection h1 with h1
  cases (pack_inj h1).2
 | .ext p a, .leaf q w, _, _, _, _, _, _, _, _, h => by
  rw [formF_l, formF_e] at h
  injection h with h
  injection h with h1 h2
  injection h1 with h1
  cases (pack_inj h1).2
 | .leaf p v, .br ks w, _, _, _, _, _, _, _, _, h => by
  rw [formF_b, formF_l] at h
  injection h with h
  have := congrArg List.length h
  rw [List.length_append, List.length_map, List.length_finRange] at this
  cases this
 | .br ks w, .leaf p v, _, _, _, _, _, _, _, _, h => by
  rw [formF_l, formF_b] at h
  injection h with h
  have := congrArg List.length h
  rw [List.length_append, List.length_map, List.length_finRange] at this
  cases this
 | .ext p a, .br ks w, _, _, _, _, _, _, _, _, h => by
  rw [formF_b, formF_e] at h
  injection h with h
  have := congrArg List.length h
  rw [List.length_append, List.length_map, List.length_finRange] at this
  cases this
 | .br ks w, .ext p a, _, _, _, _, _, _, _, _, h => by
  rw [formF_e, formF_b] at h
  injection h with h
  have := congrArg List.length h
  rw [List.length_append, List.length_map, List.length_finRange] at this
  cases this
 | .ext p a, .ext q b, k, m, ha, hb, fa, fb, hk, hm, h => by
  rw [formF_e, formF_e] at h
  rw [known_e] at ha hb
  rw [fit_e] at fa fb
  injection h with h
  injection h with h1 h2
  injection h1 with h1
  injection h2 with h2
  rw [(pack_inj h1).1, form_inj hz a b ha.1 hb.1 fa.2.2 fb.2.2 (by lia) (by lia) (itF_inj hz ha.1 hb.1 fa.2.2 fb.2.2 (by lia) (by lia) ha.2 hb.2 h2)]
 | .br ks v, .br js w, k, m, ha, hb, fa, fb, hk, hm, h => by
  rw [formF_b, formF_b] at h
  rw [known_b] at ha hb
  rw [fit_b] at fa fb
  injection h with h
  refine x0_2 (List.append_inj h (by rw [List.length_map, List.length_map])) fun h1 h2 => ?_
  injection h2 with h2
  injection h2 with h2
  have ffit : ∀ {c : Nd} {k : Nat}, (c.isNil = true \/ (1 <= k /\ fit c (k - 1))) -> fit c (k - 1) := fun {c k} q => by
   rcases q with q | q
   ·rw [isNil_eq q, fit_0]; trivial
   ·exact q.2
  have hkids : ks = js := funext fun i => by
   have hi : itF K (formF K (ks i)) = itF K (formF K (js i)) := (List.map_inj_left.mp h1) i (List.mem_finRange i)
   exact form_inj hz (ks i) (js i) (ha i).1 (hb i).1 (ffit (fa.2 i)) (ffit (fb.2 i)) (by lia) (by lia) (itF_inj hz (ha i).1 (hb i).1 (ffit (fa.2 i)) (ffit (fb.2 i)) (by lia) (by lia) (ha i).2 (hb i).2 hi)
  rw [hkids, h2]
theorem root_inj {K : Bk} {a b : Nd} {k m : Nat} (hz : K.length <= 900000) (ha : rootK K a) (hb : rootK K b) (fa : fit a k) (fb : fit b m) (hk : k <= 1000) (hm : m <= 1000) (h : rootF K a = rootF K b) : a = b := by
 have l1 := formF_len ha.1 fa hk
 have l2 := formF_len hb.1 fb hm
 exact form_inj hz a b ha.1 hb.1 fa fb hk hm (encI_inj (by lia) (by lia) (pos_inj ha.2 hb.2 (dig_inj (posK_le' ha.2 hz) (posK_le' hb.2 hz) h)))
theorem rootS_len {a : Nd} {ks : Bk} : (rootS a ks).2.length <= ks.length + cntN a + 1 := by
 have h1 := (formS_more a ks).1.2
 unfold rootS
 dsimp only
 have := addK_length (ks := (formS a ks).2) (x := encI (formS a ks).1)
 split at h1 <;> lia
end
section
theorem eqDs_map {d : Nat} {α : Type} {f g : α -> D} {P : α -> Prop} : ∀ (l : List α), (∀ i ∈ l, ∃ r, EqD d (f i) (g i) r /\ (r = true ↔ P i)) -> ∃ r, EqDs d (l.map f) (l.map g) r /\ (r = true ↔ ∀ i ∈ l, P i)
 | [], _ => ⟨true, .nil, by simp⟩
 | i :: l, h => by
  obtain ⟨r, h1, h2⟩ := h i (.head _)
  obtain ⟨r', h3, h4⟩ := eqDs_map l fun j hj => h j (.tail _ hj)
  exact ⟨r && r', .cons h1 h3, by rw [Bool.and_eq_true, h2, h4]; simp⟩
theorem eqDs_ints {d : Nat} (p q : List Int) : ∃ r, EqDs d (p.map D.int) (q.map D.int) r /\ (r = true ↔ p = q) := ⟨_, eqDs_path d p q, by simp⟩
theorem nodeD_cases (a : Nd) : nodeD a = .none \/ ∃ ds, nodeD a = .tup ds := by
 cases a with
 | nil => exact .inl nodeD_nil
 | leaf p v => exact .inr ⟨_, nodeD_leaf⟩
 | ext p a => exact .inr ⟨_, nodeD_ext⟩
 | br ks v => exact .inr ⟨_, nodeD_br⟩
theorem eqDs_in {d : Nat} {α : Type} {f : α -> D} (hf : ∀ i, f i = .none \/ ∃ ds, f i = .tup ds) : ∀ (p : List Int) (l : List α), ∃ r, EqDs d (p.map D.int) (l.map f) r
 | [], [] => ⟨_, .nil⟩
 | [], _ :: _ => ⟨_, .nc⟩
 | _ :: _, [] => ⟨_, .cn⟩
 | x :: p, i :: l => by
  obtain ⟨r, h⟩ := eqDs_in hf p l
  rcases hf i with e | ⟨ds, e⟩
  ·exact ⟨_, .cons (by rw [e]; exact .in_) h⟩
  ·exact ⟨_, .cons (by rw [e]; exact .it) h⟩
theorem eqDs_ni {d : Nat} {α : Type} {f : α -> D} (hf : ∀ i, f i = .none \/ ∃ ds, f i = .tup ds) : ∀ (p : List Int) (l : List α), ∃ r, EqDs d (l.map f) (p.map D.int) r
 | [], [] => ⟨_, .nil⟩
 | [], _ :: _ => ⟨_, .cn⟩
 | _ :: _, [] => ⟨_, .nc⟩
 | x :: p, i :: l => by
  obtain ⟨r, h⟩ := eqDs_ni hf p l
  rcases hf i with e | ⟨ds, e⟩
  ·exact ⟨_, .cons (by rw [e]; exact .ni) h⟩
  ·exact ⟨_, .cons (by rw [e]; exact .ti) h⟩
inductive EqN (d : Nat) : D -> D -> Bool -> Prop
 | nn : EqN d .none .none true
 | nt {ys : List D} : EqN d .none (.tup ys) false
 | tn {xs : List D} : EqN d (.tup xs) .none false
 | tt {xs ys : List D} {r : Bool} (h : EqDs d xs ys r) : EqN d (.tup xs) (.tup ys) r
theorem EqN.toD {d : Nat} {a b : D} {r : Bool} (h : EqN d a b r) : EqD (d + 1) a b r := by
 cases h with
 | nn => exact .nn
 | nt => exact .nt
 | tn => exact .tn
 | tt h => exact .tt h
theorem eq3 {d : Nat} {a b c a' b' c' : D} {x y z : Bool} (h1 : EqD d a a' x) (h2 : EqD d b b' y) (h3 : EqD d c c' z) : EqN d (.tup [a, b, c]) (.tup [a', b', c']) (x && (y && (z && true))) :=
 .tt (.cons h1 (.cons h2 (.cons h3 .nil)))
theorem canon_ext_tup {p : Pth} {a : Nd} (h : Canon (.ext p a)) : ∃ ds, nodeD a = .tup ds := by
 have := h.2.1
 cases a with
 | br ks v => exact ⟨_, nodeD_br⟩
 | nil => cases this
 | leaf _ _ => cases this
 | ext _ _ => cases this
theorem eq_pth {d : Nat} (p q : Pth) : ∃ r, EqD (d + 1) (pth p) (pth q) r /\ (r = true ↔ p = q) := by
 obtain ⟨r, h1, h2⟩ := eqDs_ints (d := d) (toI p) (toI q)
 exact ⟨r, .tt h1, by rw [h2, toI_inj]⟩
theorem eq_node : ∀ (a b : Nd) (k : Nat), Canon a -> Canon b -> fit a k -> ∃ r, EqN (2 * k + 3) (nodeD a) (nodeD b) r /\ (r = true ↔ a = b)
 | .nil, .nil, k, _, _, _ => ⟨true, by rw [nodeD_nil]; exact .nn, by simp⟩
 | .nil, .leaf _ _, k, _, _, _ => ⟨false, by rw [nodeD_nil, nodeD_leaf]; exact .nt, by simp⟩
 | .nil, .ext _ _, k, _, _, _ => ⟨false, by rw [nodeD_nil, nodeD_ext]; exact .nt, by simp⟩
 | .nil, .br _ _, k, _, _, _ => ⟨false, by rw [nodeD_nil, nodeD_br]; exact .nt, by simp⟩
 | .leaf _ _, .nil, k, _, _, _ => ⟨false, by rw [nodeD_nil, nodeD_leaf]; exact .tn, by simp⟩
 | .ext _ _, .nil, k, _, _, _ => ⟨false, by rw [nodeD_nil, nodeD_ext]; exact .tn, by simp⟩
 | .br _ _, .nil, k, _, _, _ => ⟨false, by rw [nodeD_nil, nodeD_br]; exact .tn, by simp⟩
 | .leaf p v, .leaf q w, k, _, _, _ => by
  obtain ⟨r, h1, h2⟩ := eq_pth (d := 2 * k + 2) p q
  refine ⟨_, by rw [nodeD_leaf, nodeD_leaf]; exact eq3 .ss h1 .yy, ?_⟩
  simp [h2]
 | .leaf p v, .ext q b, k, _, hb, _ => by
  refine x1_2 (eq_pth (d := 2 * k + 2) p q) fun r h1 h2 => ?_
  obtain ⟨ds, e⟩ := canon_ext_tup hb
  refine ⟨_, by rw [nodeD_leaf, nodeD_ext, extD, e]; exact eq3 .ss h1 .yt, ?_⟩
  simp
 | .ext p a, .leaf q w, k, ha, _, _ => by
  refine x1_2 (eq_pth (d := 2 * k + 2) p q) fun r h1 h2 => ?_
  obtain ⟨ds, e⟩ := canon_ext_tup ha
  refine ⟨_, by rw [nodeD_leaf, nodeD_ext, extD, e]; exact eq3 .ss h1 .ty, ?_⟩
  simp
 | .leaf p v, .br ks w, k, _, _, _ => by
  obtain ⟨r, h1⟩ := eqDs_in (d := 2 * k + 2) (fun i => nodeD_cases (ks i)) (toI p) (List.finRange 16)
  rw [<- kidsD_map] at h1
  refine ⟨_, by rw [nodeD_leaf, nodeD_br]; exact eq3 .ss (.tt h1) .yy, ?_⟩
  simp only [show ((Str.ofString "leaf" == Str.ofString "branch") = false) by decide, Bool.false_and]
  simp
 | .br ks w, .leaf p v, k, _, _, _ => by
  obtain ⟨r, h1⟩ := eqDs_ni (d := 2 * k + 2) (fun i => nodeD_cases (ks i)) (toI p) (List.finRange 16)
  rw [<- kidsD_map] at h1
  refine ⟨_, by rw [nodeD_leaf, nodeD_br]; exact eq3 .ss (.tt h1) .yy, ?_⟩
  simp only [show ((Str.ofString "branch" == Str.ofString "leaf") = false) by decide, Bool.false_and]
  simp
 | .ext p a, .br ks w, k, ha, _, _ => by
  refine x1_1 (eqDs_in (d := 2 * k + 2) (fun i => nodeD_cases (ks i)) (toI p) (List.finRange 16)) fun r h1 => ?_
  rw [<- kidsD_map] at h1
  obtain ⟨ds, e⟩ := canon_ext_tup ha
  refine ⟨_, by rw [nodeD_ext, nodeD_br, extD, e]; exact eq3 .ss (.tt h1) .ty, ?_⟩
  simp only [show ((Str.ofString "ext" == Str.ofString "branch") = false) by decide, Bool.false_and]
  simp
 | .br ks w, .ext p a, k, _, hb, _ => by
  refine x1_1 (eqDs_ni (d := 2 * k + 2) (fun i => nodeD_cases (ks i)) (toI p) (List.finRange 16)) fun r h1 => ?_
  rw [<- kidsD_map] at h1
  obtain ⟨ds, e⟩ := canon_ext_tup hb
  refine ⟨_, by rw [nodeD_ext, nodeD_br, extD, e]; exact eq3 .ss (.tt h1) .yt, ?_⟩
  simp only [show ((Str.ofString "branch" == Str.ofString "ext") = false) by decide, Bool.false_and]
  simp
 | .ext p a, .ext q b, k, ha, hb, hf => by
  refine x1_2 (eq_pth (d := 2 * k + 2) p q) fun r h1 h2 => ?_
  rw [fit_e] at hf
  obtain ⟨r', h3, h4⟩ := eq_node a b (k - p.length) ha.2.2 hb.2.2 hf.2.2
  refine ⟨_, by rw [nodeD_ext, nodeD_ext]; exact eq3 .ss h1 (h3.toD.le (by lia)), ?_⟩
  simp [h2, h4]
 | .br ks v, .br js w, k, ha, hb, hf => by
  rw [fit_b] at hf
  obtain ⟨r, h1, h2⟩ := eqDs_map (d := 2 * k + 2) (f := fun i => nodeD (ks i)) (g := fun i => nodeD (js i)) (P := fun i => ks i = js i) (List.finRange 16) fun i Z => by
   rcases hf.2 i with h | ⟨h, hfi⟩
   ·rw [isNil_eq h, nodeD_nil]
    cases js i with
    | nil => rw [nodeD_nil]; exact ⟨true, .nn, by simp⟩
    | leaf _ _ => rw [nodeD_leaf]; exact ⟨false, .nt, by simp⟩
    | ext _ _ => rw [nodeD_ext]; exact ⟨false, .nt, by simp⟩
    | br _ _ => rw [nodeD_br]; exact ⟨false, .nt, by simp⟩
   ·refine x1_2 (eq_node (ks i) (js i) (k - 1) (ha.1 i) (hb.1 i) hfi) fun r q1 q2 => ?_
    exact ⟨r, q1.toD.le (by lia), q2⟩
  rw [<- kidsD_map, <- kidsD_map] at h1
  refine ⟨_, by rw [nodeD_br, nodeD_br]; exact eq3 .ss (.tt h1) .yy, ?_⟩
  simp [h2, funext_iff]
section
variable {B : Bs} {n : Nat} {σ : Sto}
theorem cmp_node {a b : Nd} {k : Nat} (ha : Canon a) (hb : Canon b) (hf : fit a k) (hk : k <= 70) (hn : 20 <= n) : ∃ r, (r = true ↔ a = b) /\ Cmp .Eq (nodeD a) (nodeD b) r B n σ /\ Cmp .NotEq (nodeD a) (nodeD b) (!r) B n σ := by
 refine x1_2 (eq_node a b k ha hb hf) fun r h1 h2 => ?_
 refine ⟨r, h2, ?_⟩
 rcases nodeD_cases a with e1 | ⟨xs, e1⟩ <;> rcases nodeD_cases b with e2 | ⟨ys, e2⟩ <;> rw [e1, e2] at h1 ⊢
 ·cases h1; exact ⟨Cmp.eqNN, Cmp.neNN⟩
 ·cases h1; exact ⟨Cmp.eqNT, Cmp.neNT⟩
 ·cases h1; exact ⟨Cmp.eqTN, Cmp.neTN⟩
 ·cases h1 with
  | tt h1 => exact ⟨Cmp.eqT h1 (by lia), Cmp.neT h1 (by lia)⟩
theorem cmp_same {a : Nd} {k : Nat} (ha : Canon a) (hf : fit a k) (hk : k <= 70) (hn : 20 <= n) : Cmp .Eq (nodeD a) (nodeD a) true B n σ /\ Cmp .NotEq (nodeD a) (nodeD a) false B n σ := by
 refine x1_3 (cmp_node (B := B) (n := n) (σ := σ) ha ha hf hk hn) fun r h1 h2 h3 => ?_
 have : r = true := h1.mpr rfl
 subst this
 exact ⟨h2, h3⟩
theorem cmp_diff {a b : Nd} {k : Nat} (ha : Canon a) (hb : Canon b) (hf : fit a k) (hk : k <= 70) (hn : 20 <= n) (hne : a ≠ b) : Cmp .NotEq (nodeD a) (nodeD b) true B n σ := by
 refine x1_3 (cmp_node (B := B) (n := n) (σ := σ) ha hb hf hk hn) fun r h1 h2 h3 => ?_
 cases r with
 | true => exact absurd (h1.mp rfl) hne
 | false => exact h3
theorem eqDs_rows (d : Nat) : ∀ rs : List Row, EqDs (d + 2) (rs.map rowD) (rs.map rowD) true
 | [] => .nil
 | r :: rs => by
  refine x1_2 (eq_pth (d := d) r.1 r.1) fun x h1 h2 => ?_
  have hx : x = true := h2.mpr rfl
  subst hx
  have : EqD (d + 2) (rowD r) (rowD r) (true && ((r.2 == r.2) && true)) := .tt (.cons h1 (.cons .yy .nil))
  have e : (true && ((r.2 == r.2) && true)) = true := by simp
  rw [e] at this
  exact .cons this (eqDs_rows d rs)
end
noncomputable abbrev kvD (r : Row) : List Int × D := (toI r.1, .bytes r.2)
theorem book_get : ∀ {bk : List Row}, (bk.map (fun x => x.1)).Nodup -> ∀ {r : Row}, r ∈ bk -> dget (bk.map kvD) (toI r.1) = some (.bytes r.2)
 | x :: bk, hn, r, hr => by
  rw [List.map_cons, List.nodup_cons] at hn
  unfold dget
  rw [List.map_cons, List.find?_cons]
  rcases List.mem_cons.mp hr with rfl | hr
  ·simp
  ·have hne : x.1 ≠ r.1 := fun e => hn.1 (e ▸ List.mem_map_of_mem hr)
   have : ¬ toI x.1 = toI r.1 := fun e => hne (toI_inj.mp e)
   simp only [this, decide_false]
   exact book_get hn.2 hr
theorem book_none : ∀ {bk : List Row} {p : Pth}, (∀ r ∈ bk, r.1 ≠ p) -> dget (bk.map kvD) (toI p) = none
 | [], _, _ => rfl
 | x :: bk, p, h => by
  have : ¬ toI x.1 = toI p := fun e => h x (.head _) (toI_inj.mp e)
  unfold dget
  rw [List.map_cons, List.find?_cons]
  simp only [this, decide_false]
  exact book_none fun r hr => h r (.tail _ hr)
theorem book_va {a : Nd} {bk : List Row} (hn : (bk.map (fun x => x.1)).Nodup) (hh : Holds a bk) (p : Pth) : (dget (bk.map kvD) (toI p)).getD (.bytes []) = .bytes (valueAt a p) := by
 by_cases h : ∃ r ∈ bk, r.1 = p
 ·refine x1_2 h fun r hr Q => ?_; clear h; subst Q
  rw [book_get hn hr, hh.1 r hr]; rfl
 ·have h' : ∀ r ∈ bk, r.1 ≠ p := fun r hr e => h ⟨r, hr, e⟩
  rw [book_none h', hh.2 p h']; rfl
end
section
structure Held (a : Nd) (bk : List Row) : Prop where
 canon : Canon a
 holds : Holds a bk
 keys : (bk.map (fun x => x.1)).Nodup
 vals : ∀ r ∈ bk, r.2 ≠ [] /\ r.2.length <= 100
 lens : ∀ r ∈ bk, r.1.length <= 66
 few : bk.length <= 10
theorem ins_ex {x : Row} : ∀ {rs : List Row}, Asc rs -> (∀ r ∈ rs, r.1 ≠ x.1) -> ∃ ts : List Row, ts.Perm (x :: rs) /\ Asc ts
 | [], _, _ => ⟨[x], .refl _, by simp [Asc]⟩
 | y :: rs, h, hn => by
  unfold Asc at h
  rw [List.pairwise_cons] at h
  rcases plt_total (p := x.1) (q := y.1) (fun e => hn y (.head _) e.symm) with hlt | hlt
  ·refine ⟨x :: y :: rs, .refl _, ?_⟩
   unfold Asc
   rw [List.pairwise_cons, List.pairwise_cons]
   refine ⟨fun z hz => ?_, h⟩
   rcases List.mem_cons.mp hz with rfl | hz
   ·exact hlt
   ·exact plt_trans hlt (h.1 z hz)
  ·refine x1_2 (ins_ex (x := x) h.2 fun r hr => hn r (.tail _ hr)) fun ts hp ha => ?_
   refine ⟨y :: ts, (hp.cons y).trans (.swap x y rs), ?_⟩
   unfold Asc
   rw [List.pairwise_cons]
   refine ⟨fun z hz => ?_, ha⟩
   rcases List.mem_cons.mp (hp.mem_iff.mp hz) with rfl | hz
   ·exact hlt
   ·exact h.1 z hz
theorem sort_ex : ∀ {bk : List Row}, (bk.map (fun x => x.1)).Nodup -> ∃ rs : List Row, rs.Perm bk /\ Asc rs
 | [], _ => ⟨[], .refl _, .nil⟩
 | x :: bk, hn => by
  rw [List.map_cons, List.nodup_cons] at hn
  refine x1_2 (sort_ex hn.2) fun rs hp ha => ?_
  refine x1_2 (ins_ex (x := x) ha fun r hr e => hn.1 (e ▸ List.mem_map_of_mem (hp.mem_iff.mp hr))) fun ts hp2 ha2 => ?_
  exact ⟨ts, hp2.trans (hp.cons x), ha2⟩
structure Rows (a : Nd) (bk rs : List Row) : Prop extends Held a bk where
 perm : rs.Perm bk
 asc : Asc rs
theorem Held.rows {a : Nd} {bk : List Row} (h : Held a bk) : ∃ rs, Rows a bk rs := by
 refine x1_2 (sort_ex h.keys) fun rs hp ha => ?_
 exact ⟨rs, ⟨h, hp, ha⟩⟩
section
variable {a : Nd} {bk rs : List Row}
theorem Rows.node (h : Rows a bk rs) : a = mkN 66 rs :=
 node_uniq h.canon (h.holds.perm fun r => h.perm.mem_iff.symm) h.asc (fun r hr => h.lens r (h.perm.mem_iff.mp hr)) fun r hr => (h.vals r (h.perm.mem_iff.mp hr)).1
theorem Rows.fit (h : Rows a bk rs) : Pq.fit a 66 := by
 rw [h.node]
 exact fit_mkN 66 66 rs h.asc (fun r hr => h.lens r (h.perm.mem_iff.mp hr)) (fun r hr => h.lens r (h.perm.mem_iff.mp hr)) fun r hr => (h.vals r (h.perm.mem_iff.mp hr)).2
theorem Rows.len (h : Rows a bk rs) : rs.length <= 10 := by rw [h.perm.length_eq]; exact h.few
theorem Rows.cnt (h : Rows a bk rs) : cntN a <= 670 := by
 rw [h.node]
 have := cnt_mkN 66 rs
 have := Nat.mul_le_mul_left 67 h.len
 lia
theorem Rows.items (h : Rows a bk rs) : itemsN a [] = rs := by
 rw [h.node, items_mkN 66 rs [] h.asc (fun r hr => h.lens r (h.perm.mem_iff.mp hr)) fun r hr => (h.vals r (h.perm.mem_iff.mp hr)).1]
 simp
end
section
variable {B : Bs} {gl : Gl} {n : Nat} {ρ : Loc} {σ : Sto} {a : Nd} {bk rs : List Row}
theorem Ev.sortedBook {func o : Expr} {apos p1 pos : Pos} {x : Nat} (h : Rows a bk rs) (hf : Ev func (.raw (.builtin "sorted")) B gl n ρ σ σ) (ho : Ev o (.obj x) B gl n ρ σ σ) (hx : σ[x]? = some (.pdct (bk.map kvD)))
  (he : ∀ env, eval (.Call func [.Call (.Attribute o (Str.ofString "items") apos) [] [] p1] [] pos) env = (do callWith pos (<- eval func env) [] (backTo pos (starEach [.Call (.Attribute o (Str.ofString "items") apos) [] [] p1] env)) []) := by intro _; rfl)
  (ha : ∀ env, attributeBase o (Str.ofString "items") env (eval o env) = eval o env := by intro _; rfl) (hpos : (apos.endLine == p1.line) = true := by decide) :
  Ev (.Call func [.Call (.Attribute o (Str.ofString "items") apos) [] [] p1] [] pos) (.lst (rs.map rowD)) B gl n ρ σ σ := by
 have hf9 := h.few
 have hn : ((bk.map kvD).map (fun x => x.1)).Nodup := by
  have e : (bk.map kvD).map (fun x => x.1) = (bk.map (fun x => x.1)).map toI := by rw [List.map_map, List.map_map]; rfl
  rw [e]
  exact List.Pairwise.map toI (fun p q hne e => hne (toI_inj.mp e)) h.keys
 have hs : (rs.map kvD).Pairwise fun a b => pltB a.1 b.1 = true := by
  rw [List.pairwise_map]; exact h.asc
 have := Ev.sortedItems (B := B) (gl := gl) (n := n) (ρ := ρ) (pos := pos) (kvs := bk.map kvD) (rs := rs.map kvD) hf ho hx (by rw [List.length_map]; lia) hn (h.perm.map kvD) hs he ha hpos
 rw [List.map_map] at this
 exact this
end
end
section
section
variable {B : Bs} {n : Nat} {σ : Sto} {a : Nd} {bk rs : List Row} {t i bx : Nat}
theorem nibN_snoc (key : List UInt8) : nibN (key ++ [16]) = nibN key ++ [1, 0] := by
 unfold nibN
 rw [List.flatMap_append]; rfl
theorem book_get_ok (H : Held a bk) (hb : σ[bx]? = some (.pdct (bk.map kvD))) (p : Pth) : CallV (.builtin "dict.get") [.obj bx, pth p, .bytes []] (.bytes (valueAt a p)) B n σ σ := by
 have := CallV.getP (B := B) (n := n) (p := toI p) (d0 := .bytes []) hb
 rwa [book_va H.keys H.holds] at this
theorem Slc.butlast {p : Pth} (hz : p.length <= 1000000) : Slc (pth p) .none (.int (-1)) .none (pth p.dropLast) B n σ := by
 have := Slc.path (B := B) (n := n) (σ := σ) (p := toI p) (l := .none) (u := .int (-1)) .none .int (by rw [toI_length]; exact hz)
 rw [pick_butlast] at this
 have e : (toI p).dropLast = toI p.dropLast := by unfold toI; rw [List.map_dropLast]
 rwa [e] at this
noncomputable abbrev ihLoc (t bx : Nat) (ks : D) (key path before refused : Option D) : Loc := [(Str.ofString "trie", some (.inst 255 t)), (Str.ofString "book", some (.obj bx)), (Str.ofString "known", some ks), (Str.ofString "key", key), (Str.ofString "path", path), (Str.ofString "before", before), (Str.ofString "is_refused", refused)]
noncomputable abbrev ihFor (w : World) : Stmt := sAt 1 (bodyIn (KK w) 364)
theorem bne_same {v : List UInt8} : (v != v) = false := by simp
theorem ih_loop {q : D} (H : Rows a bk rs) (ht : σ[t]? = some (trieC i a)) (hb : σ[bx]? = some (.pdct (bk.map kvD))) : ∀ (l : List (List UInt8)) (o1 o2 : Option D), (∀ k ∈ l, k.length <= 32) -> ∃ o1' o2',
  ForL (loopTgt (ihFor B.w)) (loopBody (ihFor B.w)) B gl_law_is_held (n + 3) (l.map D.bytes) .next (ihLoc t bx q o1 o2 none none) (ihLoc t bx q o1' o2' none none) σ σ
 | [], o1, o2, _ => ⟨o1, o2, .nil⟩
 | key :: l, o1, o2, hl => by
  have hkey := hl key (.head _)
  refine x2_1 (ih_loop (q := q) H ht hb l (some (.bytes key)) (some (pth (nibN key))) fun k hk => hl k (.tail _ hk)) fun o1' o2' hf => ?_
  have hg : findIn (KK B.w) (.ref 255) "get" = some (some (.ref 245)) := by kernel_rfl
  have hft : typeIn (KK B.w) (.ref 245) = some (.type "function") := by kernel_rfl
  have kn : findIn (KK B.w) (.ref 255) "node" = some none := by kernel_rfl
  have hfit := H.fit
  have hnl := nibN_length key
  have g1 := trie_get_ok (B := B) (n := n) (key := key) ht hfit (by decide) (by lia)
  have g2 := trie_get_ok (B := B) (n := n) (key := key ++ [16]) ht hfit (by decide) (by simp; lia)
  rw [nibN_snoc] at g2
  have v1 := value_at_ok (B := B) (n := n + 1) (σ := σ) (p := (nibN key).dropLast) hfit (by decide) (by rw [List.length_dropLast]; lia)
  refine ⟨o1', o2', .step (Tgt.name (by walk_at "v")) (Ex.seq (St1.assign (Ev.call (Ev.g g_law_path) (Keeps'.fn rfl) (.cons Ev.name .nil) (Call.v (law_path_ok (n := n + 2) (b := key) (by lia)))) (by walk_at "v"))
   (Ex.ifF (EvT.eq (EvT.or (x := valueAt a (nibN key) != valueAt a (nibN key)) (y := valueAt a (nibN key).dropLast != valueAt a (nibN key).dropLast)
     (EvT.cmp (Ev.meth Ev.name (Meth.inst (ck_trie _) hg hft ht rfl) (Keeps'.fn rfl) (.cons Ev.name .nil) (Call.v g1)) (Ev.meth Ev.name (Meth.pdct hb PySem.F.slot_dict_get PySem.F.type_dict_get) .builtin (.cons Ev.name (.cons .cbytes .nil)) (book_get_ok H.toHeld hb _)) .neY)
     (fun Z => EvT.cmp (Ev.call (Ev.g g_value_at) (Keeps'.fn rfl) (.cons (Ev.attr (d := nodeD a) Ev.name (ck_trie _) kn ht rfl (hr := nodeD_raw)) (.cons (Ev.slice Ev.name .none (.some (Ev.neg .cint)) .none (Slc.butlast (p := nibN key) (by lia))) .nil)) (Call.v v1))
      (Ev.meth Ev.name (Meth.pdct hb PySem.F.slot_dict_get PySem.F.type_dict_get) .builtin (.cons (Ev.slice Ev.name .none (.some (Ev.neg .cint)) .none (Slc.butlast (p := nibN key) (by lia))) (.cons .cbytes .nil)) (book_get_ok H.toHeld hb _)) .neY) (fun Z => rfl)) (by rw [bne_same, bne_same]; rfl))
   (Ex.ifF (EvT.eq (EvT.cmp (Ev.meth Ev.name (Meth.inst (ck_trie _) hg hft ht rfl) (Keeps'.fn rfl) (.cons (Ev.bin Ev.name (Ev.call (Ev.g g_bytes) .type (.cons (Ev.list (.cons .cint .nil)) .nil) (CallV.bytL (ks := [16]) (by simp) (by simp))) (.addY (x := key) (y := [16]) (by simp; lia))) .nil) (Call.v g2))
     (Ev.meth Ev.name (Meth.pdct hb PySem.F.slot_dict_get PySem.F.type_dict_get) .builtin (.cons (Ev.bin Ev.name (Ev.eq (d' := pth [1, 0]) (Ev.tuple (.cons .cint (.cons .cint .nil))) rfl) (.addPth (p := nibN key) (q := [1, 0]) (by simp; lia))) (.cons .cbytes .nil)) (book_get_ok H.toHeld hb _)) .neY) bne_same) .nil))) hf⟩
theorem is_held_ok {keys : List (List UInt8)} (H : Rows a bk rs) (ht : σ[t]? = some (trieC i a)) (hb : σ[bx]? = some (.pdct (bk.map kvD))) (hk : ∀ k ∈ keys, k.length <= 32) : Call 364 [.inst 255 t, .obj bx, .lst (keys.map D.bytes)] (.bool true) B (n + 150) σ σ := by
 have kn : findIn (KK B.w) (.ref 255) "node" = some none := by kernel_rfl
 have hp : findIn (KK B.w) (.ref 255) "put" = some (some (.ref 238)) := by kernel_rfl
 have hpt : typeIn (KK B.w) (.ref 238) = some (.type "function") := by kernel_rfl
 have hfit := H.fit
 have hlen := H.len
 have hit := items_ok (B := B) (n := n + 148) (σ := σ) hfit (by decide) (by lia) (by rw [H.items]; lia)
 rw [H.items] at hit
 refine x2_1 (ih_loop (B := B) (n := n + 146) (q := .lst (keys.map D.bytes)) H ht hb keys none none hk) fun o1 o2 lp => ?_
 have eqr := eqDs_rows 0 rs
 have eqn := (cmp_same (B := B) (n := n + 149) (σ := σ) H.canon hfit (by decide) (by lia)).1
 let k33 : List UInt8 := (List.replicate (33 : Int).toNat (17 : Int)).map fun k => k.toNat.toUInt8
 have px := trie_put_x (B := B) (σ := σ) (t := t) (n := n + 146) (key := k33) (v := [1]) (by decide) (by decide)
 refine Call.rt (fn_law_is_held _) (Rt.ifF (EvT.eq (EvT.cmp (Ev.call (Ev.g g_items) (Keeps'.fn rfl) (.cons (Ev.attr (d := nodeD a) Ev.name (ck_trie _) kn ht rfl (hr := nodeD_raw)) .nil) (Call.v hit)) (Ev.sortedBook H (Ev.g g_sorted) Ev.name hb) (.neL eqr)) rfl)
  (Rt.seq (St1.of (StX.for_ (EvI.val Ev.name .lst) lp))
  (Rt.seq (St1.unpack (ds := [nodeD a, .bool false]) (Ev.tuple (.cons (Ev.attr (d := nodeD a) Ev.name (ck_trie _) kn ht rfl (hr := nodeD_raw)) (.cons .cbool .nil))) (by walk_at "v") (hw := fun env hk => swapped_or rfl (by decide) env hk))
  (Rt.seq (St1.of (StX.tryX (StR.expr (EvX.meth (ds := [.bytes k33, .bytes [1]]) Ev.name (Meth.inst (ck_trie _) hp hpt ht rfl) (Keeps'.fn rfl) (.cons (Ev.call (Ev.g g_bytes) .type (.cons (Ev.eq (d' := .lst ((List.replicate (33 : Int).toNat (17 : Int)).map D.int)) (Ev.bin (Ev.list (.cons .cint .nil)) .cint (.mulL (by decide) (by decide))) rfl) .nil) (CallV.bytL (ks := List.replicate (33 : Int).toNat (17 : Int)) (fun k hk => by rw [List.eq_of_mem_replicate hk]; decide) (by decide))) (.cons .cbytes .nil)) px)) (Su.bool (by walk_at "v"))))
  (Rt.ret (Ev.eq (Ev.and (x := true) (y := true) Ev.name (fun Z => Ev.cmp (Ev.attr (d := nodeD a) Ev.name (ck_trie _) kn ht rfl (hr := nodeD_raw)) Ev.name eqn) (fun h => nomatch h)) rfl)))))) rfl
end
end
section
theorem lcp_comm {α : Type} [DecidableEq α] : ∀ p q : List α, lcp p q = lcp q p
 | [], [] => rfl
 | [], _ :: _ => rfl
 | _ :: _, [] => rfl
 | x :: p, y :: q => by
  rw [lcp_c, lcp_c]
  by_cases h : x = y
  ·rw [if_pos h, if_pos h.symm, lcp_comm p q]
  ·rw [if_neg h, if_neg (Ne.symm h)]
noncomputable abbrev paC (w : World) : Expr := arg0 (valOf (sAt 0 (bodyIn (KK w) 376)))
noncomputable abbrev poC (w : World) : Expr := arg0 (valOf (sAt 7 (bodyIn (KK w) 376)))
noncomputable abbrev paWh (w : World) : Stmt := sAt 5 (bodyIn (KK w) 376)
noncomputable abbrev paLoc (w : Nat) (path leaf octets other alike found : Option D) : Loc := [(Str.ofString "well", some (.obj w)), (Str.ofString "path", path), (Str.ofString "is_leaf", leaf), (Str.ofString "octets", octets), (Str.ofString "other", other), (Str.ofString "alike", alike), (Str.ofString "found", found)]
section
variable {B : Bs} {n : Nat} {σ : Sto} {w : Nat}
theorem pa_comp : ∀ (l : List D) (σ : Sto) (y : Cell) (o : Option D), σ[w]? = some y -> WellOk y -> ∃ (p : Pth) (y' : Cell), p.length = l.length /\ WellOk y' /\
  CompE (paC B.w) B gl_law_are_paths (n + 1) l ((toI p).map D.int) [(Str.ofString "turn", o), (Str.ofString "well", some (.obj w))] σ (σ.set w y') := by
 intro l
 induction l with
 | nil => intro σ y o hx hy; exact ⟨[], y, rfl, hy, by rw [set_self hx]; exact .nil⟩
 | cons d l ih =>
  intro σ y o hx hy
  refine x2_4 (draw_ok (B := B) (n := n) hx hy (many := 16) (by decide)) fun r y1 hy1 h0 h1 hc => ?_
  refine x2_3 (ih (σ.set w y1) y1 (some d) (get_set hx) hy1) fun p y2 e1 e3 e4 => ?_
  rw [List.set_set] at e4
  refine x1_1 (⟨⟨r.toNat, by lia⟩, by show r = ((r.toNat : Nat) : Int); lia⟩ : ∃ x : _root_.Fin 16, r = (x.val : Int)) fun x Q => ?_; subst Q
  refine ⟨x :: p, y2, by simp [e1], e3, ?_⟩
  rw [toI_cons]
  exact .keep (σ1 := σ) (TgtL.name (by walk_at "v")) .nil (Ev.call (Ev.g g_law_draw) (Keeps'.fn rfl) (.cons Ev.name (.cons .cint .nil)) (Call.v hc)) e4
theorem po_comp : ∀ (l : List Int) (σ : Sto) (y : Cell) (o : Option D), σ[w]? = some y -> WellOk y -> ∃ (es : List Int) (y' : Cell), es.length = l.length /\ (∀ e ∈ es, 0 <= e /\ e < 256) /\ WellOk y' /\
  CompE (poC B.w) B gl_law_are_paths (n + 1) (l.map D.int) (es.map D.int) [(Str.ofString "turn", o), (Str.ofString "well", some (.obj w))] σ (σ.set w y') := by
 intro l
 induction l with
 | nil => intro σ y o hx hy; exact ⟨[], y, rfl, (fun Z h => nomatch h), hy, by rw [set_self hx]; exact .nil⟩
 | cons k l ih =>
  intro σ y o hx hy
  refine x2_4 (draw_ok (B := B) (n := n) hx hy (many := if k = 0 then 80 else 256) (by split <;> decide)) fun r y1 hy1 h0 h1 hc => ?_
  refine x2_4 (ih (σ.set w y1) y1 (some (.int k)) (get_set hx) hy1) fun es y2 e1 e2 e3 e4 => ?_
  rw [List.set_set] at e4
  refine ⟨r :: es, y2, by simp [e1], fun e he => (List.mem_cons.mp he).elim (fun h => h ▸ ⟨h0, by split at h1 <;> lia⟩) (e2 e), e3, ?_⟩
  exact .keep (σ1 := σ) (TgtL.name (by walk_at "v")) .nil (Ev.call (Ev.g g_law_draw) (Keeps'.fn rfl) (.cons Ev.name (.cons (Ev.ifexp (d := .int (if k = 0 then 80 else 256)) (EvT.cmp Ev.name .cint .eqI) (fun h => Ev.eq .cint (by rw [if_pos (by simpa using h)])) (fun h => Ev.eq .cint (by rw [if_neg (by simpa using h)]))) .nil)) (Call.v hc)) e4
theorem pa_loop {lf oc : Option D} {p q : Pth} (hp : p.length <= 100000) (hq : q.length <= 100000) : ∀ (m k : Nat), k + m = lcp p q ->
  Wh (loopTgt (paWh B.w)) (loopBody (paWh B.w)) B gl_law_are_paths n m .next (paLoc w (some (pth p)) lf oc (some (pth q)) (some (.int k)) none) (paLoc w (some (pth p)) lf oc (some (pth q)) (some (.int (lcp p q : Nat))) none) σ σ := by
 have l1 := lcp_le_left p q
 have l2 := lcp_le_right p q
 intro m
 induction m with
 | zero =>
  intro k hk
  obtain rfl : k = lcp p q := by omega
  refine .done ?_
  by_cases h : lcp p q < p.length /\ lcp p q < q.length
  ·refine x2_3 (lcp_end h.1 h.2) fun x y e1 e2 hne => ?_
   refine EvT.eq (EvT.and (y := ((x.val : Int) == (y.val : Int))) (EvT.cmp Ev.name (Ev.call (Ev.g g_min) .builtin (.cons (Ev.call (Ev.g g_len) .builtin (.cons Ev.name .nil) (CallV.lenPth (p := p) (by lia))) (.cons (Ev.call (Ev.g g_len) .builtin (.cons Ev.name .nil) (CallV.lenPth (p := q) (by lia))) .nil)) .min2) .lt) (fun Z => EvT.cmp (Ev.sub Ev.name Ev.name (Item.pth (p := p) (x := x) (by lia) (by simpa using e1) (by lia))) (Ev.sub Ev.name Ev.name (Item.pth (p := q) (x := y) (by lia) (by simpa using e2) (by lia))) .eqI) (fun Z => rfl)) ?_
   rw [Bool.and_eq_false_iff]
   right
   exact beq_false_of_ne fun e => hne (Fin.ext (by lia))
  ·have hx : decide (((lcp p q : Nat) : Int) < min (p.length : Int) (q.length : Int)) = false := by simp; omega
   refine EvT.eq (EvT.and (y := true) (EvT.cmp Ev.name (Ev.call (Ev.g g_min) .builtin (.cons (Ev.call (Ev.g g_len) .builtin (.cons Ev.name .nil) (CallV.lenPth (p := p) (by lia))) (.cons (Ev.call (Ev.g g_len) .builtin (.cons Ev.name .nil) (CallV.lenPth (p := q) (by lia))) .nil)) .min2) .lt) (fun h => by rw [hx] at h; cases h) (fun Z => rfl)) ?_
   simp only [hx, Bool.false_and]
 | succ m ih =>
  intro k hk
  refine x1_2 (lcp_in (p := p) (q := q) (k := k) (by lia)) fun x e1 e2 => ?_
  have ih' := ih (k + 1) (by lia)
  rw [show (((k + 1 : Nat)) : Int) = (k : Int) + 1 from rfl] at ih'
  refine .step (σ1 := σ) (σ2 := σ) ?_ ?_ ih'
  ·refine EvT.eq (EvT.and (y := ((x.val : Int) == (x.val : Int))) (EvT.cmp Ev.name (Ev.call (Ev.g g_min) .builtin (.cons (Ev.call (Ev.g g_len) .builtin (.cons Ev.name .nil) (CallV.lenPth (p := p) (by lia))) (.cons (Ev.call (Ev.g g_len) .builtin (.cons Ev.name .nil) (CallV.lenPth (p := q) (by lia))) .nil)) .min2) .lt) (fun Z => EvT.cmp (Ev.sub Ev.name Ev.name (Item.pth (p := p) (x := x) (by lia) (by simpa using e1) (by lia))) (Ev.sub Ev.name Ev.name (Item.pth (p := q) (x := x) (by lia) (by simpa using e2) (by lia))) .eqI) (fun Z => rfl)) ?_
   simp; lia
  ·exact Ex.seq (St1.assign (Ev.bin Ev.name .cint .add) (by walk_at "v")) .nil
theorem read_ne (r : Option (Pth × Bool)) : Cmp .NotEq (readD r) (readD r) false B n σ := by
 cases r with
 | none => exact Cmp.neNN
 | some x =>
  obtain ⟨p, l⟩ := x
  obtain ⟨z, h1, h2⟩ := eq_pth (d := 2) p p
  have hz : z = true := h2.mpr rfl
  subst hz
  have := Cmp.neT (B := B) (n := n) (σ := σ) (xs := [pth p, .bool l]) (ys := [pth p, .bool l]) (.cons h1 (.cons .bb .nil)) (by lia)
  have e : (!(true && ((l == l) && true))) = false := by simp
  rwa [e] at this
theorem pa_tail {y : Cell} {p : Pth} {l : Bool} {oc ot al fo : Option D} (hx : σ[w]? = some y) (hy : WellOk y) (hp : p.length <= 10) : ∃ y', WellOk y' /\
  Rt ((bodyIn (KK B.w) 376).drop 10) (.bool true) B gl_law_are_paths (n + 5) (paLoc w (some (pth p)) (some (.bool l)) oc ot al fo) σ (σ.set w y') := by
 refine x2_4 (draw_ok (B := B) (n := n + 4) hx hy (many := 3) (by decide)) fun r y1 hy1 r0 r1 c1 => ?_
 obtain ⟨z, hz, hz2⟩ : ∃ z : Int, ([.int (-1), .int 16, .int 255] : List D)[r.toNat]? = some (.int z) /\ (z < 0 \/ 15 < z) := by
  obtain ⟨k, rfl⟩ := Int.eq_ofNat_of_zero_le r0
  have : k < 3 := by lia
  match k, this with
  | 0, _ => exact ⟨-1, rfl, .inl (by decide)⟩
  | 1, _ => exact ⟨16, rfl, .inr (by decide)⟩
  | 2, _ => exact ⟨255, rfl, .inr (by decide)⟩
 refine ⟨y1, hy1, ?_⟩
 have px := packed_x (B := B) (n := n + 2) (σ := σ.set w y1) (r := toI p) (s := toI p) (y := z) (leaf := l) hz2 toI_in
 have hl : (toI p).length <= 10 := by rw [toI_length]; exact hp
 exact Rt.last (StX.tryX (StR.expr (EvX.call (Ev.g g_packed) (Keeps'.fn rfl) (.cons (Ev.eq (d' := pathI (toI p ++ z :: toI p)) (Ev.bin (Ev.bin Ev.name (Ev.eq (d' := pathI [z]) (Ev.tuple (.cons (Ev.sub (Ev.tuple (.cons (Ev.neg .cint) (.cons .cint (.cons .cint .nil)))) (Ev.call (Ev.g g_law_draw) (Keeps'.fn rfl) (.cons Ev.name (.cons .cint .nil)) (Call.v c1)) (.tup (i := r) (d := .int z) r0 hz (by simp))) .nil)) rfl) (.addP (by simp; lia))) Ev.name (.addP (by simp; lia))) (by simp)) (.cons Ev.name .nil)) px)) Su.retBool)
end
end
section
section
variable {B : Bs} {n : Nat} {σ : Sto} {w : Nat}
theorem ups_ints (m : Nat) : ups 0 1 m = ((List.range m).map fun (k : Nat) => (0 : Int) + 1 * (k : Int)).map D.int := by
 unfold ups; rw [List.map_map]; rfl
theorem pa_try {p : Pth} {l : Bool} {b : List UInt8} {ot al : Option D} (hb : b.length <= 1000) :
  St1 (sAt 8 (bodyIn (KK B.w) 376)) B gl_law_are_paths (n + 5) (paLoc w (some (pth p)) (some (.bool l)) (some (.bytes b)) ot al none) (paLoc w (some (pth p)) (some (.bool l)) (some (.bytes b)) ot al (some (readD (readN b)))) σ σ := by
 cases hr : readN b with
 | none =>
  rw [show readD none = .none from rfl]
  exact St1.of (StX.tryX (StR.assign (EvX.call (Ev.g g_unpacked) (Keeps'.fn rfl) (.cons Ev.name .nil) (unpacked_x (n := n + 2) (by lia) hr))) (Su.none (by walk_at "v")))
 | some x =>
  obtain ⟨q, m⟩ := x
  rw [show readD (some (q, m)) = .tup [pth q, .bool m] from rfl]
  exact St1.of (StX.tryOk (h0 := .Pass ⟨0, 0, 0, 0⟩) (St1.assign (Ev.call (Ev.g g_unpacked) (Keeps'.fn rfl) (.cons Ev.name .nil) (Call.v (unpacked_ok (n := n + 3) (by lia) hr))) (by walk_at "v")))
theorem are_paths_ok {y : Cell} (hx : σ[w]? = some y) (hy : WellOk y) : ∃ y', WellOk y' /\ Call 376 [.obj w] (.bool true) B (n + 20) σ (σ.set w y') := by
 refine x2_4 (draw_ok (B := B) (n := n + 18) hx hy (many := 6) (by decide)) fun r0 y0 hy0 a0 b0 c0 => ?_
 have x0 := get_set (z := y0) hx
 refine x2_3 (pa_comp (B := B) (n := n + 18) (ups 0 1 r0.toNat) (σ.set w y0) y0 none x0 hy0) fun p y1 hpl hy1 k1 => ?_
 rw [List.set_set] at k1
 rw [upsLen] at hpl
 have x1 := get_set (z := y1) hx
 refine x2_4 (draw_ok (B := B) (n := n + 18) x1 hy1 (many := 2) (by decide)) fun r2 y2 hy2 a2 b2 c2 => ?_
 rw [List.set_set] at c2
 have x2 := get_set (z := y2) hx
 refine x2_3 (law_key_ok (B := B) (n := n + 17) x2 hy2) fun key y3 hkl hy3 c3 => ?_
 rw [List.set_set] at c3
 have x3 := get_set (z := y3) hx
 refine x2_4 (draw_ok (B := B) (n := n + 18) x3 hy3 (many := 4) (by decide)) fun r4 y4 hy4 a4 b4 c4 => ?_
 rw [List.set_set] at c4
 have x4 := get_set (z := y4) hx
 refine x2_4 (po_comp (B := B) (n := n + 18) ((List.range r4.toNat).map fun (k : Nat) => (0 : Int) + 1 * (k : Int)) (σ.set w y4) y4 none x4 hy4) fun es y5 hel hes hy5 k5 => ?_
 rw [List.set_set, <- ups_ints] at k5
 rw [List.length_map, List.length_range] at hel
 have x5 := get_set (z := y5) hx
 let b : List UInt8 := es.map fun k => k.toNat.toUInt8
 have hbl : b.length <= 4 := by show (es.map _).length <= 4; rw [List.length_map]; lia
 obtain ⟨y6, hy6, ρ', tl⟩ := pa_tail (B := B) (n := n + 14) (p := p) (l := r2 == 1) (oc := some (.bytes b)) (ot := some (pth (nibN key))) (al := some (.int (lcp p (nibN key) : Nat))) (fo := some (readD (readN b))) x5 hy5 (by lia)
 rw [List.set_set] at tl
 have hnl := nibN_length key
 have rp := read_pack p (r2 == 1)
 have hplen : (packI (toI p) (r2 == 1)).length <= 11 := by have := @packI_length (toI p) (r2 == 1); rw [toI_length] at this; lia
 refine x1_2 (eq_pth (d := 2) p p) fun z e1 e2 => ?_
 have hz : z = true := e2.mpr rfl
 subst hz
 have wh := pa_loop (B := B) (n := n + 19) (σ := σ.set w y3) (w := w) (lf := some (.bool (r2 == 1))) (oc := some (.bytes key)) (p := p) (q := nibN key) (by lia) (by lia) _ 0 (Nat.zero_add _)
 rw [show ((0 : Nat) : Int) = 0 from rfl] at wh
 refine ⟨y6, hy6, ?_⟩
 refine' Call.set0 (fn_law_are_paths _)
  (Ex.seq (St1.assign (d := pth p) (Ev.call (Ev.g g_tuple) .type (.cons (Ev.comp (σ1 := σ.set w y0) (σ' := σ.set w y1) (es := (toI p).map D.int) (tgts := [Str.ofString "turn"]) (caps := [(Str.ofString "well", .obj w)]) (.of (capN := [Str.ofString "well"]) rfl (by decide) (Clos.one rfl)) (EvI.range1 (Ev.g g_range) (.cons (Ev.call (Ev.g g_law_draw) (Keeps'.fn rfl) (.cons Ev.name (.cons .cint .nil)) (Call.v c0)) .nil) a0 (by lia)) (.cons (by walk_at "v") .nil) k1 ?s1) .nil) (CallV.tupL ?s2)) (by walk_at "v"))
  (Ex.seq (St1.unpack (ds := [.bool (r2 == 1), .bytes key]) (Ev.tuple (.cons (Ev.cmp (Ev.call (Ev.g g_law_draw) (Keeps'.fn rfl) (.cons Ev.name (.cons .cint .nil)) (Call.v c2)) .cint .eqI) (.cons (Ev.call (Ev.g g_law_key) (Keeps'.fn rfl) (.cons Ev.name .nil) (Call.v c3)) .nil))) (by walk_at "v") (hw := fun env hk => swapped_or rfl (by decide) env hk))
  (Ex.ifF (EvT.eq (EvT.or (x := packI (toI p) (r2 == 1) != packI (toI p) (r2 == 1)) (y := !(true && (((r2 == 1) == (r2 == 1)) && true)))
    (EvT.cmp (Ev.call (Ev.g g_packed) (Keeps'.fn rfl) (.cons Ev.name (.cons Ev.name .nil)) (Call.v (toI_ok (n := n + 18) ?s3))) (Ev.call (Ev.g g_law_spelled) (Keeps'.fn rfl) (.cons Ev.name (.cons Ev.name .nil)) (Call.v (spell_ok (n := n + 18) ?s4))) .neY)
    (fun Z => EvT.cmp (Ev.call (Ev.g g_unpacked) (Keeps'.fn rfl) (.cons (Ev.call (Ev.g g_packed) (Keeps'.fn rfl) (.cons Ev.name (.cons Ev.name .nil)) (Call.v (toI_ok (n := n + 18) ?s5))) .nil) (Call.v (unpacked_ok (n := n + 17) ?s6 rp))) (Ev.tuple (.cons Ev.name (.cons Ev.name .nil))) (.neT (.cons e1 (.cons .bb .nil)) ?s7)) (fun Z => rfl)) ?s8)
  (Ex.seq (St1.unpack (ds := [pth (nibN key), .int 0]) (Ev.tuple (.cons (Ev.call (Ev.g g_nibbles_of) (Keeps'.fn rfl) (.cons Ev.name .nil) (Call.v (nibbles_pth (n := n + 18) (b := key) ?s9))) (.cons .cint .nil))) (by walk_at "v") (hw := fun env hk => swapped_or rfl (by decide) env hk))
  (Ex.ifF (EvT.eq (EvT.cmp Ev.name (Ev.call (Ev.g g_law_path) (Keeps'.fn rfl) (.cons Ev.name .nil) (Call.v (law_path_ok (n := n + 18) (b := key) ?s10))) .nePth) ?s11)
  (Ex.seq (St1.of (StX.while_ wh))
  (Ex.ifF (EvT.eq (EvT.or (x := (((lcp p (nibN key) : Nat) : Int) != ((lcp p (nibN key) : Nat) : Int))) (y := (((lcp (nibN key) p : Nat) : Int) != ((lcp p (nibN key) : Nat) : Int)))
    (EvT.cmp (Ev.call (Ev.g g_shared) (Keeps'.fn rfl) (.cons Ev.name (.cons Ev.name .nil)) (Call.v (shared_pth (n := n + 18) (p := p) (q := nibN key) ?s12 ?s13))) Ev.name .neI)
    (fun Z => EvT.cmp (Ev.call (Ev.g g_shared) (Keeps'.fn rfl) (.cons Ev.name (.cons Ev.name .nil)) (Call.v (shared_pth (n := n + 18) (p := nibN key) (q := p) ?s14 ?s15))) Ev.name .neI) (fun Z => rfl)) ?s16)
  (Ex.seq (St1.assign (d := .bytes b) (Ev.call (Ev.g g_bytes) .type (.cons (Ev.comp (σ1 := σ.set w y4) (σ' := σ.set w y5) (es := es.map D.int) (tgts := [Str.ofString "turn"]) (caps := [(Str.ofString "well", .obj w)]) (.of (capN := [Str.ofString "well"]) rfl (by decide) (Clos.one rfl)) (EvI.range1 (Ev.g g_range) (.cons (Ev.call (Ev.g g_law_draw) (Keeps'.fn rfl) (.cons Ev.name (.cons .cint .nil)) (Call.v c4)) .nil) a4 (by lia)) (.cons (by walk_at "v") .nil) k5 ?s17) .nil) (CallV.bytL hes ?s18)) (by walk_at "v"))
  (Ex.seq (pa_try (n := n + 14) (b := b) ?s19)
  (Ex.ifF (EvT.cmp Ev.name (Ev.call (Ev.g g_law_read) (Keeps'.fn rfl) (.cons Ev.name .nil) (Call.v (law_read_ok (n := n + 17) (b := b) ?s20))) (read_ne _)) tl)))))))))) rfl ?s21
 case s1 => rw [upsLen]; lia
 case s2 => rw [List.length_map, toI_length]; lia
 case s3 => lia
 case s4 => lia
 case s5 => lia
 case s6 => lia
 case s7 => lia
 case s8 => simp
 case s9 => lia
 case s10 => lia
 case s11 => simp
 case s12 => lia
 case s13 => lia
 case s14 => lia
 case s15 => lia
 case s16 => rw [lcp_comm (nibN key) p]; simp
 case s17 => rw [upsLen]; lia
 case s18 => lia
 case s19 => lia
 case s20 => lia
 case s21 => intro _; exact hy6.low _
end
end
section
noncomputable def delR (bk : List Row) (p : Pth) : List Row := bk.filter fun r => !decide (r.1 = p)
noncomputable def putR (bk : List Row) (p : Pth) (v : List UInt8) : List Row := (p, v) :: delR bk p
theorem mem_delR {bk : List Row} {p : Pth} {r : Row} : r ∈ delR bk p ↔ r ∈ bk /\ r.1 ≠ p := by unfold delR; rw [List.mem_filter]; simp
theorem mem_putR {bk : List Row} {p : Pth} {v : List UInt8} {r : Row} : r ∈ putR bk p v ↔ r = (p, v) \/ (r ∈ bk /\ r.1 ≠ p) := by unfold putR; rw [List.mem_cons, mem_delR]
theorem delR_len {bk : List Row} {p : Pth} : (delR bk p).length <= bk.length := List.length_filter_le _ _
theorem delR_keys {bk : List Row} {p : Pth} (h : (bk.map (fun x => x.1)).Nodup) : ((delR bk p).map (fun x => x.1)).Nodup := List.Nodup.sublist (List.filter_sublist.map _) h
theorem holds_put {a : Nd} {bk : List Row} {p : Pth} {v : List UInt8} (h : Holds a bk) : Holds (putIn a p v) (putR bk p v) := by
 refine ⟨fun r hr => ?_, fun u hu => ?_⟩
 ·rw [va_putIn]
  rcases mem_putR.mp hr with rfl | ⟨hr, hne⟩
  ·rw [if_pos rfl]
  ·rw [if_neg hne]; exact h.1 r hr
 ·rw [va_putIn, if_neg (fun e => hu (p, v) (mem_putR.mpr (.inl rfl)) e.symm)]
  by_cases hp : u = p
  ·exact absurd hp.symm (hu (p, v) (mem_putR.mpr (.inl rfl)))
  ·exact h.2 u fun r hr e => hu r (mem_putR.mpr (.inr ⟨hr, fun e2 => hp (e.symm.trans e2)⟩)) e
theorem holds_del {a : Nd} {bk : List Row} {p : Pth} (h : Holds a bk) : Holds (takenOut a p) (delR bk p) := by
 refine ⟨fun r hr => ?_, fun u hu => ?_⟩
 ·refine x0_2 (mem_delR.mp hr) fun hr hne => ?_
  rw [va_takenOut, if_neg hne]; exact h.1 r hr
 ·rw [va_takenOut]
  by_cases hp : u = p
  ·rw [if_pos hp]
  ·rw [if_neg hp]; exact h.2 u fun r hr e => hu r (mem_delR.mpr ⟨hr, fun e2 => hp (e.symm.trans e2)⟩) e
theorem Held.put {a : Nd} {bk : List Row} {p : Pth} {v : List UInt8} (h : Held a bk) (hv : v ≠ []) (hl : v.length <= 100) (hp : p.length <= 66) (hf : bk.length + 1 <= 10) : Held (putIn a p v) (putR bk p v) := by
 refine ⟨canon_putIn hv h.canon, holds_put h.holds, ?_, fun r hr => ?_, fun r hr => ?_, ?_⟩
 ·show ((p, v) :: delR bk p |>.map (fun x => x.1)).Nodup
  rw [List.map_cons, List.nodup_cons]
  refine ⟨fun hm => ?_, delR_keys h.keys⟩
  refine x1_2 (List.mem_map.mp hm) fun r hr e => ?_
  exact (mem_delR.mp hr).2 e
 ·rcases mem_putR.mp hr with rfl | ⟨hr, _⟩
  ·exact ⟨hv, hl⟩
  ·exact h.vals r hr
 ·rcases mem_putR.mp hr with rfl | ⟨hr, _⟩
  ·exact hp
  ·exact h.lens r hr
 ·show ((p, v) :: delR bk p).length <= 10
  have := @delR_len bk p
  rw [List.length_cons]; lia
theorem Held.del {a : Nd} {bk : List Row} {p : Pth} (h : Held a bk) : Held (takenOut a p) (delR bk p) :=
 ⟨canon_takenOut h.canon, holds_del h.holds, delR_keys h.keys, fun r hr => h.vals r (mem_delR.mp hr).1, fun r hr => h.lens r (mem_delR.mp hr).1, Nat.le_trans delR_len h.few⟩
theorem Held.of_mem {a : Nd} {bk ck : List Row} (h : Held a bk) (hm : ∀ r, r ∈ bk ↔ r ∈ ck) (hn : (ck.map (fun x => x.1)).Nodup) (hf : ck.length <= 10) : Held a ck :=
 ⟨h.canon, h.holds.perm hm, hn, fun r hr => h.vals r ((hm r).mpr hr), fun r hr => h.lens r ((hm r).mpr hr), hf⟩
theorem held_nil : Held .nil [] := ⟨trivial, ⟨(fun Z h => nomatch h), fun u Z => va_nil u⟩, .nil, (fun Z h => nomatch h), (fun Z h => nomatch h), by decide⟩
theorem Held.same {a b : Nd} {bk ck : List Row} (h : Held a bk) (k : Held b ck) (hm : ∀ r, r ∈ bk ↔ r ∈ ck) : a = b := canon_uniq h.canon k.canon ((h.holds.perm hm).ext k.holds)
noncomputable def bkPut (bk : List Row) (p : Pth) (v : List UInt8) : List Row := if p ∈ bk.map (fun x => x.1) then bk.map (fun r => if r.1 = p then (r.1, v) else r) else bk ++ [(p, v)]
theorem dput_kv {bk : List Row} {p : Pth} {v : List UInt8} : dput (bk.map kvD) (toI p) (.bytes v) = (bkPut bk p v).map kvD := by
 have hs : (dget (bk.map kvD) (toI p)).isSome = decide (p ∈ bk.map (fun x => x.1)) := by
  by_cases h : p ∈ bk.map (fun x => x.1)
  ·rw [decide_eq_true h]
   unfold dget
   rw [Option.isSome_map, List.find?_isSome]
   refine x1_2 (List.mem_map.mp h) fun r hr Q => ?_; subst Q
   exact ⟨kvD r, List.mem_map_of_mem hr, by simp⟩
  ·rw [decide_eq_false h, book_none (p := p) fun r hr e => h (List.mem_map.mpr ⟨r, hr, e⟩)]; rfl
 unfold dput bkPut
 rw [hs]
 by_cases h : p ∈ bk.map (fun x => x.1)
 ·rw [if_pos (decide_eq_true h), if_pos h, List.map_map, List.map_map]
  refine List.map_congr_left fun r Z => ?_
  by_cases e : r.1 = p
  ·simp [e, kvD]
  ·have : ¬ toI r.1 = toI p := fun q => e (toI_inj.mp q)
   simp [e, this, kvD]
 ·rw [if_neg (by rw [decide_eq_false h]; simp), if_neg h, List.map_append]; rfl
theorem ddel_kv {bk : List Row} {p : Pth} : ddel (bk.map kvD) (toI p) = (delR bk p).map kvD := by
 unfold ddel delR
 rw [List.filter_map]
 congr 1
 refine List.filter_congr fun r Z => ?_
 simp only [Function.comp, kvD, toI_inj]
theorem mem_bkPut {bk : List Row} {p : Pth} {v : List UInt8} {r : Row} : r ∈ bkPut bk p v ↔ r ∈ putR bk p v := by
 rw [mem_putR]
 unfold bkPut
 by_cases h : p ∈ bk.map (fun x => x.1)
 ·rw [if_pos h, List.mem_map]
  constructor
  ·rintro ⟨x, hx, rfl⟩
   by_cases e : x.1 = p
   ·rw [if_pos e, e]; exact .inl rfl
   ·rw [if_neg e]; exact .inr ⟨hx, e⟩
  ·rintro (rfl | ⟨hr, hne⟩)
   ·refine x1_2 (List.mem_map.mp h) fun x hx e => ?_
    exact ⟨x, hx, by rw [if_pos e, e]⟩
   ·exact ⟨r, hr, by rw [if_neg hne]⟩
 ·rw [if_neg h, List.mem_append, List.mem_singleton]
  constructor
  ·rintro (hr | rfl)
   ·exact .inr ⟨hr, fun e => h (e ▸ List.mem_map_of_mem hr)⟩
   ·exact .inl rfl
  ·rintro (rfl | ⟨hr, _⟩)
   ·exact .inr rfl
   ·exact .inl hr
theorem bkPut_keys {bk : List Row} {p : Pth} {v : List UInt8} (h : (bk.map (fun x => x.1)).Nodup) : ((bkPut bk p v).map (fun x => x.1)).Nodup := by
 unfold bkPut
 by_cases hp : p ∈ bk.map (fun x => x.1)
 ·rw [if_pos hp, List.map_map]
  have : ((fun r : Row => r.1) ∘ fun r : Row => if r.1 = p then (r.1, v) else r) = fun r => r.1 := by
   funext r
   show (if r.1 = p then (r.1, v) else r).1 = r.1
   split <;> rfl
  rw [this]; exact h
 ·rw [if_neg hp, List.map_append, List.nodup_append]
  exact ⟨h, by simp, fun a ha b hb e => by simp at hb; subst hb; subst e; exact hp ha⟩
theorem bkPut_len {bk : List Row} {p : Pth} {v : List UInt8} : (bkPut bk p v).length <= bk.length + 1 := by
 unfold bkPut
 split
 ·rw [List.length_map]; lia
 ·rw [List.length_append]; simp
theorem mem_fold : ∀ {os C : List Row} {x : Row}, (os.map (fun x => x.1)).Nodup -> (x ∈ os.foldl (fun C r => putR C r.1 r.2) C ↔ x ∈ os \/ (x ∈ C /\ ∀ r ∈ os, r.1 ≠ x.1))
 | [], C, x, _ => by simp
 | o :: os, C, x, hn => by
  rw [List.map_cons, List.nodup_cons] at hn
  rw [List.foldl_cons, mem_fold hn.2, mem_putR]
  constructor
  ·rintro (h | ⟨rfl | ⟨h1, h2⟩, h3⟩)
   ·exact .inl (.tail _ h)
   ·exact .inl (.head _)
   ·exact .inr ⟨h1, fun r hr => (List.mem_cons.mp hr).elim (fun e => e ▸ Ne.symm h2) (h3 r)⟩
  ·rintro (h | ⟨h1, h2⟩)
   ·rcases List.mem_cons.mp h with rfl | h
    ·exact .inr ⟨.inl rfl, fun r hr e => hn.1 (e ▸ List.mem_map_of_mem hr)⟩
    ·exact .inl h
   ·exact .inr ⟨.inr ⟨h1, Ne.symm (h2 o (.head _))⟩, fun r hr => h2 r (.tail _ hr)⟩
noncomputable abbrev wd (σ : Sto) (j w : Nat) (K : Bk) (y : Cell) : Sto := (putK σ j K).set w y
section
variable {σ : Sto} {i j w : Nat} {K K' : Bk} {y y' : Cell}
theorem wd_len : (wd σ j w K y).length = σ.length := by rw [List.length_set, List.length_set]
theorem wd_w (h : w < σ.length) : (wd σ j w K y)[w]? = some y := by rw [List.getElem?_set_self (by rw [List.length_set]; exact h)]
theorem wd_at {x : Nat} (h1 : x ≠ w) (h2 : x ≠ j) : (wd σ j w K y)[x]? = σ[x]? := by rw [List.getElem?_set_ne (Ne.symm h1), List.getElem?_set_ne (Ne.symm h2)]
theorem wd_draw : (wd σ j w K y).set w y' = wd σ j w K y' := List.set_set ..
theorem wd_put (h : w ≠ j) : putK (wd σ j w K y) j K' = wd σ j w K' y := by
 unfold wd putK
 rw [List.set_comm _ _ h, List.set_set]
theorem wd_dig (hd : DigAt σ i j K) (hi : w ≠ i) (hj : w ≠ j) : DigAt (wd σ j w K' y) i j K' := by
 have h1 := hd.set (ks' := K')
 refine ⟨?_, ?_⟩
 ·rw [List.getElem?_set_ne hi]; exact h1.inst
 ·rw [List.getElem?_set_ne hj]; exact h1.dict
theorem low_set {k : Nat} {x : Nat} (h : Sto.low k σ) (hy : y.low k = true) : Sto.low k (σ.set x y) := fun z hz => by
 rcases List.mem_or_eq_of_mem_set hz with hz | rfl
 ·exact h z hz
 ·exact hy
theorem low_wd (h : Sto.low σ.length σ) (hy : WellOk y) : Sto.low (wd σ j w K y).length (wd σ j w K y) := by
 rw [wd_len]
 exact low_set (low_set h (low_putK h K)) (hy.low _)
end
end
section
noncomputable abbrev irLoc (w i t bx : Nat) (rows due stray first order knot path val way : Option D) : Loc := [(Str.ofString "well", some (.obj w)), (Str.ofString "digest", some (.inst 290 i)), (Str.ofString "trie", some (.inst 255 t)), (Str.ofString "book", some (.obj bx)), (Str.ofString "rows", rows), (Str.ofString "due", due), (Str.ofString "stray", stray), (Str.ofString "first", first), (Str.ofString "order", order), (Str.ofString "knot", knot), (Str.ofString "path", path), (Str.ofString "value_now", val), (Str.ofString "way", way)]
noncomputable abbrev irFor (w : World) : Stmt := sAt 6 (bodyIn (KK w) 371)
section
variable {B : Bs} {n : Nat} {σ : Sto} {w i j t bx : Nat} {a : Nd} {bk rs : List Row}
theorem wv_put {k : Nd} {C : List Row} {p : Pth} {v : List UInt8} (h : Held k C) (hv : v ≠ []) (hp : p.length <= 66) : Call 168 [nodeD k, pth p, .bytes v] (nodeD (putIn k p v)) B (n + 140) σ σ := by
 refine x1_1 h.rows fun rs hr => ?_
 have := with_value_ok (B := B) (n := n + 139) (σ := σ) (a := k) (p := p) (v := v) hr.fit (by lia) (by decide) (by lia)
 rwa [withValue, if_neg hv] at this
theorem wv_del {k : Nd} {C : List Row} {p : Pth} (h : Held k C) (hp : p.length <= 66) : Call 168 [nodeD k, pth p, .bytes []] (nodeD (takenOut k p)) B (n + 140) σ σ := by
 refine x1_1 h.rows fun rs hr => ?_
 have := with_value_ok (B := B) (n := n + 139) (σ := σ) (a := k) (p := p) (v := []) hr.fit (by lia) (by decide) (by lia)
 rwa [withValue, if_pos rfl] at this
theorem ir_loop {rows due stray first order way : Option D} : ∀ (os C : List Row) (k : Nd) (o1 o2 : Option D), Held k C -> (∀ r ∈ os, r.2 ≠ [] /\ r.2.length <= 100 /\ r.1.length <= 66) -> C.length + os.length <= 10 -> ∃ k' o1' o2',
  ForL (loopTgt (irFor B.w)) (loopBody (irFor B.w)) B gl_law_is_rooted (n + 140) (os.map rowD) .next (irLoc w i t bx rows due stray first order (some (nodeD k)) o1 o2 way) (irLoc w i t bx rows due stray first order (some (nodeD k')) o1' o2' way) σ σ /\ Held k' (os.foldl (fun C r => putR C r.1 r.2) C)
 | [], C, k, o1, o2, h, _, _ => ⟨k, o1, o2, .nil, h⟩
 | r :: os, C, k, o1, o2, h, hv, hl => by
  rw [List.length_cons] at hl
  refine x0_3 (hv r (.head _)) fun h1 h2 h3 => ?_
  have h' := h.put h1 h2 h3 (by lia)
  obtain ⟨k', o1', o2', lp, hk'⟩ := ir_loop (rows := rows) (due := due) (stray := stray) (first := first) (order := order) (way := way) os (putR C r.1 r.2) (putIn k r.1 r.2) (some (pth r.1)) (some (.bytes r.2)) h' (fun x hx => hv x (.tail _ hx)) (by
   have : (putR C r.1 r.2).length <= C.length + 1 := by have := @delR_len C r.1; show ((r.1, r.2) :: delR C r.1).length <= _; rw [List.length_cons]; lia
   lia)
  exact ⟨k', o1', o2', .step (Tgt.tup (ds := [pth r.1, .bytes r.2]) (by walk_at "v")) (Ex.seq (St1.assign (Ev.call (Ev.g g_with_value) (Keeps'.fn rfl) (.cons Ev.name (.cons Ev.name (.cons Ev.name .nil))) (Call.v (wv_put h h1 h3))) (by walk_at "v")) .nil) lp, hk'⟩
theorem eqDs_rows_nil : ∀ rs : List Row, EqDs 2 (rs.map rowD) [] rs.isEmpty
 | [] => .nil
 | _ :: _ => .cn
theorem ir_other {way : Int} {due stray first order : Option D} {P : Pth} {V : List UInt8} (H : Rows a bk rs) (hf : bk.length <= 9) (h5 : ∀ r ∈ bk, (5 : UInt8) ∉ r.2)
  (w0 : 0 <= way) (w3 : way < 3) (hP : P.length <= 64) (hV : V.length <= 60) (hrs : rs ≠ [] -> (P, V) ∈ rs) :
  ∃ b C, Held b C /\ b ≠ a /\ ∀ d τ, Rt ((bodyIn (KK B.w) 371).drop 12) d B gl_law_is_rooted (n + 140) (irLoc w i t bx (some (.lst (rs.map rowD))) due stray first order (some (nodeD b)) (some (pth P)) (some (.bytes V)) (some (.int way))) σ τ ->
   Rt ((bodyIn (KK B.w) 371).drop 11) d B gl_law_is_rooted (n + 140) (irLoc w i t bx (some (.lst (rs.map rowD))) due stray first order (some (nodeD a)) (some (pth P)) (some (.bytes V)) (some (.int way))) σ τ := by
 have hemp : ∀ rs : List Row, (!rs.isEmpty) = decide (rs ≠ []) := fun rs => by cases rs <;> simp
 have test : EvT (loopTgt (sAt 11 (bodyIn (KK B.w) 371))) (decide (way = 0 /\ rs ≠ [])) B gl_law_is_rooted (n + 140) (irLoc w i t bx (some (.lst (rs.map rowD))) due stray first order (some (nodeD a)) (some (pth P)) (some (.bytes V)) (some (.int way))) σ σ :=
  EvT.eq (EvT.and (x := way == 0) (y := !rs.isEmpty) (EvT.cmp Ev.name .cint .eqI) (fun Z => EvT.cmp Ev.name (Ev.list .nil) (.neL (eqDs_rows_nil rs))) (fun Z => rfl)) (by rw [hemp]; by_cases h1 : way = 0 <;> by_cases h2 : rs = [] <;> simp [h1, h2])
 by_cases h : way = 0 /\ rs ≠ []
 ·have hm := hrs h.2
  have hmb := H.perm.mem_iff.mp hm
  refine ⟨takenOut a P, _, H.toHeld.del (p := P), fun e => ?_, fun d τ hr => ?_⟩
  ·have h1 := va_takenOut a P P
   rw [e, if_pos rfl, H.holds.1 _ hmb] at h1
   exact (H.vals _ hmb).1 h1
  ·exact Rt.ifT (EvT.eq test (decide_eq_true h)) (Rt.seq (St1.assign (Ev.call (Ev.g g_with_value) (Keeps'.fn rfl) (.cons Ev.name (.cons Ev.name (.cons .cbytes .nil))) (Call.v (wv_del H.toHeld (by lia)))) (by walk_at "v")) hr)
 ·have hl61 : (V ++ [5]).length <= 100 := by rw [List.length_append]; simp; lia
  have hP2 : (P ++ [2, 0]).length <= 66 := by rw [List.length_append]; show _ + 2 <= 66; lia
  obtain ⟨P', hP', hex⟩ : ∃ P' : Pth, P'.length <= 66 /\ P' = (if way < 2 then P else P ++ [2, 0]) := by
   refine ⟨_, ?_, rfl⟩
   split
   ·lia
   ·exact hP2
  refine ⟨putIn a P' (V ++ [5]), _, H.toHeld.put (p := P') (v := V ++ [5]) (by simp) hl61 hP' (by lia), fun e => ?_, fun d τ hr => ?_⟩
  ·have h1 := va_putIn (V ++ [5]) a P' P'
   rw [e, if_pos rfl] at h1
   by_cases hin : ∃ r ∈ bk, r.1 = P'
   ·refine x1_2 hin fun r hr Q => ?_; clear hin; subst Q
    rw [H.holds.1 r hr] at h1
    exact h5 r hr (by rw [h1]; simp)
   ·rw [H.holds.2 P' fun r hr e => hin ⟨r, hr, e⟩] at h1
    simp at h1
  ·refine Rt.ifF (EvT.eq test (decide_eq_false h)) (Rt.seq (St1.assign (Ev.call (Ev.g g_with_value) (Keeps'.fn rfl) (.cons Ev.name (.cons (Ev.ifexp (d := pth P') (x := decide (way < 2)) (EvT.cmp Ev.name .cint .lt) (fun hw => Ev.eq (d := pth P) Ev.name ?_) (fun hw => Ev.eq (Ev.bin Ev.name (Ev.eq (d' := pth [2, 0]) (Ev.tuple (.cons Ev.name (.cons .cint .nil))) ?_) (.addPth (p := P) (q := [2, 0]) ?_)) ?_)) (.cons (Ev.bin Ev.name .cbytes (.addY ?_)) .nil))) (Call.v (wv_put H.toHeld (by simp) hP'))) (by walk_at "v")) hr)
   ·rw [hex, if_pos (of_decide_eq_true hw)]
   ·have := of_decide_eq_false hw
    have e : way = 2 := by lia
    rw [e]; rfl
   ·simp; lia
   ·rw [hex, if_neg (of_decide_eq_false hw)]
   ·simp; lia
theorem ir_row {y : Cell} {way due stray first order knot path val : Option D} (hx : σ[w]? = some y) (hy : WellOk y) (hl : rs.length <= 10) : ∃ (P : Pth) (V : List UInt8) (y' : Cell), WellOk y' /\ (rs ≠ [] -> (P, V) ∈ rs) /\ (rs = [] -> P = [] /\ V = []) /\
  Ev (valOf (sAt 10 (bodyIn (KK B.w) 371))) (.tup [pth P, .bytes V]) B gl_law_is_rooted (n + 140) (irLoc w i t bx (some (.lst (rs.map rowD))) due stray first order knot path val way) σ (σ.set w y') := by
 by_cases h : rs = []
 ·subst h
  refine ⟨[], [], y, hy, fun e => absurd rfl e, fun Z => ⟨rfl, rfl⟩, ?_⟩
  rw [set_self hx]
  exact Ev.ifexp (x := false) (EvT.cmp Ev.name (Ev.list .nil) (.neL (eqDs_rows_nil []))) (fun h => nomatch h) (fun Z => Ev.tuple (.cons (Ev.eq (d' := pth []) (Ev.tuple .nil) rfl) (.cons .cbytes .nil)))
 ·have hpos : 1 <= rs.length := List.length_pos_iff.mpr h
  refine x2_4 (draw_ok (B := B) (n := n + 139) hx hy (many := (rs.length : Int)) (by lia)) fun r y' hy' r0 r1 c => ?_
  have hlt : r.toNat < rs.length := by lia
  refine ⟨rs[r.toNat].1, rs[r.toNat].2, y', hy', fun Z => List.getElem_mem hlt, fun e => absurd e h, ?_⟩
  refine Ev.ifexp (x := true) (EvT.eq (EvT.cmp Ev.name (Ev.list .nil) (.neL (eqDs_rows_nil rs))) ?_) (fun Z => Ev.sub Ev.name (Ev.call (Ev.g g_law_draw) (Keeps'.fn rfl) (.cons Ev.name (.cons (Ev.eq (d' := .int (rs.length : Int)) (Ev.call (Ev.g g_len) .builtin (.cons Ev.name .nil) (CallV.lenL ?_)) ?_) .nil)) (Call.v c)) (.lst (i := r) (ds := rs.map rowD) (d := rowD rs[r.toNat]) r0 ?_ ?_)) (fun h => nomatch h)
  ·cases rs with
   | nil => exact absurd rfl h
   | cons _ _ => rfl
  ·rw [List.length_map]; lia
  ·rw [List.length_map]
  ·rw [List.getElem?_map, List.getElem?_eq_getElem hlt]; rfl
  ·rw [List.length_map]; lia
end
end
section
structure Ctx (σ : Sto) (w i j t bx : Nat) (a : Nd) (bk rs : List Row) : Prop where
 well : w < σ.length
 dig : ∃ ks, DigAt σ i j ks
 tr : σ[t]? = some (trieC i a)
 bo : σ[bx]? = some (.pdct (bk.map kvD))
 wi : w ≠ i
 wj : w ≠ j
 tw : t ≠ w
 tj : t ≠ j
 bw : bx ≠ w
 bj : bx ≠ j
 H : Rows a bk rs
 few : bk.length <= 8
 l64 : ∀ r ∈ bk, r.1.length <= 64
 v60 : ∀ r ∈ bk, r.2.length <= 60
 n5 : ∀ r ∈ bk, (5 : UInt8) ∉ r.2
section
variable {B : Bs} {n : Nat} {σ : Sto} {w i j t bx : Nat} {a : Nd} {bk rs : List Row} {K : Bk} {y : Cell}
theorem Ctx.dg (c : Ctx σ w i j t bx a bk rs) : DigAt (wd σ j w K y) i j K := let ⟨_, hd⟩ := c.dig; wd_dig hd c.wi c.wj
theorem Ctx.wl (c : Ctx σ w i j t bx a bk rs) : (wd σ j w K y)[w]? = some y := wd_w c.well
theorem Ctx.tt (c : Ctx σ w i j t bx a bk rs) : (wd σ j w K y)[t]? = some (trieC i a) := by rw [wd_at c.tw c.tj]; exact c.tr
theorem Ctx.bb (c : Ctx σ w i j t bx a bk rs) : (wd σ j w K y)[bx]? = some (.pdct (bk.map kvD)) := by rw [wd_at c.bw c.bj]; exact c.bo
theorem Ctx.draw (c : Ctx σ w i j t bx a bk rs) (hy : WellOk y) {many : Int} (hm : 1 <= many) : ∃ r y', WellOk y' /\ 0 <= r /\ r < many /\ Call 304 [.obj w, .int many] (.int r) B (n + 259) (wd σ j w K y) (wd σ j w K y') := by
 obtain ⟨r, y', h1, h2, h3, h4⟩ := draw_ok (B := B) (n := n + 258) (c.wl (K := K) (y := y)) hy hm
 rw [wd_draw] at h4
 exact ⟨r, y', h1, h2, h3, h4⟩
theorem Ctx.root (c : Ctx σ w i j t bx a bk rs) (hk : rootK K a) (hz : K.length <= 70000) : Call 217 [nodeD a, .inst 290 i] (.bytes (rootF K a)) B (n + 259) (wd σ j w K y) (wd σ j w K y) := by
 have := c.H.cnt
 have h := root_ok (B := B) (n := n + 258) (a := a) (c.dg (K := K) (y := y)) c.H.fit (by decide) (by lia) (by lia)
 rw [rootS_known hk, putK_self c.dg] at h
 exact h
theorem Ctx.troot (c : Ctx σ w i j t bx a bk rs) (hk : rootK K a) (hz : K.length <= 70000) : Call 252 [.inst 255 t] (.bytes (rootF K a)) B (n + 259) (wd σ j w K y) (wd σ j w K y) := by
 have := c.H.cnt
 have h := trie_root_ok (B := B) (n := n + 257) (a := a) (c.tt (K := K) (y := y)) (c.dg (K := K) (y := y)) c.H.fit (by decide) (by lia) (by lia)
 rw [rootS_known hk, putK_self c.dg] at h
 exact h
theorem ir_tail {stray first order path val way : Option D} (c : Ctx σ w i j t bx a bk rs) (hy : WellOk y) (hk : rootK K a) (hz : K.length <= 70000) : ∃ y' K', WellOk y' /\
  Rt ((bodyIn (KK B.w) 371).drop 8) (.bool true) B gl_law_is_rooted (n + 259) (irLoc w i t bx (some (.lst (rs.map rowD))) (some (.bytes (rootF K a))) stray first order (some (nodeD a)) path val way) (wd σ j w K y) (wd σ j w K' y') := by
 have kn : findIn (KK B.w) (.ref 255) "node" = some none := by kernel_rfl
 have hlen := c.H.len
 have hper := c.H.perm
 refine x2_4 (c.draw (B := B) (n := n) (K := K) hy (many := 3) (by decide)) fun way' y1 hy1 w0 w3 c1 => ?_
 refine x3_4 (ir_row (B := B) (n := n + 119) (i := i) (t := t) (bx := bx) (rs := rs) (way := some (.int way')) (due := some (.bytes (rootF K a))) (stray := stray) (first := first) (order := order) (knot := some (nodeD a)) (path := path) (val := val) (c.wl (K := K) (y := y1)) hy1 hlen) fun P V y2 hy2 hin hout ev => ?_
 rw [wd_draw] at ev
 have hPV : P.length <= 64 /\ V.length <= 60 := by
  by_cases h : rs = []
  ·refine x0_2 (hout h) fun e1 e2 => ?_
   rw [e1, e2]; exact ⟨Nat.zero_le _, Nat.zero_le _⟩
  ·have hm := hper.mem_iff.mp (hin h)
   exact ⟨c.l64 _ hm, c.v60 _ hm⟩
 have h8 := c.few
 refine x2_3 (ir_other (B := B) (n := n + 119) (σ := wd σ j w K y2) (w := w) (i := i) (t := t) (bx := bx) (way := way') (due := some (.bytes (rootF K a))) (stray := stray) (first := first) (order := order) (P := P) (V := V) c.H (by lia) c.n5 w0 w3 hPV.1 hPV.2 hin) fun b C hb hne cont => ?_
 refine x1_1 hb.rows fun rb Hb => ?_
 have hcb := Hb.cnt
 have rb1 := root_ok (B := B) (n := n + 258) (a := b) (c.dg (K := K) (y := y2)) Hb.fit (by decide) (by lia) (by lia)
 rw [wd_put c.wj] at rb1
 refine x0_3 (rootS_F b K) fun p1 p2 p3 => ?_
 refine x0_2 (rootK_pre hk p1) fun q1 q2 => ?_
 have hKb := @rootS_len b K
 have hdiff : ((rootS b K).1 != rootF K a) = true := by
  rw [bne_iff_ne]
  intro e
  rw [p3, <- q2] at e
  exact hne (root_inj (by lia) p2 q1 Hb.fit c.H.fit (by decide) (by decide) e)
 have same := (cmp_same (B := B) (n := n + 259) (σ := wd σ j w K y) c.H.canon c.H.fit (by decide) (by lia)).2
 have diff := cmp_diff (B := B) (n := n + 259) (σ := wd σ j w K y2) Hb.canon c.H.canon Hb.fit (by decide) (by lia) hne
 have rt := c.root (B := B) (n := n) (y := y) hk hz
 refine ⟨y2, (rootS b K).2, hy2, ?_⟩
 refine Rt.ifF (EvT.eq (EvT.or (x := false) (y := rootF K a != rootF K a) (EvT.cmp Ev.name (Ev.attr (d := nodeD a) Ev.name (ck_trie _) kn c.tt rfl (hr := nodeD_raw)) same) (fun Z => EvT.cmp (Ev.call (Ev.g g_root_trie) (Keeps'.fn rfl) (.cons Ev.name (.cons Ev.name .nil)) (Call.v rt)) Ev.name .neY) (fun Z => rfl)) (by rw [bne_same]; rfl))
  (Rt.seq (St1.assign (Ev.call (Ev.g g_law_draw) (Keeps'.fn rfl) (.cons Ev.name (.cons .cint .nil)) (Call.v c1)) (by walk_at "v"))
  (Rt.seq (St1.unpack (ds := [pth P, .bytes V]) ev (by walk_at "v"))
  (cont _ _ (Rt.ret (Ev.eq (Ev.and (x := true) (y := true) (Ev.cmp Ev.name (Ev.attr (d := nodeD a) Ev.name (ck_trie _) kn c.tt rfl (hr := nodeD_raw)) diff) (fun Z => Ev.eq (Ev.cmp (Ev.call (Ev.g g_root_trie) (Keeps'.fn rfl) (.cons Ev.name (.cons Ev.name .nil)) (Call.v rb1)) Ev.name .neY) (by rw [hdiff])) (fun h => nomatch h)) rfl)))))
end
end
section
section
variable {B : Bs} {n : Nat} {σ : Sto} {w i j t bx : Nat} {a : Nd} {bk rs : List Row} {ks K : Bk} {y : Cell}
theorem ir_due (c : Ctx σ w i j t bx a bk rs) (hd : DigAt σ i j ks) (hz : ks.length <= 60000) :
  Ev (valOf (sAt 1 (bodyIn (KK B.w) 371))) (.bytes (rootF (rootS a ks).2 a)) B gl_law_is_rooted (n + 259) (irLoc w i t bx (some (.lst (rs.map rowD))) none none none none none none none none) σ (putK σ j (rootS a ks).2) := by
 have hm : findIn (KK B.w) (.ref 290) "of" = some (some (.ref 287)) := by kernel_rfl
 have hft : typeIn (KK B.w) (.ref 287) = some (.type "function") := by kernel_rfl
 have hfit := c.H.fit
 have hcnt := c.H.cnt
 have hlen := c.H.len
 have hper := c.H.perm
 have nd := law_node_ok (B := B) 66 rs (σ := σ) (n := n + 259) c.H.asc (fun r hr => c.H.lens r (hper.mem_iff.mp hr)) (by lia) (by decide) (by lia)
 rw [<- c.H.node] at nd
 have fo := law_form_ok (B := B) a (n := n + 259) hd hfit (by decide) (by lia) (by lia)
 obtain ⟨h1, h2⟩ := formS_len hfit (by decide) ks
 have hm1 := (formS_more a ks).1.2
 have hm2 : (formS a ks).2.length <= ks.length + cntN a := by split at hm1 <;> lia
 have wr := written_ok (B := B) (n := n + 259) (σ := putK σ j (formS a ks).2) (formS a ks).1 (by lia) (by lia)
 have hof := of_ok (B := B) (n := n + 257) (x := encI (formS a ks).1) (hd.set (ks' := (formS a ks).2)) (by lia) (by lia)
 rw [putK_putK] at hof
 have e := (rootS_F a ks).2.2
 have e2 : dig (posK (addK (formS a ks).2 (encI (formS a ks).1)) (encI (formS a ks).1)) = rootF (rootS a ks).2 a := e
 rw [e2] at hof
 exact Ev.meth Ev.name (Meth.inst (ck_num _) hm hft hd.inst rfl) (Keeps'.fn rfl) (.cons (Ev.call (Ev.g g_law_written) (Keeps'.fn rfl) (.cons (Ev.call (Ev.g g_law_form) (Keeps'.fn rfl) (.cons (Ev.call (Ev.g g_law_node) (Keeps'.fn rfl) (.cons Ev.name .nil) (Call.v nd)) (.cons Ev.name .nil)) (Call.v fo)) .nil) (Call.v wr)) .nil) (Call.v hof)
theorem same_node {k : Nd} {os : List Row} {s : Pth} (H : Rows a bk rs) (hos : ∀ r, r ∈ os ↔ r ∈ rs) (hn : (os.map (fun x => x.1)).Nodup) (hk : Held k (os.foldl (fun C r => putR C r.1 r.2) (putR [] s [7]))) :
  (s ∈ bk.map (fun x => x.1) -> k = a) /\ (s ∉ bk.map (fun x => x.1) -> takenOut k s = a) := by
 have hmem : ∀ r : Row, r ∈ rs ↔ r ∈ bk := fun r => H.perm.mem_iff
 have h0 : ∀ r : Row, r ∈ putR [] s [7] ↔ r = (s, [7]) := fun r => by rw [mem_putR]; simp
 constructor
 ·intro hs
  refine hk.same H.toHeld fun r => ?_
  rw [mem_fold hn, hos, hmem, h0]
  constructor
  ·rintro (h | ⟨rfl, h⟩)
   ·exact h
   ·obtain ⟨x, hx, e⟩ := List.mem_map.mp hs
    exact absurd e (h x ((hos x).mpr ((hmem x).mpr hx)))
  ·exact .inl
 ·intro hs
  refine (hk.del (p := s)).same H.toHeld fun r => ?_
  rw [mem_delR, mem_fold hn, hos, hmem, h0]
  constructor
  ·rintro ⟨h | ⟨rfl, h⟩, hne⟩
   ·exact h
   ·exact absurd rfl hne
  ·exact fun h => ⟨.inl h, fun e => hs (List.mem_map.mpr ⟨r, h, e⟩)⟩
theorem is_rooted_ok (c : Ctx σ w i j t bx a bk rs) (hd : DigAt σ i j ks) (hz : ks.length <= 60000) (hx : σ[w]? = some y) (hy : WellOk y) : ∃ y' K', WellOk y' /\ Call 371 [.obj w, .inst 290 i, .inst 255 t, .obj bx] (.bool true) B (n + 260) σ (wd σ j w K' y') := by
 have kn : findIn (KK B.w) (.ref 255) "node" = some none := by kernel_rfl
 have kr : findIn (KK B.w) (.ref 255) "root" = some (some (.ref 252)) := by kernel_rfl
 have krt : typeIn (KK B.w) (.ref 252) = some (.type "function") := by kernel_rfl
 have hcnt := c.H.cnt
 have hlen := c.H.len
 have hper := c.H.perm
 have h8 := c.few
 have due := ir_due (B := B) (n := n) c hd hz
 refine x0_3 (rootS_F a ks) fun p1 rk p3 => ?_
 have hK := @rootS_len a ks
 generalize (rootS a ks).2 = K at due p1 rk hK
 have e0 : putK σ j K = wd σ j w K y := by
  have : (putK σ j K)[w]? = some y := by rw [List.getElem?_set_ne (Ne.symm c.wj)]; exact hx
  exact (set_self this).symm
 rw [e0] at due
 refine x2_4 (c.draw (B := B) (n := n) (K := K) hy (many := 16) (by decide)) fun r1 y1 hy1 a1 b1 c1 => ?_
 refine x1_1 (⟨⟨r1.toNat, by lia⟩, by show r1 = ((r1.toNat : Nat) : Int); lia⟩ : ∃ x : _root_.Fin 16, r1 = (x.val : Int)) fun x Q => ?_; subst Q
 refine x2_4 (c.draw (B := B) (n := n) (K := K) hy1 (many := 4) (by decide)) fun r2 y2 hy2 a2 b2 c2 => ?_
 refine x2_4 (c.draw (B := B) (n := n) (K := K) hy2 (many := (rs.length : Int) + 1) (by lia)) fun f y3 hy3 a3 b3 c3 => ?_
 refine x2_4 (c.draw (B := B) (n := n) (K := K) hy3 (many := 2) (by decide)) fun r4 y4 hy4 a4 b4 c4 => ?_
 refine x1_2 (⟨_, rfl, by rw [List.length_replicate]; lia⟩ : ∃ s : Pth, s = List.replicate (1 + r2).toNat x /\ s.length <= 4) fun s hs hsl => ?_
 let ord : List Row := rs.drop f.toNat ++ rs.take f.toNat
 have hordp : ord.Perm rs := by
  have h1 : ord.Perm (rs.take f.toNat ++ rs.drop f.toNat) := List.perm_append_comm
  rwa [List.take_append_drop] at h1
 have hordl : ord.length <= 10 := by rw [hordp.length_eq]; exact hlen
 refine x1_1 (⟨_, rfl⟩ : ∃ os : List Row, os = if (r4 == 1) = true then ord.reverse else ord) fun os hos => ?_
 have hosp : os.Perm rs := by
  rw [hos]
  split
  ·exact (List.reverse_perm _).trans hordp
  ·exact hordp
 have hosm : ∀ r, r ∈ os ↔ r ∈ rs := fun r => hosp.mem_iff
 have hosn : (os.map (fun x => x.1)).Nodup := by
  have h1 : (os.map (fun x => x.1)).Perm (bk.map (fun x => x.1)) := (hosp.trans hper).map _
  exact h1.nodup_iff.mpr c.H.keys
 have hosl : os.length <= 8 := by rw [hosp.length_eq, hper.length_eq]; exact h8
 have held0 : Held (putIn .nil s [7]) (putR [] s [7]) := held_nil.put (by simp) (by simp) (by lia) (by simp)
 obtain ⟨k, o1, o2, lp, hk⟩ := ir_loop (B := B) (n := n + 119) (σ := wd σ j w K y4) (w := w) (i := i) (t := t) (bx := bx) (rows := some (.lst (rs.map rowD))) (due := some (.bytes (rootF K a))) (stray := some (pth s)) (first := some (.int f)) (order := some (.lst (ord.map rowD))) (way := none) os (putR [] s [7]) (putIn .nil s [7]) none none held0
  (fun r hr => by have hm := hper.mem_iff.mp ((hosm r).mp hr); exact ⟨(c.H.vals r hm).1, (c.H.vals r hm).2, c.H.lens r hm⟩) (by show ((s, [7]) :: delR [] s).length + _ <= 10; simp [delR]; lia)
 refine x0_2 (same_node c.H hosm hosn hk) fun e1 e2 => ?_
 obtain ⟨y', K', hy', ρ', tl⟩ := ir_tail (B := B) (n := n) (stray := some (pth s)) (first := some (.int f)) (order := some (.lst (ord.map rowD))) (path := o1) (val := o2) (way := none) c hy4 rk (by lia)
 refine ⟨y', K', hy', ?_⟩
 have tr := c.troot (B := B) (n := n) (y := y) rk (by lia)
 have rt := c.root (B := B) (n := n) (y := y) rk (by lia)
 have wv0 := wv_put (B := B) (n := n + 119) (σ := wd σ j w K y3) (k := .nil) held_nil (p := s) (v := [7]) (by simp) (by lia)
 have hnin := Cmp.notInP (B := B) (n := n + 259) (p := toI s) (c.bb (K := K) (y := y4))
 have rest : Rt ((bodyIn (KK B.w) 371).drop 7) (.bool true) B gl_law_is_rooted (n + 259) (irLoc w i t bx (some (.lst (rs.map rowD))) (some (.bytes (rootF K a))) (some (pth s)) (some (.int f)) (some (.lst (ord.map rowD))) (some (nodeD k)) o1 o2 none) (wd σ j w K y4) (wd σ j w K' y') := by
  by_cases hin : s ∈ bk.map (fun x => x.1)
  ·refine x1_2 (List.mem_map.mp hin) fun r hr e => ?_
   subst e
   rw [book_get c.H.keys hr] at hnin
   rw [e1 hin]
   exact Rt.ifF (EvT.cmp Ev.name Ev.name hnin) ⟨ρ', tl⟩
  ·rw [book_none fun r hr e => hin (List.mem_map.mpr ⟨r, hr, e⟩)] at hnin
   have wd0 := wv_del (B := B) (n := n + 119) (σ := wd σ j w K y4) (k := k) hk (p := s) (by lia)
   rw [e2 hin] at wd0
   exact Rt.ifT (EvT.cmp Ev.name Ev.name hnin) (Rt.seq (St1.assign (Ev.call (Ev.g g_with_value) (Keeps'.fn rfl) (.cons Ev.name (.cons Ev.name (.cons .cbytes .nil))) (Call.v wd0)) (by walk_at "v")) ⟨ρ', tl⟩)
 have hrl : (rs.map rowD).length <= 1000000 := by rw [List.length_map]; lia
 have body : Rt (bodyIn (KK B.w) 371) (.bool true) B gl_law_is_rooted (n + 259) (irLoc w i t bx none none none none none none none none none) σ (wd σ j w K' y') := by
  refine Rt.seq (St1.assign (Ev.sortedBook c.H (Ev.g g_sorted) Ev.name c.bo) (by walk_at "v"))
   (Rt.seq (St1.assign due (by walk_at "v"))
   (Rt.ifF (EvT.eq (EvT.or (x := rootF K a != rootF K a) (y := rootF K a != rootF K a) (EvT.cmp (Ev.meth Ev.name (Meth.inst (ck_trie _) kr krt c.tt rfl) (Keeps'.fn rfl) .nil (Call.v tr)) Ev.name .neY) (fun Z => EvT.cmp (Ev.call (Ev.g g_root_trie) (Keeps'.fn rfl) (.cons (Ev.attr (d := nodeD a) Ev.name (ck_trie _) kn c.tt rfl (hr := nodeD_raw)) (.cons Ev.name .nil)) (Call.v rt)) Ev.name .neY) (fun Z => rfl)) (by rw [bne_same]; rfl))
   (Rt.seq (St1.unpack (ds := [pth s, .int f]) (Ev.tuple (.cons (Ev.eq (d' := pth s) (Ev.bin (Ev.tuple (.cons (Ev.call (Ev.g g_law_draw) (Keeps'.fn rfl) (.cons Ev.name (.cons .cint .nil)) (Call.v c1)) .nil)) (Ev.bin .cint (Ev.call (Ev.g g_law_draw) (Keeps'.fn rfl) (.cons Ev.name (.cons .cint .nil)) (Call.v c2)) .add) (.mulT ?m1 ?m2)) ?m3) (.cons (Ev.call (Ev.g g_law_draw) (Keeps'.fn rfl) (.cons Ev.name (.cons (Ev.eq (d' := .int ((rs.length : Int) + 1)) (Ev.bin (Ev.call (Ev.g g_len) .builtin (.cons Ev.name .nil) (CallV.lenL hrl)) .cint .add) ?m4) .nil)) (Call.v c3)) .nil))) (by walk_at "v") (hw := fun env hk => swapped_or rfl (by decide) env hk))
   (Rt.seq (St1.assign (d := .lst (ord.map rowD)) (Ev.eq (Ev.bin (Ev.slice Ev.name (.some Ev.name) .none .none (Slc.lst .int .none hrl)) (Ev.slice Ev.name .none (.some Ev.name) .none (Slc.lst .none .int hrl)) (.addL ?m5)) ?m6) (by walk_at "v"))
   (Rt.seq (St1.assign (Ev.call (Ev.g g_with_value) (Keeps'.fn rfl) (.cons (Ev.eq .cnone nodeD_nil.symm) (.cons Ev.name (.cons .cbytes .nil))) (Call.v wv0)) (by walk_at "v"))
   (Rt.seq (St1.of (StX.for_ (EvI.val (Ev.ifexp (d := .lst (os.map rowD)) (EvT.cmp (Ev.call (Ev.g g_law_draw) (Keeps'.fn rfl) (.cons Ev.name (.cons .cint .nil)) (Call.v c4)) .cint .eqI) (fun h => Ev.eq (Ev.slice Ev.name .none .none (.some (Ev.neg .cint)) (Slc.rev (ds := ord.map rowD) ?m7)) ?m8) (fun h => Ev.eq (d := .lst (ord.map rowD)) Ev.name ?m9)) .lst) lp)) rest))))))
  case m1 => lia
  case m2 => lia
  case m3 => rw [hs]; unfold pth pathI toI; rw [List.map_replicate, List.map_replicate]
  case m4 => rw [List.length_map]
  case m5 =>
   exact Nat.le_trans (Nat.add_le_add (((List.take_sublist _ _).trans (List.drop_sublist _ _)).length_le) (((List.take_sublist _ _).trans (List.drop_sublist _ _)).length_le)) (by rw [List.length_map]; exact Nat.le_trans (Nat.add_le_add hlen hlen) (by decide))
  case m6 =>
   rw [pick_from a3, pick_upto a3]
   show D.lst _ = D.lst ((rs.drop f.toNat ++ rs.take f.toNat).map rowD)
   rw [List.map_append, List.map_drop, List.map_take]
  case m7 => rw [List.length_map]; lia
  case m8 => rw [hos, if_pos h, List.map_reverse]
  case m9 => rw [hos, if_neg (by rw [h]; simp)]
 refine x1_1 body fun ρf hbody => ?_; clear body
 exact Call.at' (σj := []) (fn_law_is_rooted _) hbody (wd σ j w K' y') (by rw [List.append_nil]) rfl (by rw [wd_len]; exact Nat.le_refl _) rfl (fun h => low_wd h hy')
end
end
section
noncomputable abbrev stL (y : Cell) (ks : Bk) (a : Nd) (bk : List Row) (kn : List (List UInt8)) : Sto :=
 [y, .ns [(Str.ofString "known", .obj 2)], .idct (kvsOf ks), trieC 1 a, .pdct (bk.map kvD), .lst (kn.map D.bytes)]
structure LInv (a : Nd) (bk : List Row) (kn : List (List UInt8)) (c : Nat) : Prop where
 held : Held a bk
 few : bk.length <= c
 l64 : ∀ r ∈ bk, r.1.length <= 64
 v60 : ∀ r ∈ bk, r.2.length <= 60
 n5 : ∀ r ∈ bk, (5 : UInt8) ∉ r.2
 k32 : ∀ k ∈ kn, k.length <= 32
 kfew : kn.length <= c
noncomputable abbrev lwLoc (sc : D) (turn key val : Option D) : Loc := [(Str.ofString "script", some sc), (Str.ofString "well", some (.obj 0)), (Str.ofString "digest", some (.inst 290 1)), (Str.ofString "trie", some (.inst 255 3)), (Str.ofString "book", some (.obj 4)), (Str.ofString "known", some (.obj 5)), (Str.ofString "turn", turn), (Str.ofString "key", key), (Str.ofString "value_now", val)]
noncomputable abbrev lwFor (w : World) : Stmt := sAt 2 (bodyIn (KK w) 381)
section
variable {B : Bs} {n : Nat} {a : Nd} {bk : List Row} {kn : List (List UInt8)} {ks : Bk} {y : Cell} {sc : D} {turn : Option D} {key v : List UInt8}
theorem lw_last {ρ : Loc} (hρ : ρ = lwLoc sc turn (some (.bytes key)) (some (.bytes v))) (h : Held a bk) : Ex ((loopBody (lwFor B.w)).drop 4) .next B gl_law (n + 340) ρ ρ (stL y ks a bk kn) (stL y ks a bk kn) := by
 subst hρ
 refine x1_1 h.rows fun rs H => ?_
 have hnode : findIn (KK B.w) (.ref 255) "node" = some none := by kernel_rfl
 have hlen := H.len
 have hper := H.perm
 have nd := law_node_ok (B := B) 66 rs (σ := stL y ks a bk kn) (n := n + 340) H.asc (fun r hr => H.lens r (hper.mem_iff.mp hr)) (by lia) (by decide) (by lia)
 rw [<- H.node] at nd
 have ne := (cmp_same (B := B) (n := n + 340) (σ := stL y ks a bk kn) H.canon H.fit (by decide) (by lia)).2
 exact Ex.ifF (EvT.cmp (Ev.attr (d := nodeD a) (i := 3) Ev.name (ck_trie _) hnode rfl rfl (hr := nodeD_raw)) (Ev.call (Ev.g g_law_node) (Keeps'.fn rfl) (.cons (Ev.sortedBook H (Ev.g g_sorted) Ev.name rfl) .nil) (Call.v nd)) ne) .nil
theorem lw_book {ρ : Loc} {c : Nat} (hρ : ρ = lwLoc sc turn (some (.bytes key)) (some (.bytes v))) (h : LInv a bk kn c) (hc : c <= 8) (hk : key.length <= 32) (hv : ValOk v) (kn' : List (List UInt8)) :
  ∃ bk', Held (withValue a (nibN key) v) bk' /\ bk'.length <= c + 1 /\ (∀ r ∈ bk', r.1.length <= 64) /\ (∀ r ∈ bk', r.2.length <= 60) /\ (∀ r ∈ bk', (5 : UInt8) ∉ r.2) /\
   Ex ((loopBody (lwFor B.w)).drop 3) .next B gl_law (n + 340) ρ ρ (stL y ks (withValue a (nibN key) v) bk kn') (stL y ks (withValue a (nibN key) v) bk' kn') := by
 subst hρ
 have hnl := nibN_length key
 have hfew := h.few
 have hz : (bk.map kvD).length <= 1000000 := by rw [List.length_map]; lia
 have lp := law_path_ok (B := B) (n := n + 339) (σ := stL y ks (withValue a (nibN key) v) bk kn') (b := key) (by lia)
 by_cases hv0 : v = []
 ·have ew : withValue a (nibN key) v = takenOut a (nibN key) := by rw [withValue, if_pos hv0]
  have hd : Held (withValue a (nibN key) v) (delR bk (nibN key)) := by rw [ew]; exact h.held.del
  have hl := @delR_len bk (nibN key)
  refine ⟨delR bk (nibN key), hd, by lia, fun r hr => h.l64 r (mem_delR.mp hr).1, fun r hr => h.v60 r (mem_delR.mp hr).1, fun r hr => h.n5 r (mem_delR.mp hr).1, ?_⟩
  have t0 : (v != []) = false := by rw [hv0]; rfl
  by_cases hin : nibN key ∈ bk.map (fun x => x.1)
  ·refine x1_2 (List.mem_map.mp hin) fun r hr e => ?_
   have hget : dget (bk.map kvD) (toI (nibN key)) = some (.bytes r.2) := by rw [<- e]; exact book_get h.held.keys hr
   have ci := Cmp.inP (B := B) (n := n + 340) (σ := stL y ks (withValue a (nibN key) v) bk kn') (x := 4) (p := toI (nibN key)) rfl
   rw [hget] at ci
   have pp := CallV.popP (B := B) (n := n + 340) (σ := stL y ks (withValue a (nibN key) v) bk kn') (x := 4) (p := toI (nibN key)) rfl hget hz
   rw [ddel_kv] at pp
   exact Ex.ifF (EvT.eq (EvT.cmp Ev.name .cbytes .neY) t0) (Ex.ifT (EvT.cmp (Ev.call (Ev.g g_law_path) (Keeps'.fn rfl) (.cons Ev.name .nil) (Call.v lp)) Ev.name ci)
    (Ex.seq (St1.expr (Ev.meth (a := .obj 4) Ev.name (Meth.pdct (σ := stL y ks (withValue a (nibN key) v) bk kn') rfl PySem.F.slot_dict_pop PySem.F.type_dict_pop) .builtin (.cons (Ev.call (Ev.g g_law_path) (Keeps'.fn rfl) (.cons Ev.name .nil) (Call.v lp)) .nil) pp)) (lw_last rfl hd)))
  ·have hsame : delR bk (nibN key) = bk := by
    unfold delR
    rw [List.filter_eq_self]
    intro r hr
    simp only [Bool.not_eq_true', decide_eq_false_iff_not]
    exact fun e => hin (List.mem_map.mpr ⟨r, hr, e⟩)
   have hget : dget (bk.map kvD) (toI (nibN key)) = none := book_none fun r hr e => hin (List.mem_map.mpr ⟨r, hr, e⟩)
   have ci := Cmp.inP (B := B) (n := n + 340) (σ := stL y ks (withValue a (nibN key) v) bk kn') (x := 4) (p := toI (nibN key)) rfl
   rw [hget] at ci
   rw [hsame] at hd ⊢
   exact Ex.ifF (EvT.eq (EvT.cmp Ev.name .cbytes .neY) t0) (Ex.ifF (EvT.cmp (Ev.call (Ev.g g_law_path) (Keeps'.fn rfl) (.cons Ev.name .nil) (Call.v lp)) Ev.name ci) (lw_last rfl hd))
 ·have ew : withValue a (nibN key) v = putIn a (nibN key) v := by rw [withValue, if_neg hv0]
  have hp := h.held.put (p := nibN key) (v := v) hv0 (by have := hv.1; lia) (by lia) (by lia)
  have hbl := @bkPut_len bk (nibN key) v
  have hd : Held (withValue a (nibN key) v) (bkPut bk (nibN key) v) := by
   rw [ew]
   exact hp.of_mem (fun r => mem_bkPut.symm) (bkPut_keys h.held.keys) (by lia)
  have hm : ∀ r ∈ bkPut bk (nibN key) v, r = (nibN key, v) \/ r ∈ bk := fun r hr => (mem_putR.mp (mem_bkPut.mp hr)).imp id fun q => q.1
  refine ⟨bkPut bk (nibN key) v, hd, by lia, fun r hr => ?_, fun r hr => ?_, fun r hr => ?_, ?_⟩
  ·rcases hm r hr with rfl | hr
   ·show (nibN key).length <= 64; lia
   ·exact h.l64 r hr
  ·rcases hm r hr with rfl | hr
   ·exact hv.1
   ·exact h.v60 r hr
  ·rcases hm r hr with rfl | hr
   ·exact hv.2
   ·exact h.n5 r hr
  ·have si := SetI.pdct (B := B) (n := n + 340) (σ := stL y ks (withValue a (nibN key) v) bk kn') (x := 4) (p := toI (nibN key)) (d := .bytes v) rfl hz
   rw [dput_kv] at si
   exact Ex.ifT (EvT.eq (EvT.cmp Ev.name .cbytes .neY) (by simpa using hv0)) (Ex.seq (St1.setitem Ev.name Ev.name (Ev.call (Ev.g g_law_path) (Keeps'.fn rfl) (.cons Ev.name .nil) (Call.v lp)) si) (lw_last rfl hd))
theorem lw_turn {c : Nat} {o1 o2 : Option D} (h : LInv a bk kn c) (hc : c <= 8) (hy : WellOk y) : ∃ y' a' bk' kn' key v, WellOk y' /\ LInv a' bk' kn' (c + 1) /\
  Ex (loopBody (lwFor B.w)) .next B gl_law (n + 340) (lwLoc sc turn o1 o2) (lwLoc sc turn (some (.bytes key)) (some (.bytes v))) (stL y ks a bk kn) (stL y' ks a' bk' kn') := by
 have kp : findIn (KK B.w) (.ref 255) "put" = some (some (.ref 238)) := by kernel_rfl
 have kpt : typeIn (KK B.w) (.ref 238) = some (.type "function") := by kernel_rfl
 refine x1_1 h.held.rows fun rs H => ?_
 have hkf := h.kfew
 refine x3_4 (change_ok (B := B) (n := n + 337) (w := 0) (kx := 5) (σ := stL y ks a bk kn) (y := y) (ks := kn) rfl hy (by decide) rfl h.k32 (by lia)) fun key v y' hk hv hy' ch => ?_
 have ch : Call 316 [.obj 0, .obj 5] (.tup [.bytes key, .bytes v]) B (n + 340) (stL y ks a bk kn) (stL y' ks a bk kn) := ch
 have tp : Call 238 [.inst 255 3, .bytes key, .bytes v] .none B (n + 340) (stL y' ks a bk kn) (stL y' ks (withValue a (nibN key) v) bk kn) := trie_put_ok (B := B) (n := n + 339) (σ := stL y' ks a bk kn) (t := 3) (i := 1) (key := key) (v := v) rfl H.fit (by decide) (by lia) hk
 have cn := Cmp.notInO (B := B) (n := n + 340) (σ := stL y' ks (withValue a (nibN key) v) bk kn) (x := 5) (ks := kn) (b := key) rfl
 by_cases hin : key ∈ kn
 ·have hct : (!kn.contains key) = false := by simpa using hin
  rw [hct] at cn
  refine x1_6 (lw_book (B := B) (n := n) (y := y') (ks := ks) (sc := sc) (turn := turn) rfl h hc hk hv kn) fun bk' b1 b2 b3 b4 b5 ex => ?_
  refine ⟨y', _, bk', kn, key, v, hy', ⟨b1, b2, b3, b4, b5, h.k32, by lia⟩, ?_⟩
  exact Ex.seq (St1.unpack (ds := [.bytes key, .bytes v]) (Ev.call (Ev.g g_law_change) (Keeps'.fn rfl) (.cons Ev.name (.cons Ev.name .nil)) (Call.v ch)) (by walk_at "v"))
   (Ex.seq (St1.expr (Ev.meth (a := .inst 255 3) Ev.name (Meth.inst (i := 3) (ck_trie _) kp kpt rfl rfl) (Keeps'.fn rfl) (.cons Ev.name (.cons Ev.name .nil)) (Call.v tp)))
   (Ex.ifF (EvT.cmp Ev.name Ev.name cn) ex))
 ·have hct : (!kn.contains key) = true := by simpa using hin
  rw [hct] at cn
  refine x1_6 (lw_book (B := B) (n := n) (y := y') (ks := ks) (sc := sc) (turn := turn) rfl h hc hk hv (kn ++ [key])) fun bk' b1 b2 b3 b4 b5 ex => ?_
  have ap : CallV (.builtin "list.append") [.obj 5, .bytes key] .none B (n + 340) (stL y' ks (withValue a (nibN key) v) bk kn) (stL y' ks (withValue a (nibN key) v) bk (kn ++ [key])) := by
   have := CallV.append (B := B) (n := n + 340) (σ := stL y' ks (withValue a (nibN key) v) bk kn) (x := 5) (ds := kn.map D.bytes) (d := .bytes key) rfl (by rw [List.length_map]; lia)
   have e : stL y' ks (withValue a (nibN key) v) bk (kn ++ [key]) = (stL y' ks (withValue a (nibN key) v) bk kn).set 5 (.lst (kn.map D.bytes ++ [.bytes key])) := by
    unfold stL; rw [List.map_append]; rfl
   rw [e]; exact this
  refine ⟨y', _, bk', kn ++ [key], key, v, hy', ⟨b1, b2, b3, b4, b5, fun k hk' => ?_, by rw [List.length_append]; simp; lia⟩, ?_⟩
  ·rcases List.mem_append.mp hk' with q | q
   ·exact h.k32 k q
   ·rw [List.mem_singleton.mp q]; exact hk
  ·exact Ex.seq (St1.unpack (ds := [.bytes key, .bytes v]) (Ev.call (Ev.g g_law_change) (Keeps'.fn rfl) (.cons Ev.name (.cons Ev.name .nil)) (Call.v ch)) (by walk_at "v"))
    (Ex.seq (St1.expr (Ev.meth (a := .inst 255 3) Ev.name (Meth.inst (i := 3) (ck_trie _) kp kpt rfl rfl) (Keeps'.fn rfl) (.cons Ev.name (.cons Ev.name .nil)) (Call.v tp)))
    (Ex.ifT (EvT.cmp Ev.name Ev.name cn) (Ex.seq (St1.expr (Ev.meth (a := .obj 5) Ev.name (Meth.append (σ := stL y' ks (withValue a (nibN key) v) bk kn) rfl) .builtin (.cons Ev.name .nil) ap)) ex)))
theorem lw_loop : ∀ (l : List D) {y : Cell} {a : Nd} {bk : List Row} {kn : List (List UInt8)} {c : Nat} (turn o1 o2 : Option D), LInv a bk kn c -> c + l.length <= 8 -> WellOk y -> ∃ y' a' bk' kn' t' o1' o2', WellOk y' /\ LInv a' bk' kn' (c + l.length) /\
  ForL (loopTgt (lwFor B.w)) (loopBody (lwFor B.w)) B gl_law (n + 340) l .next (lwLoc sc turn o1 o2) (lwLoc sc t' o1' o2') (stL y ks a bk kn) (stL y' ks a' bk' kn')
 | [], y, a, bk, kn, c, turn, o1, o2, h, _, hy => ⟨y, a, bk, kn, turn, o1, o2, hy, h, .nil⟩
 | d :: l, y, a, bk, kn, c, turn, o1, o2, h, hc, hy => by
  rw [List.length_cons] at hc
  obtain ⟨y1, a1, bk1, kn1, key, v, hy1, h1, ex⟩ := lw_turn (B := B) (n := n) (ks := ks) (sc := sc) (turn := some d) (o1 := o1) (o2 := o2) h (by lia) hy
  obtain ⟨y2, a2, bk2, kn2, t2, p1, p2, hy2, h2, lp⟩ := lw_loop l (some d) (some (.bytes key)) (some (.bytes v)) h1 (by lia) hy1
  refine ⟨y2, a2, bk2, kn2, t2, p1, p2, hy2, ?_, .step (Tgt.name (by walk_at "v")) ex lp⟩
  rw [List.length_cons, show c + (l.length + 1) = c + 1 + l.length by lia]
  exact h2
end
end
section
noncomputable abbrev lwC (w : World) : Expr := arg0 (arg0 (valOf (sAt 0 (bodyIn (KK w) 381))))
section
variable {B : Bs} {gl : Gl} {n : Nat} {ρ : Loc} {σ σ1 σ2 : Sto}
theorem Ev.and3 {a b c : Expr} {pos : Pos} {d : D} (h1 : Ev a (.bool true) B gl n ρ σ σ1) (h2 : Ev (.BoolOp .And [b, c] pos) d B gl n ρ σ1 σ2) : Ev (.BoolOp .And [a, b, c] pos) d B gl n ρ σ σ2 := by
 intro A env s ok fr E Q k
 show wpAny _ A (do
  let v <- eval a env
  standAt pos
  let t <- holding [v] (truthy v)
  match BoolOp.And, t with
  | .And, false | .Or, true => pure v
  | _, _ => boolOp pos .And [eval b env, eval c env]) Q E s.s
 refine wpAny_bind (h1 A env s ok fr _ _ fun v c1 l1 s1 r1 => ?_)
 cases r1
 refine wpAny_bind (wpAny_standAt (wpAny_bind (wpAny_holding (wpAny_truthy_bool ?_))))
 exact h2 A env c1 (ok.step l1 s1) (fr.step l1) _ _ fun v c2 l2 s2 r2 => k v c2 (l1.trans l2) s2 r2
theorem lw_comp : ∀ (l : List Int) (o : Option D), CompE (lwC B.w) B gl_law n (l.map D.int) ((l.map fun x => x.fmod 2147483647).map D.int) [(Str.ofString "fed", o)] σ σ
 | [], _ => .nil
 | x :: l, o => .keep (σ1 := σ) (TgtL.name (by walk_at "v")) .nil (Ev.bin Ev.name .cint (.mod (by decide))) (lw_comp l (some (.int x)))
theorem law_ok {inp : List Int} (hz : inp.length <= 63) : Call 381 [.lst (inp.map D.int)] (.bool true) B (n + 341) [] [] := by
 have hl : (inp.map D.int).length <= 1000000 := by rw [List.length_map]; lia
 let sc : List Int := inp.map fun x => x.fmod 2147483647
 have hsc : ∀ x ∈ sc, (0 : Int) <= x := fun x hx => by
  refine x1_2 (List.mem_map.mp hx) fun z Z Q => ?_; subst Q
  rw [Int.fmod_eq_emod_of_nonneg _ (by decide)]
  exact Int.emod_nonneg _ (by decide)
 have hy0 : WellOk (wellC sc 0 5) := ⟨sc, 0, 5, rfl, by decide, by decide, hsc, by show (inp.map _).length <= 63; rw [List.length_map]; exact hz⟩
 generalize hye : wellC sc 0 5 = y0 at hy0
 have nn : CallV (.ref 290) [] (.inst 290 1) B (n + 340) [y0] [y0, .ns [(Str.ofString "known", .obj 2)], .idct []] := new_num (B := B) (n := n + 338) (σ := [y0])
 have nt : CallV (.ref 255) [.inst 290 1] (.inst 255 3) B (n + 340) [y0, .ns [(Str.ofString "known", .obj 2)], .idct []] [y0, .ns [(Str.ofString "known", .obj 2)], .idct [], trieC 1 .nil] := new_trie (B := B) (n := n + 338) (σ := [y0, .ns [(Str.ofString "known", .obj 2)], .idct []]) (i := 1) (by show 1 < 3; decide)
 have kc : Keeps' (.ref 290) B := Keeps'.cls (ck_num _) ⟨_, _, _, _, by rfl⟩ (by kernel_rfl)
 have kt : Keeps' (.ref 255) B := Keeps'.cls (ck_trie _) ⟨_, _, _, _, by rfl⟩ (by kernel_rfl)
 have cmp := lw_comp (B := B) (n := n + 340) (σ := []) inp none
 have h0 : LInv .nil [] [] 0 := ⟨held_nil, Nat.le_refl _, (fun Z h => nomatch h), (fun Z h => nomatch h), (fun Z h => nomatch h), (fun Z h => nomatch h), Nat.le_refl _⟩
 refine x2_4 (draw_ok (B := B) (n := n + 339) (w := 0) (σ := stL y0 [] .nil [] []) (y := y0) rfl hy0 (many := 8) (by decide)) fun r y1 hy1 r0 r1 dr => ?_
 have dr : Call 304 [.obj 0, .int 8] (.int r) B (n + 340) (stL y0 [] .nil [] []) (stL y1 [] .nil [] []) := dr
 obtain ⟨y2, a, bk, kn, t', o1, o2, hy2, h2, lp⟩ := lw_loop (B := B) (n := n) (ks := []) (sc := .lst (inp.map D.int)) (ups 0 1 (1 + r).toNat) none none none h0 (by rw [upsLen]; lia) hy1
 rw [upsLen] at h2
 have hc8 : 0 + (1 + r).toNat <= 8 := by lia
 refine x1_1 h2.held.rows fun rs H => ?_
 have hfew := h2.few
 let st : Sto := [y2, .ns [(Str.ofString "known", .obj 2)], .idct (kvsOf []), trieC 1 a, .pdct (bk.map kvD), .dead]
 have ih := is_held_ok (B := B) (n := n + 190) (σ := st) (t := 3) (i := 1) (bx := 4) (keys := kn) H rfl rfl h2.k32
 have dg : DigAt st 1 2 [] := ⟨rfl, rfl⟩
 have ctx : Ctx st 0 1 2 3 4 a bk rs := ⟨by show 0 < 6; decide, ⟨[], dg⟩, rfl, rfl, by decide, by decide, by decide, by decide, by decide, by decide, H, by lia, h2.l64, h2.v60, h2.n5⟩
 refine x2_2 (is_rooted_ok (B := B) (n := n + 80) (y := y2) ctx dg (by decide) rfl hy2) fun y3 K' hy3 ir => ?_
 refine x1_2 (are_paths_ok (B := B) (n := n + 320) (σ := wd st 2 0 K' y3) (w := 0) (y := y3) rfl hy3) fun y4 hy4 ip => ?_
 have fz : ∀ pos, Ev (.Name (Str.ofString "known") pos) (.lst (kn.map D.bytes)) B gl_law (n + 340) (lwLoc (.lst (inp.map D.int)) t' o1 o2) (stL y2 [] a bk kn) st := fun pos => Ev.freeze (σ1 := stL y2 [] a bk kn) (x := 5) Ev.name rfl
 refine Call.ret0 (σj := (wd st 2 0 K' y3).set 0 y4) (ρ' := lwLoc (.lst (inp.map D.int)) t' o1 o2) (fn_law _) ?_ rfl
 rw [List.nil_append]
 refine Ex.seq (St1.unpack (σ' := [y0, .ns [(Str.ofString "known", .obj 2)], .idct []]) (ds := [.obj 0, .inst 290 1]) (Ev.tuple (.cons (d := .obj 0) (σ1 := [y0]) ?wl (.cons (Ev.call (Ev.g g_Numbered) kc .nil nn) .nil))) (by walk_at "v") (hw := fun env hk => swapped_or rfl (by decide) env hk))
  (Ex.seq (St1.unpack (σ' := stL y0 [] .nil [] []) (ds := [.inst 255 3, .obj 4, .obj 5]) (Ev.tuple (.cons (Ev.call (Ev.g g_Trie) kt (.cons Ev.name .nil) nt) (.cons (d := .obj 4) (σ1 := [y0, .ns [(Str.ofString "known", .obj 2)], .idct [], trieC 1 .nil, .pdct []]) Ev.dictP (.cons (d := .obj 5) (σ1 := stL y0 [] .nil [] []) (Ev.listM .nil) .nil)))) (by walk_at "v") (hw := fun env hk => swapped_or rfl (by decide) env hk))
  (Ex.seq (St1.of (StX.for_ (EvI.range1 (m := 1 + r) (Ev.g g_range) (.cons (Ev.bin .cint (Ev.call (Ev.g g_law_draw) (Keeps'.fn rfl) (.cons Ev.name (.cons .cint .nil)) (Call.v dr)) .add) .nil) (by lia) (by lia)) lp))
  (Ex.ret (Ev.and3 (σ1 := st) (Ev.call (Ev.g g_law_is_held) (Keeps'.fn rfl) (.cons Ev.name (.cons Ev.name (.cons (σ1 := st) (fz _) .nil))) (Call.v ih))
   (Ev.eq (Ev.and (x := true) (y := true) (Ev.call (Ev.g g_law_is_rooted) (Keeps'.fn rfl) (.cons Ev.name (.cons Ev.name (.cons Ev.name (.cons Ev.name .nil)))) (Call.v ir)) (fun Z => Ev.call (Ev.g g_law_are_paths) (Keeps'.fn rfl) (.cons Ev.name .nil) (Call.v ip)) (fun h => nomatch h)) rfl)))))
 case wl =>
  rw [<- hye]
  refine Ev.listM (σ1 := []) (ds := [.lst (sc.map D.int), .int 0, .int 5]) (.cons (Ev.comp (σ1 := []) (σ' := []) (es := sc.map D.int) (tgts := [Str.ofString "fed"]) (caps := []) (.of (capN := []) rfl (by decide) (Clos.none rfl)) (EvI.val (Ev.eq (d' := .lst (inp.map D.int)) (Ev.slice Ev.name .none (.some .cint) .none (Slc.lst .none .int hl)) ?_) .lst) .nil cmp hl) (.cons .cint (.cons .cint .nil)))
  rw [pick_upto (by decide), List.take_of_length_le (by rw [List.length_map]; show _ <= 63; exact hz)]
end
end
section
theorem law_name (w : World) : nsIn (KK w) mainGlobals (Str.ofString "law") = some (some (.ref 381)) := by rfl
theorem ints_rep {G : Gm} {β : List Addr} {inp : List Int} {vs : List Value} (h : IntsAre vs inp) : RepAll G β vs (inp.map D.int) := by
 induction h with
 | nil => exact .nil
 | cons n t _ ih => exact .cons (.int n t) ih
theorem law_top {w : World} {s₁ : Shared} {mg mb : Str -> Option Value} {fa l : Addr} {vs : List Value} {inp : List Int} {cl : Str -> Option Addr} {mean : ExcName -> Option Value} {args : List WData}
  (hX : (KK w).In s₁.heap) (hg : s₁.heap.Ns mainGlobals mg) (hb : s₁.heap.Ns builtinsNs mb) (nl : s₁.heap.NoLimit) (bu : ∀ x : Str, x ≠ "__name__" -> mb x = bootBuiltins x) (hmg : mg (Str.ofString "law") = some (.ref fa)) (hgens : s₁.gens = #[])
  (hl : s₁.heap.IsList l vs.toArray) (hi : IntsAre vs inp) (hz : ¬ (63 : Int) < (inp.length : Int)) :
  codeAny (model PG w) callerA (.call (.ref fa) ⟨[.ref l], []⟩) (GoodWG PySem.Challenge.rw_pq0400_01.row.claim cl mean args s₁) s₁ := by
 have hfa : fa = 381 := by
  have := mg_of hX hg (law_name w)
  rw [hmg] at this
  injection this with this
  injection this
 subst hfa
 let B : Bs := ⟨w, s₁.heap, mg, mb, hX, hg, hb, nl, bu⟩
 let c : St := ⟨fun b => s₁.heap.get? b, [], s₁⟩
 have sim : Sim B [] c := ⟨fun Z Z h => h, fun Z Z h => h, rfl, .nil, (fun Z h => nomatch h), (fun Z h => nomatch h), (fun i Z Z h => by simp [c] at h), (fun i Z Z h => by simp [c] at h)⟩
 have ok : Ok B callerA 341 [] c := ⟨rfl, by decide, by decide, ⟨[], rfl, trivial, fun Z h => nomatch h⟩, sim⟩
 obtain ⟨o, ho, hc, m, hd⟩ := hl
 have rep : Rep c.G c.β (.ref l) (.lst (inp.map D.int)) := .lst ho hc hd (ints_rep hi)
 refine law_ok (B := B) (n := 0) (inp := inp) (by lia) callerA c [.ref l] ok (.cons rep .nil) _ fun v c' l' s' r => ?_
 cases r
 have hrest := l'.rest
 refine ⟨.inl ⟨_, .bool true, [], rfl, fun cls => rfl, .bool true, ?_, fun Z => ⟨.nil, fun Z h => nomatch h⟩⟩, OldK.of_keep fun b o h => s'.top b o h, by rw [hrest], AllBare.of_eq (by rw [hrest]; exact hgens)⟩
 show (WShape.has [] (.bool true) .bool && WTm.holds [] (.eq .res (.lit (.bool true))) { args := args, res := some (.bool true), after := args }) = true
 have h1 : WShape.has [] (.bool true) .bool = true := by decide +kernel
 have h2 : same (.bool true) (.bool true) = true := by decide +kernel
 rw [h1]
 simp [WTm.holds, WTm.value, h2]
end
end Pq
set_option maxHeartbeats 8000000
theorem PySem.Challenge.cw_pq0400_01_holds : PySem.Challenge.rw_pq0400_01.Holds := by
 refine Pq.hd ?_
 intro w s₀ s₁ mg mb G Y fa o pm cd doc dV kV ho hd hcd hD hmg hg args vals as hpre hlay hrd hwl hlo
 have KX := kIn_of Y
 have hm0 := hmg
 have hg0 := hg
 refine Ground.open G ?_
 intro T B D TE TW
 wrow_args hpre hlay hrd hwl hlo
 all_goals (
  first | refine callC_kw (enter_call ?_) | refine enter_call ?_ | refine callC_kw (enter_callW ?_) | refine enter_callW ?_ | w_how)
 exact Pq.law_top KX T.g T.b T.nolimit T.builtins hm0 hg0 (by assumption) (by assumption) (by assumption)
