import PyProof.Rows.All
import Open.Line
import OpenK.KWalk
import OpenK.KCls
import OpenK.KMake
import PyProof.SumWalk
import Wide.All
import OpenK.KTop
import Wide.FinOn
import PyProof.StrLawsIn
import PySem.Challenge.RW_uf050009_10
set_option Elab.async false
set_option genSizeOf false
set_option compiler.extract_closed false
set_option genInjectivity false
set_option linter.unusedVariables false
set_option bootstrap.genMatcherCode false
open PySem PySem.Calls PyProof.Rows
section
open PySem.W
namespace Mine.Internal.L10
noncomputable abbrev pr : Program := PySem.Challenge.rw_uf050009_10.row.prog
noncomputable def fW (i : Nat) : Arguments × List Stmt × Scope := match (pr.main.body[24]? : Option Stmt) with
 | some (.ClassDef _ _ _ b ..) => (match (b[i]? : Option Stmt) with
  | some (.FunctionDef _ a b _ _ _ sc _ _ _) => (a, b, sc)
  | _ => default)
 | _ => default
noncomputable def x5 (i : Nat) (n q : Str) (t : Tok) (c : Addr) : Obj := { cls := .type "function", data := .func { name := n, qualname := q, params := (fW i).1, body := .stmts (fW i).2.1, scope := (fW i).2.2, globals := 3, closure := [], defaults := .none, kwdefaults := .none, pyModule := .str "keptread.page" t, code := .ref c } }
noncomputable abbrev hE (P : Params) (x : Str) (t : Tok) (v : Value) : DictEntry := { hash := PyData.keyHash P x, key := .str x t, val := v }
noncomputable def E2 (P : Params) : Frag := [
 (1, { cls := .type "dict", data := .dict #[hE P "builtins" 162 (.ref 4), hE P "__main__" 163 (.ref 5)] 2 }),
 (3, { cls := .type "dict", data := .dict #[hE P "__name__" 165 (.str "law_uf050009_10" 539), hE P "__doc__" 166 .none, hE P "__package__" 167 .none, hE P "__loader__" 168 (.builtin "__main__.__loader__#opaque"), hE P "__spec__" 169 .none, hE P "__annotations__" 170 (.ref 6), hE P "__builtins__" 171 (.ref 4), hE P "__file__" 173 (.str "/claim/cut.py" 172), hE P "__cached__" 174 .none, hE P "PageError" 206 (.ref 24), hE P "NoPage" 222 (.ref 37), hE P "OutOfPlace" 238 (.ref 49), hE P "NoSign" 254 (.ref 61), hE P "Full" 270 (.ref 73), hE P "Faulty" 286 (.ref 85), hE P "OPENING" 298 (.ref 88), { hash := PyData.keyHash P "OPENERS", key := .str "OPENERS" 300, val := .str "([{" 299 }, hE P "MOST_ROWS" 302 (.int 64 301), hE P "MOST_SIGNS" 304 (.int 120 303), hE P "is_sign" 311 (.ref 95), hE P "is_row" 319 (.ref 102), hE P "is_text" 327 (.ref 109), hE P "is_bracket" 334 (.ref 116), hE P "taken_apart" 346 (.ref 123), hE P "tree_of_parts" 361 (.ref 130), hE P "lower" 371 (.ref 137), hE P "reading_of" 384 (.ref 144), hE P "joined" 390 (.ref 149), hE P "fault_in" 400 (.ref 156), hE P "Page" 538 (.ref 258), hE P "_law_cell_at" 548 (.ref 269), hE P "_law_any_sign" 556 (.ref 276), hE P "_law_stream" 571 (.ref 283), hE P "_law_text" 577 (.ref 288), hE P "_law_fault" 588 (.ref 295), hE P "_law_put" 600 (.ref 302), hE P "_law_cut" 610 (.ref 309), hE P "_law_deed" 622 (.ref 316), hE P "_law_refused" 632 (.ref 323), hE P "_law_seen" 639 (.ref 330), hE P "_law_tree_or" 646 (.ref 337), hE P "_law_stands" 655 (.ref 344), hE P "_law_reads" 668 (.ref 351), hE P "law" 674 (.ref 356)] 44 }),
 (23, { cls := .type "dict", data := .dict #[hE P "__module__" 196 (.str "keptread.errors" 187), hE P "__firstlineno__" 200 (.int 2 199), hE P "__static_attributes__" 201 (.ref 22), hE P "__weakref__" 203 (.ref 25), hE P "__doc__" 204 .none] 3 }),
 (24, { cls := .type "type", data := .cls { name := "PageError", bases := [.type "ValueError"], mro := [.ref 24, .type "ValueError", .type "Exception", .type "BaseException", .type "object"], ns := 23, qualname := "PageError", subclasses := [.ref 37, .ref 49, .ref 61, .ref 73, .ref 85] }, slots := #[some (.ref 15), none, some (.str "PageError" 189), some (.str "PageError" 197), some (.builtin "ValueError.__new__"), some (.bool true)] }),
 (36, { cls := .type "dict", data := .dict #[hE P "__module__" 214 (.str "keptread.errors" 187), hE P "__firstlineno__" 218 (.int 4 217), hE P "__static_attributes__" 219 (.ref 35), hE P "__doc__" 220 .none] 2 }),
 (37, { cls := .type "type", data := .cls { name := "NoPage", bases := [.ref 24], mro := [.ref 37, .ref 24, .type "ValueError", .type "Exception", .type "BaseException", .type "object"], ns := 36, qualname := "NoPage" }, slots := #[some (.ref 28), none, some (.str "NoPage" 207), some (.str "NoPage" 215), some (.builtin "ValueError.__new__"), some (.bool true)] }),
 (48, { cls := .type "dict", data := .dict #[hE P "__module__" 230 (.str "keptread.errors" 187), hE P "__firstlineno__" 234 (.int 6 233), hE P "__static_attributes__" 235 (.ref 47), hE P "__doc__" 236 .none] 2 }),
 (49, { cls := .type "type", data := .cls { name := "OutOfPlace", bases := [.ref 24], mro := [.ref 49, .ref 24, .type "ValueError", .type "Exception", .type "BaseException", .type "object"], ns := 48, qualname := "OutOfPlace" }, slots := #[some (.ref 40), none, some (.str "OutOfPlace" 223), some (.str "OutOfPlace" 231), some (.builtin "ValueError.__new__"), some (.bool true)] }),
 (60, { cls := .type "dict", data := .dict #[hE P "__module__" 246 (.str "keptread.errors" 187), hE P "__firstlineno__" 250 (.int 8 249), hE P "__static_attributes__" 251 (.ref 59), hE P "__doc__" 252 .none] 2 }),
 (61, { cls := .type "type", data := .cls { name := "NoSign", bases := [.ref 24], mro := [.ref 61, .ref 24, .type "ValueError", .type "Exception", .type "BaseException", .type "object"], ns := 60, qualname := "NoSign" }, slots := #[some (.ref 52), none, some (.str "NoSign" 239), some (.str "NoSign" 247), some (.builtin "ValueError.__new__"), some (.bool true)] }),
 (72, { cls := .type "dict", data := .dict #[hE P "__module__" 262 (.str "keptread.errors" 187), hE P "__firstlineno__" 266 (.int 10 265), hE P "__static_attributes__" 267 (.ref 71), hE P "__doc__" 268 .none] 2 }),
 (73, { cls := .type "type", data := .cls { name := "Full", bases := [.ref 24], mro := [.ref 73, .ref 24, .type "ValueError", .type "Exception", .type "BaseException", .type "object"], ns := 72, qualname := "Full" }, slots := #[some (.ref 64), none, some (.str "Full" 255), some (.str "Full" 263), some (.builtin "ValueError.__new__"), some (.bool true)] }),
 (84, { cls := .type "dict", data := .dict #[hE P "__module__" 278 (.str "keptread.errors" 187), hE P "__firstlineno__" 282 (.int 12 281), hE P "__static_attributes__" 283 (.ref 83), hE P "__doc__" 284 .none] 2 }),
 (85, { cls := .type "type", data := .cls { name := "Faulty", bases := [.ref 24], mro := [.ref 85, .ref 24, .type "ValueError", .type "Exception", .type "BaseException", .type "object"], ns := 84, qualname := "Faulty" }, slots := #[some (.ref 76), none, some (.str "Faulty" 271), some (.str "Faulty" 279), some (.builtin "ValueError.__new__"), some (.bool true)] }),
 (88, { cls := .type "dict", data := .dict #[hE P ")" 289 (.str "(" 290), hE P "]" 291 (.str "[" 292), { hash := PyData.keyHash P "}", key := .str "}" 293, val := .str "{" 294 }] 3 }),
 (257, { cls := .type "dict", data := .dict #[hE P "__module__" 410 (.str "keptread.page" 401), hE P "__firstlineno__" 414 (.int 100 413), hE P "__init__" 420 (.ref 168), hE P "join_all" 427 (.ref 175), hE P "join_over" 440 (.ref 182), hE P "need_place" 449 (.ref 189), hE P "change_row" 455 (.ref 194), hE P "change_rows" 461 (.ref 199), hE P "put" 472 (.ref 206), hE P "cut" 482 (.ref 213), hE P "text" 489 (.ref 220), hE P "fault" 496 (.ref 227), hE P "tree" 503 (.ref 234), hE P "times" 510 (.ref 241), hE P "joins" 517 (.ref 248), hE P "kept" 524 (.ref 255), hE P "__static_attributes__" 531 (.ref 256), hE P "__dict__" 533 (.ref 259), hE P "__weakref__" 535 (.ref 260), hE P "__doc__" 536 .none] 4 }),
 (258, { cls := .type "type", data := .cls { name := "Page", bases := [.type "object"], mro := [.ref 258, .type "object"], ns := 257, qualname := "Page" }, slots := #[none, none, some (.str "Page" 403), some (.str "Page" 411), some (.builtin "object.__new__"), some (.bool true)] }),
  (168, x5 0 "__init__" "Page.__init__" 401 167),
 (167, { cls := .type "code", data := .fields #[.str "__init__" 415, .str "Page.__init__" 416, .str "/claim/cut.py" 417, .int 102 0, .int 2 0, .int 0 0, .int 0 0, .int 3 0, .ref 164, .bool true, .int 181 0, .ref 165, .none, .none, .none, .ref 166, .int 418 0, .int 102 0, .str "/claim/cut.py" 419] }),
  (175, x5 1 "join_all" "Page.join_all" 401 174),
 (174, { cls := .type "code", data := .fields #[.str "join_all" 421, .str "Page.join_all" 422, .str "/claim/cut.py" 423, .int 113 0, .int 1 0, .int 0 0, .int 0 0, .int 3 0, .ref 169, .bool true, .int 181 0, .ref 170, .none, .ref 171, .ref 172, .ref 173, .int 425 0, .int 113 0, .str "/claim/cut.py" 426] }),
  (182, x5 2 "join_over" "Page.join_over" 401 181),
 (181, { cls := .type "code", data := .fields #[.str "join_over" 428, .str "Page.join_over" 429, .str "/claim/cut.py" 430, .int 117 0, .int 4 0, .int 0 0, .int 0 0, .int 3 0, .ref 176, .bool true, .int 181 0, .ref 177, .none, .ref 178, .ref 179, .ref 180, .int 438 0, .int 117 0, .str "/claim/cut.py" 439] }),
  (189, x5 3 "need_place" "Page.need_place" 401 188),
 (188, { cls := .type "code", data := .fields #[.str "need_place" 441, .str "Page.need_place" 442, .str "/claim/cut.py" 443, .int 130 0, .int 3 0, .int 0 0, .int 0 0, .int 3 0, .ref 183, .bool true, .int 181 0, .ref 184, .none, .ref 185, .ref 186, .ref 187, .int 447 0, .int 130 0, .str "/claim/cut.py" 448] }),
  (194, x5 4 "change_row" "Page.change_row" 401 193),
 (193, { cls := .type "code", data := .fields #[.str "change_row" 450, .str "Page.change_row" 451, .str "/claim/cut.py" 452, .int 134 0, .int 3 0, .int 0 0, .int 0 0, .int 3 0, .ref 190, .bool true, .int 181 0, .ref 191, .none, .none, .none, .ref 192, .int 453 0, .int 134 0, .str "/claim/cut.py" 454] }),
  (199, x5 5 "change_rows" "Page.change_rows" 401 198),
 (198, { cls := .type "code", data := .fields #[.str "change_rows" 456, .str "Page.change_rows" 457, .str "/claim/cut.py" 458, .int 141 0, .int 4 0, .int 0 0, .int 0 0, .int 3 0, .ref 195, .bool true, .int 181 0, .ref 196, .none, .none, .none, .ref 197, .int 459 0, .int 141 0, .str "/claim/cut.py" 460] }),
  (206, x5 6 "put" "Page.put" 401 205),
 (205, { cls := .type "code", data := .fields #[.str "put" 462, .str "Page.put" 463, .str "/claim/cut.py" 464, .int 150 0, .int 4 0, .int 0 0, .int 0 0, .int 3 0, .ref 200, .bool true, .int 181 0, .ref 201, .none, .ref 202, .ref 203, .ref 204, .int 470 0, .int 150 0, .str "/claim/cut.py" 471] }),
  (213, x5 7 "cut" "Page.cut" 401 212),
 (212, { cls := .type "code", data := .fields #[.str "cut" 473, .str "Page.cut" 474, .str "/claim/cut.py" 475, .int 164 0, .int 3 0, .int 0 0, .int 0 0, .int 3 0, .ref 207, .bool true, .int 181 0, .ref 208, .none, .ref 209, .ref 210, .ref 211, .int 480 0, .int 164 0, .str "/claim/cut.py" 481] }),
  (220, x5 8 "text" "Page.text" 401 219),
 (219, { cls := .type "code", data := .fields #[.str "text" 483, .str "Page.text" 484, .str "/claim/cut.py" 485, .int 176 0, .int 1 0, .int 0 0, .int 0 0, .int 3 0, .ref 214, .bool true, .int 181 0, .ref 215, .none, .ref 216, .ref 217, .ref 218, .int 487 0, .int 176 0, .str "/claim/cut.py" 488] }),
  (227, x5 9 "fault" "Page.fault" 401 226),
 (226, { cls := .type "code", data := .fields #[.str "fault" 490, .str "Page.fault" 491, .str "/claim/cut.py" 492, .int 179 0, .int 1 0, .int 0 0, .int 0 0, .int 3 0, .ref 221, .bool true, .int 181 0, .ref 222, .none, .ref 223, .ref 224, .ref 225, .int 494 0, .int 179 0, .str "/claim/cut.py" 495] }),
  (234, x5 10 "tree" "Page.tree" 401 233),
 (233, { cls := .type "code", data := .fields #[.str "tree" 497, .str "Page.tree" 498, .str "/claim/cut.py" 499, .int 182 0, .int 1 0, .int 0 0, .int 0 0, .int 3 0, .ref 228, .bool true, .int 181 0, .ref 229, .none, .ref 230, .ref 231, .ref 232, .int 501 0, .int 182 0, .str "/claim/cut.py" 502] }),
  (241, x5 11 "times" "Page.times" 401 240),
 (240, { cls := .type "code", data := .fields #[.str "times" 504, .str "Page.times" 505, .str "/claim/cut.py" 506, .int 187 0, .int 1 0, .int 0 0, .int 0 0, .int 3 0, .ref 235, .bool true, .int 181 0, .ref 236, .none, .ref 237, .ref 238, .ref 239, .int 508 0, .int 187 0, .str "/claim/cut.py" 509] }),
  (248, x5 12 "joins" "Page.joins" 401 247),
 (247, { cls := .type "code", data := .fields #[.str "joins" 511, .str "Page.joins" 512, .str "/claim/cut.py" 513, .int 190 0, .int 1 0, .int 0 0, .int 0 0, .int 3 0, .ref 242, .bool true, .int 181 0, .ref 243, .none, .ref 244, .ref 245, .ref 246, .int 515 0, .int 190 0, .str "/claim/cut.py" 516] }),
  (255, x5 13 "kept" "Page.kept" 401 254),
 (254, { cls := .type "code", data := .fields #[.str "kept" 518, .str "Page.kept" 519, .str "/claim/cut.py" 520, .int 193 0, .int 1 0, .int 0 0, .int 0 0, .int 3 0, .ref 249, .bool true, .int 181 0, .ref 250, .none, .ref 251, .ref 252, .ref 253, .int 522 0, .int 193 0, .str "/claim/cut.py" 523] })]
noncomputable def zW (is : List Nat) (l : List Stmt) : List Stmt := is.filterMap fun i => l[i]?
noncomputable def H6 : Program := { pr with main := { pr.main with body := zW [1,2,3,4,5,6,8,9,10,11,12,13,14,15,16,17,19,20,21,22,24,26,27,28,29,30,31,32,33,34,35,36,37,38,39] pr.main.body } }
noncomputable abbrev x1a : List Addr := [1, 3, 23, 24, 36, 37, 48, 49, 60, 61, 72, 73, 84, 85, 88, 257, 258, 168, 167, 175, 174, 182, 181, 189, 188, 194, 193, 199, 198, 206, 205, 213, 212, 220, 219, 227, 226, 234, 233, 241, 240, 248, 247, 255, 254]
noncomputable abbrev hook : Hook := kHook E2 x1a (fun _ => rfl)
end Mine.Internal.L10
end
section
open PySem.W
namespace Mine.Internal.L10
noncomputable abbrev Xt : Shared -> Bool := fun s => xlAt H6 [] s && recOk (RowW.records (OpenRow.toRowW PySem.Challenge.rw_uf050009_10.row)) s
noncomputable abbrev lY (b : Bool) : Prop := ∀ w : World, (fun w => (openEnds treeTable PySem.Challenge.rw_uf050009_10.row.prog w 5652).map (fun s => (openSeen H6 ["OPENING"] (importedModules PySem.Challenge.rw_uf050009_10.row.prog.main.body) Xt true s, Hook.obs hook s)) = some (openGood H6 ["OPENING"], Hook.val hook w)) (w.withFollow "special-get-raises" b)
set_option maxRecDepth 100000 in
theorem x5F : lY false := fun w => by kernel_rfl
set_option maxRecDepth 100000 in
theorem x3R : lY true := fun w => by kernel_rfl
theorem x4e {P : World -> Prop} (hf : ∀ w : World, P (w.withFollow "special-get-raises" false)) (ht : ∀ w : World, P (w.withFollow "special-get-raises" true)) : ∀ w, P w := fun w => byRow2 "special-get-raises" hf ht w
end Mine.Internal.L10
end
section
namespace Mine.Internal
noncomputable abbrev LL := List (List Nat)
noncomputable abbrev VP := Value -> Shared -> Prop
noncomputable abbrev FP := Flow -> Shared -> Prop
noncomputable abbrev UP := Unit -> Shared -> Prop
theorem n5 {α : Type} {l : List α} {i : Nat} {a : α} (h : l[i]? = some a) : ∃ q : i < l.length, l[i] = a := List.getElem?_eq_some_iff.mp h
theorem lsm {α : Type} {a b : α} (h : a ∈ [b]) : a = b := List.mem_singleton.mp h
theorem mog {α : Type} {l : List α} {i : Nat} {a : α} (h : l[i]? = some a) : a ∈ l := List.mem_of_getElem? h
theorem u7 {α : Type} {l : List α} (h : l.isEmpty = true) : l = [] := List.isEmpty_iff.mp h
theorem k6 {p : Prop} [Decidable p] (h : decide p = true) : p := of_decide_eq_true h
theorem dtt {p : Prop} [Decidable p] (h : p) : decide p = true := decide_eq_true h
theorem dff {p : Prop} [Decidable p] (h : ¬p) : decide p = false := decide_eq_false h
theorem lap {α : Type} {a b : List α} : (a ++ b).length = a.length + b.length := List.length_append
theorem i7 {α β : Type} {f : α -> β} {a : List α} : (a.map f).length = a.length := List.length_map ..
theorem geg {α : Type} {l : List α} {i : Nat} (h : i < l.length) : l[i]? = some l[i] := List.getElem?_eq_getElem h
theorem w2 {b : Bool} (h : b ≠ true) : b = false := Bool.eq_false_iff.mpr h
theorem K6 {α : Type} {o : Option α} (h : o.isSome = true) : ∃ a, o = some a := Option.isSome_iff_exists.mp h
theorem nlt {a b c : Nat} (h : a <= b) (g : b <= c) : a <= c := Nat.le_trans h g
theorem c0 {α β : Type} {o : Option α} {f : α -> Option β} {b : β} (h : o.bind f = some b) : ∃ a, o = some a /\ f a = some b := Option.bind_eq_some_iff.mp h
theorem m3 {α β : Type} {o : Option α} {f : α -> β} {b : β} (h : o.map f = some b) : ∃ a, o = some a /\ f a = b := Option.map_eq_some_iff.mp h
set_option genInjectivity true in
inductive Tag where
 | junk
 | fz
 | hold
 | inst (k : Nat)
 | own (d i : Nat)
 | loc (d : Nat)
 | pgd (k : Nat)
 | pgf (k j : Nat)
noncomputable def Tag.ch (a b : Nat) (c : Bool) : Tag -> Bool
 | .junk => true
 | .own d _ => decide (a <= d)
 | .loc d => decide (b <= d)
 | .pgd _ => c
 | .pgf _ _ => c
 | _ => false
noncomputable def Tag.isLoc : Tag -> Bool
 | .loc _ => true
 | _ => false
theorem Tag.ch_mono {a b a' b' : Nat} {c c' : Bool} (ha : a' <= a) (hb : b' <= b) (hc : c = true -> c' = true) {t : Tag} (h : t.ch a' b' c' = false) : t.ch a b c = false := by
 have k : ∀ {c' c : Bool}, (c = true -> c' = true) -> c' = false -> c = false := fun {c' c} h e => by cases c; rfl; rw [h rfl] at e; exact e
 cases t with
 | own d i => exact dff fun q => of_decide_eq_false h (nlt ha q)
 | loc d => exact dff fun q => of_decide_eq_false h (nlt hb q)
 | pgd i => exact k hc h
 | pgf i j => exact k hc h
 | junk => exact h
 | fz => rfl
 | hold => rfl
 | inst i => rfl
noncomputable abbrev Tags := Addr -> Tag
noncomputable def Tags.put (t : Tags) (a : Addr) (x : Tag) : Tags := fun b => if b = a then x else t b
theorem Tags.put_self (t : Tags) (a : Addr) (x : Tag) : t.put a x a = x := if_pos rfl
noncomputable def Tag.isInst : Tag -> Bool
 | .inst _ => true
 | .loc _ => true
 | _ => false
theorem Tags.put_ne {t : Tags} {a b : Addr} {x : Tag} (h : b ≠ a) : t.put a x b = t b := if_neg h
structure Ws where
 t : Tags
 h : Heap
noncomputable abbrev Ws.get (W : Ws) (a : Addr) : Option Obj := W.h.get? a
noncomputable def Nf (o : Obj) : Prop := ∀ vs, o.data ≠ .fields vs
noncomputable def NI (W : Ws) (x : Addr) : Prop := (∀ k, W.t x ≠ .inst k) /\ ∀ d o, W.t x = .loc d -> W.get x = some o -> Nf o
theorem R8 {W : Ws} {x : Addr} (h : (W.t x).isInst = false) : NI W x := ⟨fun k e => (by rw [e] at h; cases h), fun d o e => (by rw [e] at h; cases h)⟩
theorem o7 {t : Tags} {a : Addr} {x : Tag} {h : Heap} (e : x.isInst = false) : NI ⟨t.put a x, h⟩ a := R8 ((congrArg Tag.isInst (Tags.put_self ..)).trans e)
structure Le (a b : Nat) (c : Bool) (W W' : Ws) : Prop where
 at_ : ∀ x o, W.get x = some o -> (W.t x).ch a b c = false -> W'.t x = W.t x /\ ∃ sl, W'.get x = some { o with slots := sl } /\ ((W.t x).isLoc = false -> sl = o.slots)
 ins : c = false -> ∀ x k, W'.t x = .inst k -> W.t x = .inst k
section
variable {a b a' b' : Nat} {c c' : Bool} {W W' W'' : Ws} {x : Addr} {o : Obj}
theorem Le.refl : Le a b c W W := ⟨fun _ o e _ => ⟨rfl, o.slots, e, fun _ => rfl⟩, fun _ _ _ e => e⟩
theorem Le.trans (l : Le a b c W W') (m : Le a b c W' W'') : Le a b c W W'' := by
 refine ⟨fun x o e k => ?_, fun hc x k e => l.ins hc x k (m.ins hc x k e)⟩
 . obtain ⟨t1, sl, e1, f1⟩ := l.at_ x o e k
   obtain ⟨t2, sl', e2, f2⟩ := m.at_ x _ e1 (by rw [t1]; exact k)
   exact ⟨t2.trans t1, sl', e2, fun h => (f2 (by rw [t1]; exact h)).trans (f1 h)⟩
theorem Le.mono (l : Le a b c W W') (ha : a' <= a) (hb : b' <= b) (hc : c = true -> c' = true) : Le a' b' c' W W' :=
 ⟨fun x o e k => l.at_ x o e (Tag.ch_mono ha hb hc k), fun h => l.ins (by cases c; rfl; rw [hc rfl] at h; exact h)⟩
theorem Le.fix (l : Le a b c W W') (e : W.get x = some o) (k : (W.t x).ch a b c = false) (i : (W.t x).isLoc = false) : W'.get x = some o /\ W'.t x = W.t x := by
 obtain ⟨t1, sl, e1, f1⟩ := l.at_ x o e k
 rw [f1 i] at e1
 exact ⟨e1, t1⟩
structure But (x : Addr) (W W' : Ws) : Prop where
 tg : ∀ b, b ≠ x -> W'.t b = W.t b
 gt : ∀ b o, b ≠ x -> W.get b = some o -> W'.get b = some o
theorem But.push (W : Ws) (o : Obj) (t : Tag) : But W.h.objs.size W ⟨W.t.put W.h.objs.size t, W.h.push o⟩ :=
 ⟨fun _ h => Tags.put_ne h, fun _ _ _ e => Heap.get?_push_of_some _ e⟩
theorem But.tag (W : Ws) (x : Addr) (t : Tag) : But x W ⟨W.t.put x t, W.h⟩ := ⟨fun _ h => Tags.put_ne h, fun _ _ _ e => e⟩
theorem But.same {h' : Heap} (sb : ∀ b o, b ≠ x -> W.get b = some o -> h'.get? b = some o) (t : Tag) : But x W ⟨W.t.put x t, h'⟩ := ⟨fun _ h => Tags.put_ne h, sb⟩
theorem But.keep {h' : Heap} (sb : ∀ b o, b ≠ x -> W.get b = some o -> h'.get? b = some o) : But x W ⟨W.t, h'⟩ := ⟨fun _ _ => rfl, sb⟩
noncomputable def Fr (a b : Nat) (c : Bool) (W : Ws) (x : Addr) : Prop := ∀ o, W.get x = some o -> (W.t x).ch a b c = true
theorem Fr.dead (h : W.get x = none) : Fr a b c W x := fun o e => by rw [h] at e; cases e
theorem Fr.of (h : (W.t x).ch a b c = true) : Fr a b c W x := fun _ _ => h
theorem Le.but (l : Le a b c W W') (B : But x W' W'') (f : Fr a b c W x) (ni : NI W'' x) : Le a b c W W'' := by
 refine ⟨fun y o e k => ?_, fun hc y k e => l.ins hc y k ((B.tg y fun q => ni.1 k (q ▸ e)) ▸ e)⟩
 . have ne : y ≠ x := fun q => by rw [q] at e k; rw [f o e] at k; cases k
   obtain ⟨t1, sl, e1, f1⟩ := l.at_ y o e k
   exact ⟨(B.tg y ne).trans t1, sl, B.gt y _ ne e1, f1⟩
theorem But.le (B : But x W W') (f : Fr a b c W x) (ni : NI W' x) : Le a b c W W' := Le.refl.but B f ni
theorem B7 (h : Heap) {n : Addr} (q : h.objs.size <= n) : h.get? n = none := by
 cases e : h.get? n with
 | none => rfl
 | some o => exact absurd (Heap.lt_size e) (Nat.not_lt.mpr q)
end
noncomputable def Tag.isFz : Tag -> Bool
 | .fz => true
 | _ => false
theorem Tag.isFz_eq {t : Tag} (h : t.isFz = true) : t = .fz := by cases t <;> first | rfl | cases h
noncomputable def sub (h : Heap) (P : Addr -> Bool) : Heap := ⟨h.objs.mapIdx fun i o => if P i then o else { o with data := .freed }, h.life⟩
theorem sub_get {h : Heap} {P : Addr -> Bool} {a : Addr} {o : Obj} : (sub h P).get? a = some o ↔ P a = true /\ h.get? a = some o := by
 rw [Heap.get?_some_iff, Heap.get?_some_iff]
 show (h.objs.mapIdx _)[a]? = some o /\ _ ↔ _
 rw [Array.getElem?_mapIdx]
 cases h.objs[a]? with
 | none => exact ⟨fun q => absurd q.1 (by rintro ⟨⟩), fun q => absurd q.2.1 (by rintro ⟨⟩)⟩
 | some x =>
  cases hp : P a with
  | true => exact ⟨fun q => ⟨rfl, q⟩, fun q => q.2⟩
  | false => exact ⟨fun q => (by obtain ⟨q1, q2⟩ := q; cases q1; cases q2), fun q => absurd q.1 Bool.false_ne_true⟩
noncomputable def Ws.z (W : Ws) : Heap := sub W.h fun a => (W.t a).isFz
noncomputable def Rep (W : Ws) (v : Value) (d : PyData) : Prop := ∃ as, Reads W.z v d as
noncomputable def RepAll (W : Ws) (vs : List Value) (ds : List PyData) : Prop := ∃ as, ReadsAll W.z vs ds as
noncomputable def Fz (W W' : Ws) : Prop := ∀ b o, W.z.get? b = some o -> W'.z.get? b = some o
section
variable {W W' : Ws} {a b : Nat} {c : Bool} {x : Addr} {v : Value} {d : PyData} {vs : List Value} {ds : List PyData}
theorem w5 {o : Obj} (t : W.t x = .fz) (e : W.get x = some o) : W.z.get? x = some o := sub_get.mpr ⟨by rw [t]; rfl, e⟩
theorem q9 {b : Addr} {o : Obj} (h : W.z.get? b = some o) : W.t b = .fz /\ W.get b = some o := let ⟨p, q⟩ := sub_get.mp h; ⟨Tag.isFz_eq p, q⟩
theorem Le.fz (l : Le a b c W W') : Fz W W' := fun x o h => by
 obtain ⟨t, e⟩ := q9 h
 obtain ⟨e1, t1⟩ := l.fix e (by rw [t]; rfl) (by rw [t]; rfl)
 exact w5 (t1.trans t) e1
theorem But.fz (B : But x W W') (n : W.t x ≠ .fz) : Fz W W' := fun y o h => by
 obtain ⟨t, e⟩ := q9 h
 have ne : y ≠ x := fun q => n (q ▸ t)
 exact w5 ((B.tg y ne).trans t) (B.gt y o ne e)
theorem But.fz' (B : But x W W') {o : Obj} (e : W.get x = some o) (e' : W'.get x = some o) (t' : W'.t x = .fz) : Fz W W' := fun y q h => by
 obtain ⟨t, g⟩ := q9 h
 by_cases ne : y = x
 . subst ne; rw [e] at g; cases g; exact w5 t' e'
 . exact w5 ((B.tg y ne).trans t) (B.gt y q ne g)
theorem Rep.mono (l : Fz W W') (r : Rep W v d) : Rep W' v d := let ⟨as, q⟩ := r; ⟨as, PyProof.Rows.Reads.keeps l q⟩
theorem RepAll.mono (l : Fz W W') (r : RepAll W vs ds) : RepAll W' vs ds := let ⟨as, q⟩ := r; ⟨as, PyProof.Rows.ReadsAll.keeps l q⟩
theorem Rep.reads (r : Rep W v d) : ∃ as, Reads W.h v d as := let ⟨as, q⟩ := r; ⟨as, PyProof.Rows.Reads.keeps (fun _ _ e => (q9 e).2) q⟩
theorem RepAll.nil : RepAll W [] [] := ⟨_, .nil⟩
theorem RepAll.cons (h : Rep W v d) (r : RepAll W vs ds) : RepAll W (v :: vs) (d :: ds) := let ⟨_, p⟩ := h; let ⟨_, q⟩ := r; ⟨_, .cons p q⟩
theorem RepAll.inv (r : RepAll W vs (d :: ds)) : ∃ v vs', vs = v :: vs' /\ Rep W v d /\ RepAll W vs' ds := by
 obtain ⟨_, q⟩ := r; cases q with | cons p q => exact ⟨_, _, rfl, ⟨_, p⟩, _, q⟩
theorem RepAll.inv0 (r : RepAll W vs []) : vs = [] := by obtain ⟨_, q⟩ := r; cases q; rfl
theorem RepAll.length (r : RepAll W vs ds) : vs.length = ds.length := let ⟨as, q⟩ := r; SeqAt.ReadsAll.length ds vs as q
theorem RepAll.size {vs : Array Value} (h : RepAll W vs.toList ds) : vs.size = ds.length := h.length
theorem RepAll.get (r : RepAll W vs ds) {k : Nat} (e : ds[k]? = some d) : ∃ v, vs[k]? = some v /\ Rep W v d := by
 induction ds generalizing vs k with
 | nil => cases e
 | cons d' ds ih =>
  obtain ⟨v, vs', rfl, p, q⟩ := r.inv
  cases k with
  | zero => cases e; exact ⟨v, rfl, p⟩
  | succ k => exact ih q e
theorem RepAll.get' (r : RepAll W vs ds) {k : Nat} (e : vs[k]? = some v) : ∃ d, ds[k]? = some d /\ Rep W v d := by
 obtain ⟨h, _⟩ := n5 e
 have h' : k < ds.length := r.length ▸ h
 obtain ⟨u, hu, p⟩ := r.get (geg h')
 rw [e] at hu; cases hu
 exact ⟨_, geg h', p⟩
theorem RepAll.append {ws : List Value} {es : List PyData} (r : RepAll W vs ds) (k : RepAll W ws es) : RepAll W (vs ++ ws) (ds ++ es) := by
 induction ds generalizing vs with
 | nil => rw [r.inv0]; exact k
 | cons d' ds ih => obtain ⟨v, vs', rfl, p, q⟩ := r.inv; exact .cons p (ih q)
theorem RepAll.take (r : RepAll W vs ds) (k : Nat) : RepAll W (vs.take k) (ds.take k) := by
 induction ds generalizing vs k with
 | nil => rw [r.inv0, List.take_nil, List.take_nil]; exact .nil
 | cons d' ds ih =>
  obtain ⟨v, vs', rfl, p, q⟩ := r.inv
  cases k with
  | zero => exact .nil
  | succ k => exact .cons p (ih q k)
theorem RepAll.drop (r : RepAll W vs ds) (k : Nat) : RepAll W (vs.drop k) (ds.drop k) := by
 induction ds generalizing vs k with
 | nil => rw [r.inv0, List.drop_nil, List.drop_nil]; exact .nil
 | cons d' ds ih =>
  cases k with
  | zero => exact r
  | succ k => obtain ⟨v, vs', rfl, p, q⟩ := r.inv; exact ih q k
theorem RepAll.set (r : RepAll W vs ds) (hv : Rep W v d) (k : Nat) : RepAll W (vs.set k v) (ds.set k d) := by
 induction ds generalizing vs k with
 | nil => rw [r.inv0]; exact .nil
 | cons d' ds ih =>
  obtain ⟨u, vs', rfl, p, q⟩ := r.inv
  cases k with
  | zero => exact .cons hv q
  | succ k => exact .cons p (ih q k)
theorem Rep.list {a : Addr} {vs : Array Value} (l : W.h.IsList a vs) (t : W.t a = .fz) (r : RepAll W vs.toList ds) : Rep W (.ref a) (.list ds) := let ⟨o, e, c, n, d⟩ := l; let ⟨_, q⟩ := r; ⟨_, .list (w5 t e) c d q⟩
theorem Rep.tuple {a : Addr} {vs : Array Value} (l : IsTup W.h a vs) (t : W.t a = .fz) (r : RepAll W vs.toList ds) : Rep W (.ref a) (.tuple ds) := let ⟨o, e, c, n, d⟩ := l; let ⟨_, q⟩ := r; ⟨_, .tuple (w5 t e) c d q⟩
noncomputable def wA (W : Ws) (v : Value) : PyData -> Prop
 | .none => v = .none
 | .bool b => v = .bool b
 | .int i => ∃ t, v = .int i t
 | .str x => ∃ t, v = .str x t
 | .list ds => ∃ a vs, v = .ref a /\ W.h.IsList a vs /\ W.t a = .fz /\ RepAll W vs.toList ds
 | .tuple ds => ∃ a vs, v = .ref a /\ IsTup W.h a vs /\ W.t a = .fz /\ RepAll W vs.toList ds
 | .dict _ => True
theorem Rep.inv (r : Rep W v d) : wA W v d := by
 obtain ⟨_, q⟩ := r
 cases q with
 | none => rfl
 | bool b => rfl
 | int i t => exact ⟨t, rfl⟩
 | str x t => exact ⟨t, rfl⟩
 | list e c d q => exact ⟨_, _, rfl, ⟨_, (q9 e).2, c, _, d⟩, (q9 e).1, _, q⟩
 | tuple e c d q => exact ⟨_, _, rfl, ⟨_, (q9 e).2, c, _, d⟩, (q9 e).1, _, q⟩
 | dict => trivial
theorem Rep.int {i : Int} {t : Tok} : Rep W (.int i t) (.int i) := ⟨_, .int i t⟩
theorem Rep.str {x : Str} {t : Tok} : Rep W (.str x t) (.str x) := ⟨_, .str x t⟩
theorem Rep.bool {b : Bool} : Rep W (.bool b) (.bool b) := ⟨_, .bool b⟩
theorem Rep.none : Rep W .none .none := ⟨_, .none⟩
end
noncomputable def S (l : List Nat) : Str := ⟨l.toArray⟩
noncomputable def cs (x : Str) : List Nat := x.cps.toList
theorem O5 (l : List Nat) : cs (S l) = l := rfl
theorem D8 (x : Str) : S (cs x) = x := rfl
inductive F where
 | val (d : PyData)
 | own (xs : List PyData)
 | brw (xs : List PyData)
 | dct (es : List (List Int × PyData))
 | ex (k : Nat)
 | lnd (i : Nat)
 | pg (k : Nat)
 | pgs (ks : List Nat)
noncomputable abbrev Slots := List (Option F)
structure St where
 v : Slots
 p : List Slots
 x : Nat
inductive R (α : Type) where
 | ok (a : α) (st : St)
 | exc (k : Nat) (st : St)
 | stuck
noncomputable def R.bind {α β : Type} : R α -> (α -> St -> R β) -> R β
 | .ok a st, f => f a st
 | .exc k st, _ => .exc k st
 | .stuck, _ => .stuck
inductive Out where
 | ret (f : F) (p : List Slots)
 | exc (k : Nat) (p : List Slots)
 | stuck
noncomputable abbrev Fn := List Slots -> List F -> Out
noncomputable section
noncomputable def small (i : Int) : Bool := decide (i.natAbs < 1073741824)
noncomputable def okLen (n : Nat) : Bool := decide (n <= 16777216)
noncomputable def okInt (n : Int) : Bool := decide (n <= 16777216) && decide (-16777216 <= n)
noncomputable def gd {α : Type} (b : Bool) (x : α) : Option α := if b then some x else none
noncomputable def X8 (d : PyData) : Option Bool := if h : d.ctorIdx = 1 then PyData.bool.elim (motive_1 := fun _ => Option Bool) d h some else none
noncomputable def asI (d : PyData) : Option Int := if h : d.ctorIdx = 2 then PyData.int.elim (motive_1 := fun _ => Option Int) d h some else none
noncomputable def asS (d : PyData) : Option Str := if h : d.ctorIdx = 3 then PyData.str.elim (motive_1 := fun _ => Option Str) d h some else none
noncomputable def z5 (d : PyData) : Option (List PyData) := if h : d.ctorIdx = 4 then PyData.list.elim (motive_1 := fun _ => Option (List PyData)) d h some else none
noncomputable def D3 (d : PyData) : Option (List PyData) := if h : d.ctorIdx = 5 then PyData.tuple.elim (motive_1 := fun _ => Option (List PyData)) d h some else none
theorem wR (i : Int) : asI (.int i) = some i := rfl
theorem nos {α : Type} {v : α} {P : Prop} (h : none = some v) : P := nomatch h
theorem mA {d : PyData} {v : Bool} (h : X8 d = some v) : d = .bool v := by
 by_cases q : d.ctorIdx = 1
 . exact PyData.bool.elim (motive_1 := fun d => X8 d = some v -> d = .bool v) d q (fun i h => by cases h; rfl) h
 . exact nos ((dif_neg q).symm.trans h)
theorem aH {d : PyData} {v : Int} (h : asI d = some v) : d = .int v := by
 by_cases q : d.ctorIdx = 2
 . exact PyData.int.elim (motive_1 := fun d => asI d = some v -> d = .int v) d q (fun i h => by cases h; rfl) h
 . exact nos ((dif_neg q).symm.trans h)
theorem fJ {d : PyData} {v : Str} (h : asS d = some v) : d = .str v := by
 by_cases q : d.ctorIdx = 3
 . exact PyData.str.elim (motive_1 := fun d => asS d = some v -> d = .str v) d q (fun i h => by cases h; rfl) h
 . exact nos ((dif_neg q).symm.trans h)
theorem x0r {d : PyData} {v : List PyData} (h : z5 d = some v) : d = .list v := by
 by_cases q : d.ctorIdx = 4
 . exact PyData.list.elim (motive_1 := fun d => z5 d = some v -> d = .list v) d q (fun i h => by cases h; rfl) h
 . exact nos ((dif_neg q).symm.trans h)
theorem iK {d : PyData} {v : List PyData} (h : D3 d = some v) : d = .tuple v := by
 by_cases q : d.ctorIdx = 5
 . exact PyData.tuple.elim (motive_1 := fun d => D3 d = some v -> d = .tuple v) d q (fun i h => by cases h; rfl) h
 . exact nos ((dif_neg q).symm.trans h)
noncomputable def one {α : Type} : List α -> Option α
 | [x] => some x
 | _ => none
noncomputable def z8 {α : Type} : List α -> Option (α × α)
 | [x, y] => some (x, y)
 | _ => none
theorem n0 {α : Type} {l : List α} {x : α} (h : one l = some x) : l = [x] := by
 cases l with
 | nil => exact nos h
 | cons y r => cases r with
  | nil => cases h; rfl
  | cons _ _ => exact nos h
theorem D2 {α : Type} {l : List α} {x : α × α} (h : z8 l = some x) : l = [x.1, x.2] := by
 cases l with
 | nil => exact nos h
 | cons y r => cases r with
  | nil => exact nos h
  | cons z r => cases r with
   | nil => cases h; rfl
   | cons _ _ => exact nos h
noncomputable def o8 {α β : Type} (as : PyData -> Option α) (d e : PyData) (f : α -> α -> Option β) : Option β := (as d).bind fun a => (as e).bind fun b => f a b
theorem A1 {α β : Type} {as : PyData -> Option α} {d e : PyData} {f : α -> α -> Option β} {g : β} (h : o8 as d e f = some g) : ∃ a b, as d = some a /\ as e = some b /\ f a b = some g := by
 obtain ⟨a, ha, h⟩ := c0 h
 obtain ⟨b, hb, h⟩ := c0 h
 exact ⟨a, b, ha, hb, h⟩
theorem v7 {α : Type} {o o' : Option α} {g : α} (h : o.or o' = some g) : o = some g \/ o' = some g := by
 cases o with
 | none => exact .inr h
 | some x => exact .inl h
noncomputable def binF (op : Operator) (d e : PyData) : Option F :=
 match op with
 | .Add => ((o8 asI d e fun a b => some (.val (.int (a + b)))).or (o8 asS d e fun x y => gd (okLen ((cs x).length + (cs y).length)) (.val (.str (S (cs x ++ cs y)))))).or
   ((o8 z5 d e fun x y => gd (okLen (x.length + y.length)) (.own (x ++ y))).or (o8 D3 d e fun x y => gd (okLen (x.length + y.length)) (.val (.tuple (x ++ y)))))
 | .Sub => o8 asI d e fun a b => some (.val (.int (a - b)))
 | .Mult => (o8 asI d e fun a b => gd (small a || small b) (.val (.int (a * b)))).or ((asS d).bind fun x => (asI e).bind fun n => gd (okLen ((cs x).length * n.toNat) && okInt n) (.val (.str (S (List.replicate n.toNat (cs x)).flatten))))
 | .FloorDiv => o8 asI d e fun a b => gd (small b && b != 0) (.val (.int (a.fdiv b)))
 | .Mod => o8 asI d e fun a b => gd (b != 0) (.val (.int (a.fmod b)))
 | _ => none
noncomputable def A0 (x y : Str) : Bool := !(Builtin.Str.occurrences x y 0 x.length 1).isEmpty
noncomputable def L6 (d : PyData) : Bool := d.canLay0 && decide (d.depth <= 50)
noncomputable def C1 (d : PyData) : Bool := d.ctorIdx == 0
noncomputable def eqF (d e : PyData) : Option Bool := ((o8 asI d e fun a b => some (a == b)).or (o8 asS d e fun x y => some (cs x == cs y))).or (gd (L6 d && L6 e) (d.eqv e))
noncomputable def cmpF (op : CmpOp) (d e : PyData) : Option Bool :=
 match op with
 | .Eq => eqF d e
 | .NotEq => (eqF d e).map fun b => !b
 | .Lt => o8 asI d e fun a b => some (decide (a < b))
 | .LtE => o8 asI d e fun a b => some (decide (a <= b))
 | .Gt => o8 asI d e fun a b => some (decide (b < a))
 | .GtE => o8 asI d e fun a b => some (decide (b <= a))
 | .In => o8 asS d e fun y x => some (A0 x y)
 | .NotIn => o8 asS d e fun y x => some (!A0 x y)
 | .Is => gd (C1 e) (C1 d)
 | .IsNot => gd (C1 e) (!C1 d)
noncomputable def at? (n : Nat) (i : Int) : Option Nat := seqIndex? i n
noncomputable def lenL {α : Type} (xs : List α) : Option Nat := gd (okLen xs.length) xs.length
noncomputable def atL {α : Type} (xs : List α) (i : Int) : Option α := (lenL xs).bind fun n => (at? n i).bind fun k => xs[k]?
noncomputable def sgn (c : Nat) : PyData := .str (S [c])
noncomputable def iR (d e : PyData) : Option PyData := (asI e).bind fun i => (((asS d).bind fun x => (atL (cs x) i).map sgn).or ((z5 d).bind fun xs => atL xs i)).or ((D3 d).bind fun xs => atL xs i)
noncomputable def bnd (o : Option PyData) (d : Nat) : Option Nat :=
 match o with
 | none => some d
 | some e => (asI e).bind fun i => gd (decide (0 <= i /\ i < 4611686018427387904)) i.toNat
noncomputable def cutL {α : Type} (xs : List α) (lo hi : Option PyData) : Option (List α) :=
 (lenL xs).bind fun n => (bnd lo 0).bind fun a => (bnd hi n).map fun b => (xs.take b).drop a
noncomputable def x1W (d : PyData) (lo hi : Option PyData) : Option F := (D3 d).bind fun xs => (gd lo.isNone ()).bind fun _ => hi.bind fun e => (asI e).bind fun i => gd (okLen xs.length && decide (0 <= i /\ i < xs.length)) (.val (.tuple (xs.take i.toNat)))
noncomputable def P4 (d : PyData) (lo hi : Option PyData) : Option F :=
 (x1W d lo hi).or <| ((asS d).bind fun x => (cutL (cs x) lo hi).map fun l => .val (.str (S l))).or ((z5 d).bind fun xs => (cutL xs lo hi).map .own)
noncomputable def pB (d : PyData) : Option Nat := (((asS d).bind fun x => lenL (cs x)).or ((z5 d).bind lenL)).or ((D3 d).bind lenL)
noncomputable def intV (n : Nat) : F := .val (.int n)
noncomputable def itemsS (d : PyData) : Option (List PyData) := ((asS d).bind fun x => gd (okLen (cs x).length) ((cs x).map sgn)).or ((z5 d).bind fun xs => gd (okLen xs.length) xs)
noncomputable def itemsF (d : PyData) : Option (List PyData) := (itemsS d).or ((D3 d).bind fun xs => gd (okLen xs.length) xs)
inductive Ty where
 | str | int | bool | list | tuple
noncomputable def lA (d : PyData) : Ty -> Bool
 | .str => d.ctorIdx == 3
 | .int => d.ctorIdx == 2 || d.ctorIdx == 1
 | .bool => d.ctorIdx == 1
 | .list => d.ctorIdx == 4
 | .tuple => d.ctorIdx == 5
noncomputable def openF (x : Str) : Option Str :=
 if cs x = [41] then some (S [40]) else if cs x = [93] then some (S [91]) else if cs x = [125] then some (S [123]) else none
noncomputable def T6 : Nat -> Option (Str × PyData)
 | 0 => some ("MOST_ROWS", .int 64)
 | 1 => some ("MOST_SIGNS", .int 120)
 | 2 => some ("OPENERS", .str (S [40, 91, 123]))
 | _ => none
noncomputable def splitNL : List Nat -> LL
 | [] => [[]]
 | c :: r => if c = 10 then [] :: splitNL r else match splitNL r with
  | l :: ls => (c :: l) :: ls
  | [] => [[c]]
theorem rG : splitNL [] = [[]] := rfl
theorem V5 {c : Nat} {r : List Nat} : splitNL (c :: r) = if c = 10 then [] :: splitNL r else match splitNL r with | l :: ls => (c :: l) :: ls | [] => [[c]] := rfl
noncomputable def B1 (l : List Nat) (c : Nat) : Int := match l.findIdx? (· == c) with
 | some k => (k : Int)
 | none => -1
noncomputable def strsF : List PyData -> Option (LL)
 | [] => some []
 | d :: r => (asS d).bind fun x => (strsF r).map fun l => cs x :: l
inductive Op where
 | bin (op : Operator)
 | neg | idx | slc (l u : Bool) | tup | lst
 | len | ord | abs | toInt | list | isinst (t : Ty)
 | splitNl | find | join | getOpen | sum | rev
noncomputable def un (f : PyData -> Option F) (ds : List PyData) : Option F := (one ds).bind f
noncomputable def bi (f : PyData -> PyData -> Option F) (ds : List PyData) : Option F := (z8 ds).bind fun p => f p.1 p.2
noncomputable def uC (d : PyData) : Option F := (asS d).bind fun s => (one (cs s)).map fun (c : Nat) => .val (.int c)
noncomputable def sH (d : PyData) : Option F := (asI d).map fun i => .val (.int i.natAbs)
noncomputable def x6t (d : PyData) : Option F := (asI d).map fun i => .val (.int (-i))
noncomputable def mZ (d : PyData) : Option F := (X8 d).map fun b => .val (.int (if b then 1 else 0))
noncomputable def x6L (d : PyData) : Option F := (z5 d).bind fun xs => gd (okLen xs.length) (.own xs)
noncomputable def splitF (d : PyData) : Option F := (asS d).bind fun s => gd (okLen ((cs s).length + 1)) (.own ((splitNL (cs s)).map fun l => .str (S l)))
noncomputable def fR (d e : PyData) : Option F := o8 asS d e fun s t => (one (cs t)).bind fun c => gd (okLen (cs s).length) (.val (.int (B1 (cs s) c)))
noncomputable def dO (d e : PyData) : Option F := (asS d).bind fun s => (z5 e).bind fun xs => (strsF xs).bind fun ls => gd ((cs s).isEmpty && okLen ls.flatten.length) (.val (.str (S ls.flatten)))
noncomputable def zL (d : PyData) : Option F := (asS d).bind fun s => (openF s).map fun y => .val (.str y)
noncomputable def intsF : List PyData -> Option (List Int)
 | [] => some []
 | d :: r => (asI d).bind fun x => (intsF r).map fun l => x :: l
noncomputable def kX (d : PyData) : Option F := (z5 d).bind fun xs => (intsF xs).bind fun is => gd (decide (is.length <= 1000) && is.all small) (.val (.int is.sum))
noncomputable def vY (d : PyData) : Option F := (z5 d).bind fun xs => gd (okLen xs.length) (.own xs.reverse)
noncomputable def yV (l u : Bool) (ds : List PyData) : Option F := match ds with
 | [] => none
 | x :: r => (match l, u with
  | true, true => (z8 r).bind fun p => P4 x (some p.1) (some p.2)
  | true, false => (one r).bind fun a => P4 x (some a) none
  | false, true => (one r).bind fun b => P4 x none (some b)
  | false, false => gd r.isEmpty () |>.bind fun _ => P4 x none none)
noncomputable def I0 : Op -> List PyData -> Option F
 | .bin op, ds => bi (binF op) ds
 | .neg, ds => un x6t ds
 | .idx, ds => bi (fun x y => (iR x y).map .val) ds
 | .slc l u, ds => yV l u ds
 | .tup, ds => gd (okLen ds.length) (.val (.tuple ds))
 | .lst, ds => gd (okLen ds.length) (.own ds)
 | .len, ds => un (fun x => (pB x).map intV) ds
 | .ord, ds => un uC ds
 | .abs, ds => un sH ds
 | .toInt, ds => un mZ ds
 | .list, ds => un x6L ds
 | .isinst t, ds => un (fun x => gd (x.ctorIdx != 6) (.val (.bool (lA x t)))) ds
 | .splitNl, ds => un splitF ds
 | .find, ds => bi fR ds
 | .join, ds => bi dO ds
 | .getOpen, ds => un zL ds
 | .sum, ds => un kX ds
 | .rev, ds => un vY ds
noncomputable def slot (v : Slots) (i : Nat) : Option F := v[i]?.join
inductive Pl where
 | loc (i : Nat)
 | fld (i j : Nat)
noncomputable def pgAt (st : St) (i : Nat) : Option Nat := match slot st.v i with | some (.pg k) => some k | _ => none
noncomputable def getP (st : St) : Pl -> Option F
 | .loc i => slot st.v i
 | .fld i j => (pgAt st i).bind fun k => st.p[k]?.bind fun fl => slot fl j
noncomputable def setP (st : St) (f : Option F) : Pl -> Option St
 | .loc i => gd (decide (i < st.v.length)) { st with v := st.v.set i f }
 | .fld i j => (pgAt st i).bind fun k => st.p[k]?.bind fun fl => gd (decide (j < fl.length)) { st with p := st.p.set k (fl.set j f) }
noncomputable def lstOf (f : F) : Option (List PyData) := match f with
 | .own xs => some xs
 | .brw xs => some xs
 | .val d => z5 d
 | _ => none
noncomputable def listAt (st : St) (p : Pl) : Option (List PyData) := (getP st p).bind lstOf
noncomputable def ownOf : F -> Option (List PyData)
 | .own xs => some xs
 | _ => none
noncomputable def R4 : F -> Option (List (List Int × PyData))
 | .dct es => some es
 | _ => none
noncomputable def ownAt (st : St) (p : Pl) : Option (List PyData) := (getP st p).bind ownOf
noncomputable def F.frz : F -> F
 | .own xs => .val (.list xs)
 | f => f
noncomputable def F.tmp : F -> Bool
 | .own _ => true
 | .dct _ => true
 | .pgs _ => true
 | _ => false
noncomputable def valOf : F -> Option PyData
 | .val d => some d
 | _ => none
noncomputable def valsOf : List F -> Option (List PyData)
 | [] => some []
 | .val d :: r => (valsOf r).map fun l => d :: l
 | _ :: _ => none
noncomputable def seen : Option F -> Option F
 | some (.val d) => some (.val d)
 | some (.own xs) => some (.brw xs)
 | some (.brw xs) => some (.brw xs)
 | some (.pg k) => some (.pg k)
 | _ => none
noncomputable def args (v : Slots) : List F -> Option (List F)
 | [] => some []
 | .val d :: r => (args v r).map fun l => .val d :: l
 | .pg k :: r => (args v r).map fun l => .pg k :: l
 | .lnd i :: r => (seen (slot v i)).bind fun f => (args v r).map fun l => f :: l
 | _ :: _ => none
inductive Pk where
 | len | idx | copy | pop | key | pgx
inductive CE where
 | nil
 | cons (a b : CE)
 | lit (d : PyData)
 | get (p : Pl)
 | mv (p : Pl)
 | lend (i : Nat)
 | glob (k : Nat)
 | op (o : Op) (es : CE)
 | sm (o : Op) (r es : CE)
 | peek (o : Pk) (p : Pl) (es : CE)
 | cmp (op : CmpOp) (es : CE)
 | cmpNil (ne : Bool) (p : Pl)
 | inOpen (a : CE)
 | chain (ab : CE) (o1 o2 : CmpOp) (c : CE)
 | not (a : CE)
 | and (a b : CE)
 | or (a b : CE)
 | call (pure : Bool) (k : Nat) (es : CE)
 | callP (k : Nat) (p : Pl)
 | meth (k : Nat) (r es : CE)
 | new (es : CE)
 | comp (n kd : Nat) (src elt cond : CE)
 | isEx (i c : Nat)
noncomputable def oneO (o : Option F) (st : St) : R (List F) := match o with | some f => .ok [f] st | none => .stuck
noncomputable def bV (b : Bool) : F := .val (.bool b)
noncomputable def getE (p : Pl) (st : St) : R (List F) := match getP st p with
 | some (.val d) => .ok [.val d] st
 | some (.pg k) => .ok [.pg k] st
 | some (.own xs) => (match setP st (some (.val (.list xs))) p with | some st' => .ok [.val (.list xs)] st' | none => .stuck)
 | _ => .stuck
noncomputable def O6 (p : Pl) (st : St) : R (List F) := match getP st p with
 | some (.own xs) => (match setP st none p with | some st' => .ok [.own xs] st' | none => .stuck)
 | _ => .stuck
noncomputable def C9 (f : F) : Option Str := (valOf f).bind asS
noncomputable def o3 (o : Op) (fs : List F) (st : St) : R (List F) := oneO ((valsOf fs).bind (I0 o)) st
noncomputable def G1 (op : CmpOp) (fs : List F) (st : St) : R (List F) := oneO ((valsOf fs).bind (bi fun x y => (cmpF op x y).map bV)) st
noncomputable def keyI (k : PyData) : Option (List Int) := (D3 k).bind fun l => (z8 l).bind fun q => o8 asI q.1 q.2 fun a b => some [a, b]
noncomputable def keyF (es : List (List Int × PyData)) (k : List Int) : Option PyData := (es.find? fun e => decide (e.1 = k)).map (·.2)
noncomputable def putF (es : List (List Int × PyData)) (k : List Int) (d : PyData) : List (List Int × PyData) := if (keyF es k).isSome then es.map fun e => if e.1 = k then (e.1, d) else e else es ++ [(k, d)]
noncomputable def dctAt (st : St) (p : Pl) : Option (List (List Int × PyData)) := (getP st p).bind R4
noncomputable def oneV (fs : List F) : Option PyData := (one fs).bind valOf
noncomputable def oU : F -> Option (List Nat)
 | .pgs ks => some ks
 | _ => none
noncomputable def G8 (p : Pl) (fs : List F) (st : St) : Option (PyData × St) := (gd fs.isEmpty ()).bind fun _ => (ownAt st p).bind fun xs => (xs.getLast?).bind fun d => (gd (okLen xs.length) ()).bind fun _ => (setP st (some (.own xs.dropLast)) p).map fun st' => (d, st')
noncomputable def H0 (o : Pk) (p : Pl) (fs : List F) (st : St) : R (List F) := match o with
 | .len => oneO ((gd fs.isEmpty ()).bind fun _ => (listAt st p).bind fun xs => (lenL xs).map intV) st
 | .copy => oneO ((gd fs.isEmpty ()).bind fun _ => (listAt st p).bind fun xs => gd (okLen xs.length) (.own xs)) st
 | .idx => oneO ((oneV fs).bind fun k => (asI k).bind fun i => (listAt st p).bind fun xs => (atL xs i).map .val) st
 | .key => oneO ((oneV fs).bind fun k => (keyI k).bind fun k => (dctAt st p).bind fun es => (keyF es k).map .val) st
 | .pgx => oneO ((oneV fs).bind fun k => (asI k).bind fun i => (getP st p).bind fun f => (oU f).bind fun ks => (atL ks i).map .pg) st
 | .pop => (match G8 p fs st with
  | some q => .ok [.val q.1] q.2
  | none => .stuck)
noncomputable def C6 (pure : Bool) (st : St) : List Slots := if pure then [] else st.p
noncomputable def outE (pure : Bool) (o : Out) (st : St) : R (List F) := match o with
 | .ret f p => .ok [f] (if pure then st else { st with p := p })
 | .exc k p => .exc k (if pure then st else { st with p := p })
 | .stuck => .stuck
noncomputable def callE (U : Nat -> Fn) (pure : Bool) (k : Nat) (fs : List F) (st : St) : R (List F) := match args st.v fs with
 | some as => outE pure (U k (C6 pure st) as) st
 | none => .stuck
noncomputable def X3 (U : Nat -> Fn) (k : Nat) (p : Pl) (st : St) : R (List F) := match seen (getP st p) with
 | some f => outE true (U k [] [f]) st
 | none => .stuck
noncomputable def Y4 (U : Nat -> Fn) (fs : List F) (st : St) : R (List F) := match args st.v fs with
 | some as => (match U 0 (st.p ++ [List.replicate 6 none]) (.pg st.p.length :: as) with
  | .ret (.val .none) p => .ok [.pg st.p.length] { st with p := p }
  | .exc k p => .exc k { st with p := p }
  | _ => .stuck)
 | none => .stuck
noncomputable def enumFrom (n : Nat) : List PyData -> List PyData
 | [] => []
 | x :: xs => .tuple [.int n, x] :: enumFrom (n + 1) xs
noncomputable def rangeF (a b : Int) : Option (List PyData) := gd (okInt a && okInt b && okLen (b - a).toNat) ((List.range (b - a).toNat).map fun (k : Nat) => PyData.int (a + k))
noncomputable def gR (g : PyData -> Option (List PyData)) (v : Slots) (i : Nat) : Option (List PyData) := match slot v i with
 | some (.brw xs) => gd (okLen xs.length) xs
 | some (.val d) => g d
 | _ => none
noncomputable def itF1 (g : PyData -> Option (List PyData)) (v : Slots) : F -> Option (List PyData)
 | .val d => g d
 | .own xs => gd (okLen xs.length) xs
 | .lnd i => gR g v i
 | _ => none
noncomputable def itF (kd : Nat) (v : Slots) (fs : List F) : Option (List PyData) := match kd with
 | 0 => (one fs).bind (itF1 itemsF v)
 | 1 => ((one fs).bind fun f => (valOf f).bind fun d => (asI d).bind fun n => rangeF 0 n).or ((valsOf fs).bind fun ds => (z8 ds).bind fun q => o8 asI q.1 q.2 rangeF)
 | 2 => ((one fs).bind (itF1 itemsS v)).map (enumFrom 0)
 | _ => none
noncomputable def itE (kd : Nat) (x : List F) (st : St) : R (List PyData) := match itF kd st.v x with | some xs => .ok xs st | none => .stuck
noncomputable def boolL (fs : List F) : Option Bool := (one fs).bind fun f => (valOf f).bind X8
noncomputable def toB (r : R (List F)) : R Bool := r.bind fun fs st => match boolL fs with | some b => .ok b st | none => .stuck
noncomputable def cndE (z : Bool) (r : R (List F)) (st : St) : R Bool := if z then .ok true st else toB r
noncomputable def C2 {δ : Type} (pk : List F -> Option δ) (y : List F) (st : St) : R (List δ) := match pk y with | some d => .ok [d] st | none => .stuck
noncomputable abbrev Q4 : List F -> St -> R (List PyData) := C2 oneV
noncomputable def mapR {δ : Type} (step : PyData -> List Slots -> R (List δ)) : List PyData -> List Slots -> Option (List δ × List Slots)
 | [], p => some ([], p)
 | x :: xs, p => match step x p with
  | .ok ys st => (mapR step xs st.p).map fun q => (ys ++ q.1, q.2)
  | _ => none
theorem T4 {δ : Type} {step : PyData -> List Slots -> R (List δ)} {x : PyData} {xs : List PyData} {p : List Slots} : mapR step (x :: xs) p = match step x p with
  | .ok ys st => (mapR step xs st.p).map fun q => (ys ++ q.1, q.2)
  | _ => none := rfl
noncomputable def inV (v : Slots) (x : PyData) : Slots := v.map seen ++ [some (.val x)]
noncomputable def E1 (n : Nat) (step : PyData -> List Slots -> R (List PyData)) (xs : List PyData) (st : St) : R (List F) := match mapR step xs st.p with
 | some q => if okLen xs.length && st.v.length == n then .ok [.own q.1] { st with p := q.2 } else .stuck
 | none => .stuck
noncomputable def y7 (k c : Nat) : Bool := k == c || decide (5 <= c)
noncomputable def ev (U : Nat -> Fn) : CE -> St -> R (List F)
 | .nil, st => .ok [] st
 | .cons a b, st => (ev U a st).bind fun x st => match x with
  | [f] => (ev U b st).bind fun y st => .ok (f.frz :: y) st
  | _ => .stuck
 | .lit d, st => .ok [.val d] st
 | .get p, st => getE p st
 | .mv p, st => O6 p st
 | .lend i, st => if (slot st.v i).isSome then .ok [.lnd i] st else .stuck
 | .glob k, st => oneO ((T6 k).map fun y => .val y.2) st
 | .op o es, st => (ev U es st).bind fun x st => o3 o x st
 | .sm o r es, st => (ev U r st).bind fun x st => match (one x).bind C9 with
  | some q => (ev U es st).bind fun y st => o3 o (.val (.str q) :: y) st
  | none => .stuck
 | .peek o p es, st => if (getP st p).isSome then (ev U es st).bind fun x st' => H0 o p x st' else .stuck
 | .cmp op es, st => (ev U es st).bind fun x st => G1 op x st
 | .cmpNil ne p, st => oneO ((listAt st p).map fun xs => bV (if ne then !xs.isEmpty else xs.isEmpty)) st
 | .inOpen a, st => (ev U a st).bind fun x st => oneO ((one x).bind fun f => (C9 f).map fun s => bV (openF s).isSome) st
 | .chain ab o1 o2 c, st => (ev U ab st).bind fun x st => match (valsOf x).bind z8 with
  | some p => (match cmpF o1 p.1 p.2 with
   | some true => (ev U c st).bind fun z st => G1 o2 (.val p.2 :: z) st
   | some false => .ok [bV false] st
   | none => .stuck)
  | none => .stuck
 | .not a, st => (toB (ev U a st)).bind fun b st => .ok [bV (!b)] st
 | .and a b, st => (toB (ev U a st)).bind fun x st => if x then ev U b st else .ok [bV false] st
 | .or a b, st => (toB (ev U a st)).bind fun x st => if x then .ok [bV true] st else ev U b st
 | .call pure k es, st => (ev U es st).bind fun x st => callE U pure k x st
 | .callP k p, st => X3 U k p st
 | .meth k r es, st => (ev U r st).bind fun x st => match x with
  | [.pg n] => (ev U es st).bind fun y st => callE U false k (.pg n :: y) st
  | _ => .stuck
 | .new es, st => (ev U es st).bind fun x st => Y4 U x st
 | .comp n kd src elt cond, st => ((ev U src st).bind (itE kd)).bind fun xs st => E1 n (fun d p =>
   (cndE (cond.ctorIdx == 0) (ev U cond ⟨inV st.v d, p, 0⟩) ⟨inV st.v d, p, 0⟩).bind fun b st' => if b then (ev U elt ⟨inV st.v d, st'.p, 0⟩).bind Q4 else .ok [] st') xs st
 | .isEx i c, st => match slot st.v i with | some (.ex k) => if decide (k < 5) then .ok [bV (y7 k c)] st else .stuck | _ => .stuck
noncomputable def i0 : Pl -> Bool
 | .loc _ => false
 | .fld _ _ => true
noncomputable def g8 : CE -> Bool
 | .cons a b => g8 a || g8 b
 | .get p => i0 p
 | .mv p => i0 p
 | .op _ es => g8 es
 | .sm _ r es => g8 r || g8 es
 | .peek o p es => g8 es || (match o with | .pop => i0 p | _ => false)
 | .cmp _ es => g8 es
 | .inOpen a => g8 a
 | .chain ab _ _ c => g8 ab || g8 c
 | .not a => g8 a
 | .and a b => g8 a || g8 b
 | .or a b => g8 a || g8 b
 | .call pure _ es => g8 es || !pure
 | .meth _ _ _ => true
 | .new _ => true
 | .comp _ _ s e c => g8 s || g8 e || g8 c
 | _ => false
inductive CS where
 | nil
 | seq (s r : CS)
 | assign (p : Pl) (e : CE)
 | setd (p : Pl)
 | unpack (is : List Nat) (e : CE)
 | setidx (p : Pl) (k v : CE)
 | setkey (p : Pl) (k v : CE)
 | append (p : Pl) (e : CE)
 | clear (p : Pl)
 | drop (e : CE)
 | ret (e : CE)
 | retN
 | iff (c : CE) (a b : CS)
 | loop (many : Bool) (is : List Nat) (kd : Nat) (src : CE) (body : CS)
 | whl (n : Nat) (c : CE) (body : CS)
 | raise (k : Nat)
 | try_ (b hs : CS)
 | hd (c : Nat) (i : Option Nat) (h r : CS)
 | hnil
 | pages (i n j : Nat) (elt : CE)
inductive Fl where
 | next
 | ret (f : F)
noncomputable def nextO (o : Option St) : R Fl := match o with | some st => .ok .next st | none => .stuck
noncomputable def storO (f : F) (p : Pl) : Option F := match f with
 | .val d => some (.val d)
 | .own xs => some (.own xs)
 | .pg k => gd (!i0 p) (.pg k)
 | _ => none
noncomputable def R3 (p : Pl) (fs : List F) (st : St) : R Fl := nextO ((one fs).bind fun f => (storO f p).bind fun g => setP st (some g) p)
noncomputable def setAll : List Nat -> List PyData -> Slots -> Option Slots
 | [], ds, v => gd ds.isEmpty v
 | _ :: _, [], _ => none
 | i :: is, d :: ds, v => (gd (decide (i < v.length)) ()).bind fun _ => setAll is ds (v.set i (some (.val d)))
noncomputable def bindT (many : Bool) (is : List Nat) (d : PyData) (st : St) : Option St := ((if many then D3 d else some [d]).bind fun ds => setAll is ds st.v).map fun v => { st with v := v }
noncomputable def hZ (is : List Nat) (fs : List F) (st : St) : R Fl := nextO ((oneV fs).bind fun d => bindT true is d st)
noncomputable def U2 (p : Pl) (fs ks : List F) (st : St) : R Fl := nextO ((oneV fs).bind fun d => (oneV ks).bind fun k => (asI k).bind fun n => (ownAt st p).bind fun xs => (gd (okLen xs.length && decide (0 <= n /\ n < xs.length)) ()).bind fun _ => setP st (some (.own (xs.set n.toNat d))) p)
noncomputable def bP (p : Pl) (fs ks : List F) (st : St) : R Fl := nextO ((oneV fs).bind fun d => (oneV ks).bind fun k => (keyI k).bind fun q => (dctAt st p).bind fun es => (gd (okLen es.length) ()).bind fun _ => setP st (some (.dct (putF es q d))) p)
noncomputable def T1 (p : Pl) (fs : List F) (st : St) : R Fl := nextO ((oneV fs).bind fun d => (ownAt st p).bind fun xs => (gd (okLen xs.length) ()).bind fun _ => setP st (some (.own (xs ++ [d]))) p)
noncomputable def kA (p : Pl) (st : St) : R Fl := nextO ((ownAt st p).bind fun xs => (gd (okLen xs.length) ()).bind fun _ => setP st (some (.own [])) p)
noncomputable def P5 (fs : List F) (st : St) : R Fl := match (one fs).bind fun f => storO f (.fld 0 0) with | some f => .ok (.ret f) st | none => .stuck
noncomputable def forL (step : PyData -> St -> R Fl) : List PyData -> St -> R Fl
 | [], st => .ok .next st
 | x :: xs, st => match step x st with
  | .ok .next st => forL step xs st
  | .ok (.ret f) st => .ok (.ret f) st
  | _ => .stuck
theorem iA {step : PyData -> St -> R Fl} {x : PyData} {xs : List PyData} {st : St} : forL step (x :: xs) st = match step x st with
  | .ok .next st => forL step xs st
  | .ok (.ret f) st => .ok (.ret f) st
  | _ => .stuck := rfl
noncomputable def rP (c : St -> R Bool) (b : St -> R Fl) : Nat -> St -> R Fl
 | 0, _ => .stuck
 | n + 1, st => match c st with
  | .ok true st => (match b st with
   | .ok .next st => rP c b n st
   | .ok (.ret f) st => .ok (.ret f) st
   | _ => .stuck)
  | .ok false st => .ok .next st
  | _ => .stuck
noncomputable def tryE (r : R Fl) (h : St -> R Fl) : R Fl := match r with
 | .exc k st => h { st with x := k }
 | r => r
noncomputable def A6 (r : R Fl) : R Fl := match r with
 | .exc _ _ => .stuck
 | r => r
noncomputable def onePg (fs : List F) : Option Nat := match fs with
 | [.pg k] => some k
 | _ => none
noncomputable def pagesE (U : Nat -> Fn) (i n : Nat) (elt : CE) (xs : List PyData) (st : St) : R Fl := match mapR (fun d p => (ev U elt ⟨inV st.v d, p, 0⟩).bind (C2 onePg)) xs st.p with
 | some q => if okLen xs.length && st.v.length == n then nextO (setP { st with p := q.2 } (some (.pgs q.1)) (.loc i)) else .stuck
 | none => .stuck
noncomputable def ex (U : Nat -> Fn) : CS -> St -> R Fl
 | .nil, st => .ok .next st
 | .seq s r, st => (ex U s st).bind fun fl st => match fl with
  | .next => ex U r st
  | .ret f => .ok (.ret f) st
 | .assign p e, st => (ev U e st).bind fun x st => R3 p x st
 | .setd p, st => nextO (setP st (some (.dct [])) p)
 | .unpack is e, st => (ev U e st).bind fun x st => hZ is x st
 | .setidx p k v, st => (ev U v st).bind fun x st => if (oneV x).isSome then if (getP st p).isSome then (ev U k st).bind fun y st => U2 p x y st else .stuck else .stuck
 | .setkey p k v, st => (ev U v st).bind fun x st => if (oneV x).isSome then if (getP st p).isSome then (ev U k st).bind fun y st => bP p x y st else .stuck else .stuck
 | .append p e, st => if (ownAt st p).isSome then (ev U e st).bind fun x st => T1 p x st else .stuck
 | .clear p, st => kA p st
 | .drop e, st => (ev U e st).bind fun _ st => .ok .next st
 | .ret e, st => (ev U e st).bind fun x st => P5 x st
 | .retN, st => .ok (.ret (.val .none)) st
 | .iff c a b, st => (toB (ev U c st)).bind fun t st => if t then ex U a st else ex U b st
 | .loop many is kd src body, st => ((ev U src st).bind (itE kd)).bind fun xs st => forL (fun x st => match bindT many is x st with | some st' => ex U body st' | none => .stuck) xs st
 | .whl n c body, st => rP (fun st => toB (ev U c st)) (ex U body) n st
 | .raise k, st => .exc k st
 | .try_ b hs, st => tryE (ex U b st) (ex U hs)
 | .hd c i h r, st => if decide (st.x < 5) && y7 st.x c then (match i with
   | none => A6 (ex U h st)
   | some i => if i < st.v.length then ((A6 (ex U h { st with v := st.v.set i (some (.ex st.x)) })).bind fun fl st => .ok fl { st with v := [] }) else .stuck) else ex U r st
 | .hnil, _ => .stuck
 | .pages i n j elt, st => match ownAt st (.loc j) with | some xs => pagesE U i n elt xs st | none => .stuck
noncomputable def x2H (r : R Fl) : Out := match r with
 | .ok .next st => .ret (.val .none) st.p
 | .ok (.ret f) st => .ret f st.p
 | .exc k st => .exc k st.p
 | .stuck => .stuck
noncomputable def w7 (U : Nat -> Fn) (np nv : Nat) (body : CS) : Fn := fun p as =>
 if as.length = np then x2H (ex U body ⟨as.map some ++ List.replicate nv none, p, 0⟩) else .stuck
end
structure Tp where
 prog : Program
 w : World
 s : Shared
 mg : Str -> Option Value
 mb : Str -> Option Value
 pk : PySem.W.Frag
 pc : Addr
 xc : Nat -> Value
structure Cx where
 T : Tp
 A : Around
 env : Env
 nm : List Str
 d : Nat
 c : Bool
 full : Bool
 h : Bool
noncomputable def bL (env : Env) (x : Str) : Prop := env.kindOf x = some .local \/ env.kindOf x = some .cell
noncomputable def Holds (env : Env) (h : Heap) (x : Str) (v : Value) : Prop :=
 (env.kindOf x = some .local /\ ∃ m, h.Ns env.locals m /\ m x = some v) \/
 (env.kindOf x = some .cell /\ ∃ c, env.cells.lookup x = some c /\ h.IsCell c (some v))
noncomputable def m9 : Nat -> Str
 | 0 => "rows"
 | 1 => "parts"
 | 2 => "counts"
 | 3 => "known"
 | 4 => "made"
 | _ => "same"
noncomputable def N8 (C dx : Addr) : Obj := { cls := .ref C, dict := some dx, data := .plain }
noncomputable def RepTab (W : Ws) : List (List Int × Addr × Value) -> List (List Int × PyData) -> Prop
 | [], [] => True
 | x :: xs, e :: es => (x.1 = e.1 /\ (∃ o, W.z.get? x.2.1 = some o) /\ Rep W x.2.2 e.2) /\ RepTab W xs es
 | _, _ => False
noncomputable def DctAt (T : Tp) (W : Ws) (a : Addr) (es : List (List Int × PyData)) : Prop :=
 (a == sysModules) = false /\ ∃ xs, W.h.DictOfH (tupleKind (intKind T.prog T.w)) a xs /\ RepTab W xs es
noncomputable def RepF (T : Tp) (W : Ws) (t : Tag) (v : Value) : F -> Prop
 | .val d => Rep W v d
 | .own xs => ∃ a vs, v = .ref a /\ W.h.PlainList a vs /\ W.t a = t /\ RepAll W vs.toList xs
 | .dct es => ∃ a, v = .ref a /\ W.t a = t /\ DctAt T W a es
 | _ => False
noncomputable def IsPg (W : Ws) (v : Value) (k : Nat) : Prop := ∃ a o, v = .ref a /\ W.get a = some o /\ W.t a = .inst k
noncomputable def Ik (W W' : Ws) : Prop := ∀ a o k, W.t a = .inst k -> W.get a = some o -> W'.get a = some o /\ W'.t a = .inst k
theorem IsPg.mono {W W' : Ws} {v : Value} {k : Nat} (hi : Ik W W') (h : IsPg W v k) : IsPg W' v k := let ⟨a, o, e, g, q⟩ := h; ⟨a, o, e, (hi a o k q g).1, (hi a o k q g).2⟩
noncomputable def RelAll {δ : Type} (Rl : Value -> δ -> Prop) : List Value -> List δ -> Prop
 | [], [] => True
 | v :: vs, k :: ks => Rl v k /\ RelAll Rl vs ks
 | _, _ => False
theorem RelAll.imp {δ : Type} {A B : Value -> δ -> Prop} (h : ∀ v d, A v d -> B v d) : ∀ {vs : List Value} {ds : List δ}, RelAll A vs ds -> RelAll B vs ds
 | [], [], _ => trivial
 | _ :: _, _ :: _, r => ⟨h _ _ r.1, RelAll.imp h r.2⟩
 | [], _ :: _, r => r.elim
 | _ :: _, [], r => r.elim
theorem RelAll.snoc {δ : Type} {A : Value -> δ -> Prop} {v : Value} {d : δ} (h : A v d) : ∀ {vs : List Value} {ds : List δ}, RelAll A vs ds -> RelAll A (vs ++ [v]) (ds ++ [d])
 | [], [], _ => ⟨h, trivial⟩
 | _ :: _, _ :: _, r => ⟨r.1, RelAll.snoc h r.2⟩
 | [], _ :: _, r => r.elim
 | _ :: _, [], r => r.elim
theorem RelAll.length {δ : Type} {A : Value -> δ -> Prop} : ∀ {vs : List Value} {ds : List δ}, RelAll A vs ds -> vs.length = ds.length
 | [], [], _ => rfl
 | _ :: _, _ :: _, r => congrArg (· + 1) (RelAll.length r.2)
 | [], _ :: _, r => r.elim
 | _ :: _, [], r => r.elim
theorem RelAll.get {δ : Type} {A : Value -> δ -> Prop} {d : δ} : ∀ {vs : List Value} {ds : List δ} {k : Nat}, RelAll A vs ds -> ds[k]? = some d -> ∃ v, vs[k]? = some v /\ A v d
 | v :: _, _ :: _, 0, r, e => by cases e; exact ⟨v, rfl, r.1⟩
 | _ :: _, _ :: _, k + 1, r, e => RelAll.get (k := k) r.2 e
 | [], [], _, _, e => nomatch e
 | [], _ :: _, _, r, _ => r.elim
 | _ :: _, [], _, r, _ => r.elim
noncomputable def Tag.lent (d : Nat) (c : Bool) : Tag -> Bool
 | .fz => true
 | .own d' _ => decide (d' < d)
 | .pgf _ _ => !c
 | _ => false
noncomputable def RepS (cx : Cx) (W : Ws) (t : Tag) (v : Value) : F -> Prop
 | .brw xs => ∃ a vs, v = .ref a /\ W.h.IsList a vs /\ (W.t a).lent cx.d cx.c = true /\ RepAll W vs.toList xs
 | .ex k => ∃ a o, v = .ref a /\ W.get a = some o /\ W.t a = .fz /\ o.cls = cx.T.xc k
 | .pg k => ∃ a o, v = .ref a /\ W.get a = some o /\ W.t a = .inst k
 | .pgs ks => ∃ a vs, v = .ref a /\ W.h.PlainList a vs /\ W.t a = t /\ RelAll (IsPg W) vs.toList ks
 | f => RepF cx.T W t v f
noncomputable abbrev d9 (cx : Cx) {α : Type} (x : Sem α) (Q : α -> Shared -> Prop) (E : VP) (s : Shared) : Prop := wpAny (model cx.T.prog cx.T.w) cx.A x Q E s
structure PI where
 a : Addr
 da : Addr
 m : Str -> Option Value
structure PgAt (T : Tp) (W : Ws) (k : Nat) (fl : Slots) (q : PI) : Prop where
 inst : W.get q.a = some (N8 T.pc q.da)
 it : W.t q.a = .inst k
 dt : W.t q.da = .pgd k
 ns : W.h.Ns1 q.da q.m
 fld : ∀ j f, j < 6 -> slot fl j = some f -> ∃ v, q.m (m9 j) = some v /\ RepF T W (.pgf k j) v f
 oth : ∀ name, (∀ j, j < 6 -> name ≠ m9 j) -> q.m name = none
 len : fl.length = 6
structure Wok (T : Tp) (c : Bool) (p : List Slots) (W : Ws) : Prop where
 dead : ∀ b, W.get b = none -> W.t b = .junk
 top : ∀ b o, T.s.heap.get? b = some o -> W.get b = some o /\ W.t b = .fz
 pgs : ∀ k fl, p[k]? = some fl -> ∃ q, PgAt T W k fl q
 uq : ∀ x y k, W.t x = .inst k -> W.t y = .inst k -> x = y
 cnt : c = true -> ∀ x k, W.t x = .inst k -> k < p.length
 lf : ∀ b o d, W.t b = .loc d -> W.get b = some o -> Nf o
noncomputable def Frs (W : Ws) (d : Nat) (l : List Env) : Prop := ∀ e ∈ l, e.scope.kind ≠ .module /\ ∃ L d' o, e.frame = some L /\ W.t L = .loc d' /\ d' <= d /\ W.get L = some o
theorem Frs.keep {W W' : Ws} {d e : Nat} {l : List Env} (hd : d <= e) (h : ∀ L d' o, d' <= d -> W.t L = .loc d' -> W.get L = some o -> W'.t L = .loc d' /\ ∃ o', W'.get L = some o') (F : Frs W d l) : Frs W' e l := fun x hx =>
 let ⟨k, L, d', o, h1, h2, h3, h4⟩ := F x hx; let ⟨t, o', g⟩ := h L d' o h3 h2 h4; ⟨k, L, d', o', h1, t, nlt h3 hd, g⟩
noncomputable def Hnd (hd : Option Value) (h : Heap) : Prop := ∃ e oe vs, hd = some (.ref e) /\ h.get? e = some oe /\ oe.data = .fields vs /\ vs[2]? = some .none
theorem Hnd.mono {W W' : Ws} {hd : Option Value} (z : Fz W W') (h : Hnd hd W.z) : Hnd hd W'.z := let ⟨e, oe, vs, h1, h2, h3⟩ := h; ⟨e, oe, vs, h1, z e oe h2, h3⟩
structure Frm (cx : Cx) (v : Slots) (W : Ws) : Prop where
 ns : ∃ m, W.h.Ns cx.env.locals m
 nst : W.t cx.env.locals = .loc cx.d
 cells : ∀ y c, (y, c) ∈ cx.env.cells -> (∃ v, W.h.IsCell c v) /\ ∃ d', W.t c = .loc d' /\ d' <= cx.d /\ (cx.full = true -> d' = cx.d)
 vals : ∀ i f y, slot v i = some f -> cx.nm[i]? = some y -> bL cx.env y -> ∃ u, Holds cx.env W.h y u /\ RepS cx W (.own cx.d (i + 1)) u f
 frs : ∃ l, cx.A.frames = some l /\ Frs W cx.d l
 hnd : cx.h = true -> Hnd cx.A.handled W.z
structure Sim (cx : Cx) (st : St) (W : Ws) : Prop where
 ok : Wok cx.T cx.c st.p W
 fr : Frm cx st.v W
section
variable {T : Tp} {cx : Cx} {W W' : Ws} {t : Tag} {v u : Value} {f : F} {a b d k : Nat} {c c' : Bool} {x : Addr} {p : List Slots} {vs vs' : Slots} {y : Str}
theorem RepTab.mono (l : Fz W W') {xs : List (List Int × Addr × Value)} {es : List (List Int × PyData)} (h : RepTab W xs es) : RepTab W' xs es := by
 induction xs generalizing es with
 | nil => cases es <;> exact h
 | cons x xs ih =>
  cases es with
  | nil => exact h
  | cons e es => exact ⟨⟨h.1.1, let ⟨o, q⟩ := h.1.2.1; ⟨o, l _ o q⟩, h.1.2.2.mono l⟩, ih h.2⟩
theorem RepTab.keys {xs : List (List Int × Addr × Value)} {es : List (List Int × PyData)} (h : RepTab W xs es) {x : List Int × Addr × Value} (hx : x ∈ xs) : ∃ o, W.z.get? x.2.1 = some o := by
 induction xs generalizing es with
 | nil => cases hx
 | cons x' xs ih =>
  cases es with
  | nil => exact h.elim
  | cons e es =>
   rcases List.mem_cons.mp hx with rfl | hx
   . exact h.1.2.1
   . exact ih h.2 hx
theorem DctAt.keep {a : Addr} {es : List (List Int × PyData)} (hz : Fz W W') (hk : ∀ o, W.get a = some o -> W'.get a = some o) (q : DctAt T W a es) : DctAt T W' a es := by
 obtain ⟨q1, xs, ⟨o, e, ep, h1, h2, h3, h4, h5, h6⟩, r⟩ := q
 refine ⟨q1, xs, ⟨o, e, ep, hk _ h1, h2, h3, h4, fun x hx => ?_, h6⟩, r.mono hz⟩
 obtain ⟨ok, hk'⟩ := r.keys hx
 obtain ⟨o', its, n, g1, g2⟩ := h5 x hx
 have e := g1.symm.trans (q9 hk').2
 cases e
 exact ⟨_, its, n, (q9 (hz _ _ hk')).2, g2⟩
theorem zM {h h' : Heap} {a : Addr} {vs : Array Value} (q : h.PlainList a vs) (e : ∀ o, h.get? a = some o -> h'.get? a = some o) : h'.PlainList a vs := let ⟨n, g⟩ := q; ⟨n, e _ g⟩
theorem RepF.keep (hz : Fz W W') (hk : f.tmp = true -> ∀ a o, W.t a = t -> W.get a = some o -> W'.get a = some o /\ W'.t a = t) (h : RepF T W t v f) : RepF T W' t v f := by
 cases f with
 | val d => exact Rep.mono hz h
 | own xs => obtain ⟨a, vs, e, ⟨n, g⟩, q, r⟩ := h; exact ⟨a, vs, e, ⟨n, (hk rfl a _ q g).1⟩, (hk rfl a _ q g).2, r.mono hz⟩
 | dct es =>
  obtain ⟨a, e, q, r⟩ := h
  have r' := r
  obtain ⟨_, xs, ⟨o, _, _, h1, _⟩, _⟩ := r'
  exact ⟨a, e, (hk rfl a o q h1).2, r.keep hz fun o g => (hk rfl a o q g).1⟩
 | brw xs => exact h
 | ex k => exact h
 | lnd i => exact h
 | pg k => exact h
 | pgs ks => exact h
theorem RepS.keep (hz : Fz W W') (hk : f.tmp = true -> ∀ a o, W.t a = t -> W.get a = some o -> W'.get a = some o /\ W'.t a = t) (hl : ∀ a o, (W.t a).lent cx.d cx.c = true -> W.get a = some o -> W'.get a = some o /\ W'.t a = W.t a)
  (hi : ∀ a o k, W.t a = .inst k -> W.get a = some o -> W'.get a = some o /\ W'.t a = .inst k) (h : RepS cx W t v f) : RepS cx W' t v f := by
 cases f with
 | brw xs => obtain ⟨a, vs, e, ⟨o, g, g'⟩, q, r⟩ := h; exact ⟨a, vs, e, ⟨o, (hl a o q g).1, g'⟩, by rw [(hl a o q g).2]; exact q, r.mono hz⟩
 | ex k => obtain ⟨a, o, e, g, q, r⟩ := h; exact ⟨a, o, e, (q9 (hz a o (w5 q g))).2, (q9 (hz a o (w5 q g))).1, r⟩
 | pg k => obtain ⟨a, o, e, g, q⟩ := h; exact ⟨a, o, e, (hi a o k q g).1, (hi a o k q g).2⟩
 | val d => exact RepF.keep (T := cx.T) (f := .val d) hz hk h
 | own xs => exact RepF.keep (T := cx.T) (f := .own xs) hz hk h
 | dct es => exact RepF.keep (T := cx.T) (f := .dct es) hz hk h
 | pgs ks => obtain ⟨a, vs, e, ⟨n, g⟩, q, r⟩ := h; exact ⟨a, vs, e, ⟨n, (hk rfl a _ q g).1⟩, (hk rfl a _ q g).2, r.imp fun _ _ z => z.mono hi⟩
 | lnd i => exact h
theorem Le.ns (l : Le a b c W W') {L : Addr} {m : Str -> Option Value} (k : (W.t L).ch a b c = false) (h : W.h.Ns L m) : W'.h.Ns L m := by
 obtain ⟨o, es, ep, e, r⟩ := h
 obtain ⟨_, sl, e', _⟩ := l.at_ L o e k
 exact ⟨_, es, ep, e', r⟩
theorem Le.cell (l : Le a b c W W') {L : Addr} {v : Option Value} (k : (W.t L).ch a b c = false) (h : W.h.IsCell L v) : W'.h.IsCell L v := by
 obtain ⟨o, e, r⟩ := h
 obtain ⟨_, sl, e', _⟩ := l.at_ L o e k
 exact ⟨_, e', r⟩
theorem Holds.keep {env : Env} {h h' : Heap} (hL : ∀ m, h.Ns env.locals m -> h'.Ns env.locals m) (hC : ∀ y c v, (y, c) ∈ env.cells -> h.IsCell c v -> h'.IsCell c v) (q : Holds env h y u) : Holds env h' y u := by
 rcases q with ⟨k, m, hn, hm⟩ | ⟨k, c, hc, g⟩
 . exact .inl ⟨k, m, hL m hn, hm⟩
 . exact .inr ⟨k, c, hc, hC _ c _ (mem_of_lookup hc) g⟩
theorem V3 {d b a : Nat} {c : Bool} (h : d < b) : (Tag.loc d).ch a b c = false := dff (Nat.not_le.mpr h)
theorem Frm.nsk (F : Frm cx vs W) (l : Le a b c W W') (hb : cx.d < b) {m : Str -> Option Value} (h : W.h.Ns cx.env.locals m) : W'.h.Ns cx.env.locals m := l.ns (by rw [F.nst]; exact V3 hb) h
theorem Frm.cellk (F : Frm cx vs W) (l : Le a b c W W') (hb : cx.d < b) {y : Str} {e : Addr} {v : Option Value} (hy : (y, e) ∈ cx.env.cells) (h : W.h.IsCell e v) : W'.h.IsCell e v := by
 obtain ⟨_, d', q, q', _⟩ := F.cells y e hy
 exact l.cell (by rw [q]; exact V3 (Nat.lt_of_le_of_lt q' hb)) h
theorem Frm.holds (F : Frm cx vs W) (l : Le a b c W W') (hb : cx.d < b) (q : Holds cx.env W.h y u) : Holds cx.env W'.h y u :=
 q.keep (fun m h => F.nsk l hb h) fun y c v hy h => F.cellk l hb hy h
theorem Le.loct (l : Le a b c W W') {e : Addr} {o : Obj} (g : W.get e = some o) (k : (W.t e).ch a b c = false) : W'.t e = W.t e := (l.at_ e o g k).1
theorem x0l {t : Tag} (h : t.lent d c' = true) (ha : d < a) (hc : c = true -> c' = true) : t.ch a b c = false /\ t.isLoc = false := by
 cases t with
 | fz => exact ⟨rfl, rfl⟩
 | own d' i => exact ⟨dff (Nat.not_le.mpr (Nat.lt_trans (k6 h) ha)), rfl⟩
 | pgf i j =>
  refine ⟨?_, rfl⟩
  cases c with
  | false => rfl
  | true => rw [hc rfl] at h; cases h
 | _ => cases h
theorem Frm.le (F : Frm cx vs W) (l : Le a b c W W') (ha : cx.d < a) (hb : cx.d < b) (hc : c = true -> cx.c = true) : Frm cx vs W' := by
 obtain ⟨m, hm⟩ := F.ns
 refine ⟨⟨m, F.nsk l hb hm⟩, ?_, fun y e hy => ?_, fun i f y h1 h2 h3 => ?_, let ⟨l', h1, h2⟩ := F.frs; ⟨l', h1, h2.keep (Nat.le_refl _) fun L d' o hd t g => ?_⟩, fun q => (F.hnd q).mono l.fz⟩
 . obtain ⟨o, _, _, g, _⟩ := hm
   rw [l.loct g (by rw [F.nst]; exact V3 hb)]; exact F.nst
 . obtain ⟨⟨v, g⟩, d', q, q', q2⟩ := F.cells y e hy
   refine ⟨⟨v, F.cellk l hb hy g⟩, d', ?_, q', q2⟩
   obtain ⟨o, g, _⟩ := g
   rw [l.loct g (by rw [q]; exact V3 (Nat.lt_of_le_of_lt q' hb))]; exact q
 . obtain ⟨u, hu, r⟩ := F.vals i f y h1 h2 h3
   refine ⟨u, F.holds l hb hu, r.keep l.fz (fun _ x o q g => ?_) (fun x o q g => ?_) fun x o k q g => ?_⟩
   . have := l.fix g (by rw [q]; exact dff (Nat.not_le.mpr ha)) (by rw [q]; rfl)
     exact ⟨this.1, this.2.trans q⟩
   . obtain ⟨k1, k2⟩ := x0l (a := a) (b := b) q ha hc
     exact l.fix g k1 k2
   . have := l.fix g (by rw [q]; rfl) (by rw [q]; rfl)
     exact ⟨this.1, this.2.trans q⟩
 . obtain ⟨t1, sl, g1, _⟩ := l.at_ L o g (by rw [t]; exact V3 (Nat.lt_of_le_of_lt hd hb))
   exact ⟨t1.trans t, _, g1⟩
noncomputable def Tag.ofPg (k : Nat) : Tag -> Bool
 | .inst i => i == k
 | .pgd i => i == k
 | .pgf i _ => i == k
 | _ => false
theorem PgAt.keep {k : Nat} {fl : Slots} {q : PI} (P : PgAt T W k fl q) (hz : Fz W W') (hk : ∀ a o, (W.t a).ofPg k = true -> W.get a = some o -> W'.get a = some o /\ W'.t a = W.t a) : PgAt T W' k fl q := by
 have hi := hk _ _ (by rw [P.it]; exact beq_self_eq_true k) P.inst
 have hd : ∀ o, W.get q.da = some o -> W'.get q.da = some o /\ W'.t q.da = W.t q.da := fun o g => hk q.da o (by rw [P.dt]; exact beq_self_eq_true k) g
 have ⟨o, g⟩ : ∃ o, W.get q.da = some o := let ⟨o, _, _, g, _⟩ := P.ns; ⟨o, g⟩
 refine ⟨hi.1, hi.2.trans P.it, (hd o g).2.trans P.dt, P.ns.at fun o' e => (hd o' e).1, fun j f hj h => ?_, P.oth, P.len⟩
 obtain ⟨v, hv, hr⟩ := P.fld j f hj h
 refine ⟨v, hv, hr.keep hz fun _ y o q g => ?_⟩
 have := hk y o (by rw [q]; exact beq_self_eq_true k) g
 exact ⟨this.1, this.2.trans q⟩
theorem PgAt.le {k : Nat} {fl : Slots} {q : PI} (P : PgAt T W k fl q) (l : Le a b false W W') : PgAt T W' k fl q :=
 P.keep l.fz fun a o h g => l.fix g (by generalize W.t a = t at h; cases t <;> first | rfl | cases h) (by generalize W.t a = t at h; cases t <;> first | rfl | cases h)
noncomputable def Tag.free (d : Nat) (c : Bool) : Tag -> Bool
 | .junk => true
 | .hold => true
 | .own d' _ => decide (d <= d')
 | .pgd _ => c
 | .pgf _ _ => c
 | _ => false
noncomputable def Tag.off : Tag -> Bool
 | .junk => true
 | .hold => true
 | .own _ _ => true
 | .loc _ => true
 | _ => false
theorem Tag.off_pg {t : Tag} (h : t.off = true) : t.ofPg k = false := by cases t <;> first | rfl | cases h
theorem Tag.off_fz {t : Tag} (h : t.off = true) : t ≠ .fz := fun e => by rw [e] at h; cases h
theorem Tag.free_fz {t : Tag} (h : t.free d c = true) : t ≠ .fz := fun e => by rw [e] at h; cases h
theorem Tag.free_lent {t : Tag} (h : t.free d c = true) : t.lent d c = false := by
 cases t with
 | own d' i => exact dff (Nat.not_lt.mpr (k6 h))
 | pgf i j => exact congrArg (!·) h
 | junk => rfl
 | hold => rfl
 | pgd i => rfl
 | _ => cases h
theorem Wok.lfb (K : Wok T c p W) (B : But x W W') (hn : NI W' x) (b : Addr) (o : Obj) (d : Nat) (t : W'.t b = .loc d) (e : W'.get b = some o) : Nf o := by
 by_cases ne : b = x
 . subst ne; exact hn.2 d o t e
 . rw [B.tg b ne] at t
   cases g : W.get b with
   | none => cases (K.dead b g).symm.trans t
   | some o' => cases (B.gt b o' ne g).symm.trans e; exact K.lf b o d t g
theorem Wok.but (K : Wok T c p W) (B : But x W W') (hx : (W.t x).off = true) (hl : (W'.get x = none -> W'.t x = .junk)) (hn : NI W' x) : Wok T c p W' := by
 have hz := B.fz (Tag.off_fz hx)
 have back : ∀ y k, W'.t y = .inst k -> W.t y = .inst k := fun y k e => (B.tg y fun q => hn.1 k (q ▸ e)) ▸ e
 refine ⟨fun b e => ?_, fun b o e => ?_, fun k fl e => ?_, fun y y' k e e' => K.uq y y' k (back y k e) (back y' k e'), fun hc y k e => K.cnt hc y k (back y k e), K.lfb B hn⟩
 . by_cases ne : b = x
   . subst ne; exact hl e
   . rw [B.tg b ne]
     refine K.dead b ?_
     cases g : W.get b with
     | none => rfl
     | some o => rw [B.gt b o ne g] at e; cases e
 . have := hz b o (w5 (K.top b o e).2 (K.top b o e).1)
   exact ⟨(q9 this).2, (q9 this).1⟩
 . obtain ⟨q, P⟩ := K.pgs k fl e
   refine ⟨q, P.keep hz fun a o h g => ?_⟩
   have ne : a ≠ x := fun q => by rw [q, Tag.off_pg hx] at h; cases h
   exact ⟨B.gt a o ne g, B.tg a ne⟩
theorem Frm.but (F : Frm cx vs W) (B : But x W W') (hx : (W.t x).free cx.d cx.c = true)
  (hv : ∀ i f y, slot vs' i = some f -> cx.nm[i]? = some y -> bL cx.env y -> (slot vs i = some f /\ W.t x ≠ .own cx.d (i + 1)) \/ ∃ u, Holds cx.env W.h y u /\ RepS cx W' (.own cx.d (i + 1)) u f) : Frm cx vs' W' := by
 have hL : cx.env.locals ≠ x := fun q => by rw [<- q, F.nst] at hx; cases hx
 have hC : ∀ y e, (y, e) ∈ cx.env.cells -> e ≠ x := fun y e h q => by
  obtain ⟨_, d', q', _⟩ := F.cells y e h
  rw [<- q, q'] at hx; cases hx
 have keep : ∀ {y u}, Holds cx.env W.h y u -> Holds cx.env W'.h y u := fun {y u} q =>
  q.keep (fun m ⟨o, es, ep, g, r⟩ => ⟨o, es, ep, B.gt _ o hL g, r⟩) fun y e v hy ⟨o, g, r⟩ => ⟨o, B.gt e o (hC y e hy) g, r⟩
 obtain ⟨m, o, es, ep, g, r⟩ := F.ns
 refine ⟨⟨m, o, es, ep, B.gt _ o hL g, r⟩, (B.tg _ hL).trans F.nst, fun y e hy => ?_, fun i f y h1 h2 h3 => ?_, let ⟨l', h1, h2⟩ := F.frs; ⟨l', h1, h2.keep (Nat.le_refl _) fun L d' o hd t g => ?_⟩, fun q => (F.hnd q).mono (B.fz (Tag.free_fz hx))⟩
 . obtain ⟨⟨v, o, g, r⟩, d', q, q'⟩ := F.cells y e hy
   exact ⟨⟨v, o, B.gt e o (hC y e hy) g, r⟩, d', (B.tg e (hC y e hy)).trans q, q'⟩
 . rcases hv i f y h1 h2 h3 with ⟨h4, h5⟩ | ⟨u, hu, r⟩
   . obtain ⟨u, hu, r⟩ := F.vals i f y h4 h2 h3
     have ne : ∀ {a : Addr}, W.t a ≠ W.t x -> a ≠ x := fun h q => h (q ▸ rfl)
     refine ⟨u, keep hu, r.keep (B.fz (Tag.free_fz hx)) (fun _ a o q g => ?_) (fun a o q g => ?_) fun a o k q g => ?_⟩
     . have n : a ≠ x := ne fun e => h5 (e.symm.trans q)
       exact ⟨B.gt a o n g, (B.tg a n).trans q⟩
     . have n : a ≠ x := ne fun e => by rw [e, Tag.free_lent hx] at q; cases q
       exact ⟨B.gt a o n g, B.tg a n⟩
     . have n : a ≠ x := ne fun e => by rw [<- e, q] at hx; cases hx
       exact ⟨B.gt a o n g, (B.tg a n).trans q⟩
   . exact ⟨u, keep hu, r⟩
 . have n : L ≠ x := fun q => by rw [<- q, t] at hx; cases hx
   exact ⟨(B.tg L n).trans t, o, B.gt L o n g⟩
theorem Wok.le {q : List Slots} (K : Wok T c p W) (l : Le a b false W W') (K' : Wok T false q W') : Wok T c p W' :=
 ⟨K'.dead, K'.top, fun k fl h => let ⟨q, P⟩ := K.pgs k fl h; ⟨q, P.le l⟩, K'.uq, fun hc x k h => K.cnt hc x k (l.ins rfl x k h), K'.lf⟩
end
noncomputable abbrev sh (T : Tp) (W : Ws) (tk : Nat) : Shared := { T.s with heap := W.h, toks := tk }
structure Air (B : Heap) (l : List Env) (e : Addr) (cls : Value) (h : Heap) : Prop where
 st : B.StaysIn h
 no : B.get? e = none
 fr : h.FunFrames B l
 ob : ∃ oe vs, h.get? e = some oe /\ oe.cls = cls /\ oe.data = .fields vs /\ vs[2]? = some .none /\
  (vs[1]? = some .none \/ ∃ T oT ts, vs[1]? = some (.ref T) /\ B.get? T = none /\ T ≠ e /\ h.get? T = some oT /\ oT.data = .fields ts /\ ts[3]? = some .none)
noncomputable def Fly (cx : Cx) (k : Nat) (e : Addr) (W : Ws) : Prop :=
 ∃ B l, cx.A.frames = some l /\ (∀ b o, W.get b = some o -> (W.t b).isLoc = false -> W.t b ≠ .junk -> B.get? b = some o) /\ Air B l e (cx.T.xc k) W.h
noncomputable def Post (cx : Cx) (b : Nat) (c : Bool) {α β : Type} (Rl : Ws -> α -> β -> Prop) (W : Ws) (Q : α -> Shared -> Prop) (E : VP) : R β -> Prop
 | .ok x st => ∀ W' tk v, Le cx.d b c W W' -> Sim cx st W' -> Rl W' v x -> Q v (sh cx.T W' tk)
 | .exc k st => ∀ W' tk e, Le cx.d b c W W' -> Sim cx st W' -> Fly cx k e W' -> E (.ref e) (sh cx.T W' tk)
 | .stuck => False
section
variable {cx : Cx} {b b' : Nat} {c c' : Bool} {α β γ δ : Type} {Rl : Ws -> α -> β -> Prop} {Rl' : Ws -> γ -> δ -> Prop} {W W' : Ws} {Q : α -> Shared -> Prop} {E : VP} {r : R β}
theorem Post.to (l : Le cx.d b c W W') (h : Post cx b c Rl W Q E r) : Post cx b c Rl W' Q E r := by
 cases r with
 | ok x st => exact fun W'' tk v l' => h W'' tk v (l.trans l')
 | exc k st => exact fun W'' tk e l' => h W'' tk e (l.trans l')
 | stuck => exact h
theorem Post.bind {f : β -> St -> R δ} {Q' : γ -> Shared -> Prop} (hb : b' <= b) (hc : c = true -> c' = true) (h : Post cx b' c' Rl' W Q' E (r.bind f))
  (k : ∀ x st W' tk v, Le cx.d b c W W' -> Sim cx st W' -> Rl W' v x -> Post cx b' c' Rl' W' Q' E (f x st) -> Q v (sh cx.T W' tk)) : Post cx b c Rl W Q E r := by
 cases r with
 | ok x st => exact fun W' tk v l S q => k x st W' tk v l S q (Post.to (l.mono (Nat.le_refl _) hb hc) h)
 | exc j st => exact fun W' tk e l => h W' tk e (l.mono (Nat.le_refl _) hb hc)
 | stuck => exact h
theorem Post.bind' {f : β -> St -> R δ} {Q' : γ -> Shared -> Prop} (h : Post cx b c Rl' W Q' E (r.bind f))
  (k : ∀ x st W' tk v, Le cx.d b c W W' -> Sim cx st W' -> Rl W' v x -> Post cx b c Rl' W' Q' E (f x st) -> Q v (sh cx.T W' tk)) : Post cx b c Rl W Q E r :=
 h.bind (Nat.le_refl _) id k
end
noncomputable def RepA (cx : Cx) (W : Ws) (v : Value) : F -> Prop
 | .lnd i => ∃ y, cx.nm[i]? = some y /\ bL cx.env y /\ Holds cx.env W.h y v
 | .dct _ => False
 | .pgs _ => False
 | f => RepS cx W (.own cx.d 0) v f
noncomputable def RepL (cx : Cx) (W : Ws) : List Value -> List F -> Prop
 | [], [] => True
 | v :: vs, f :: fs => RepA cx W v f /\ RepL cx W vs fs
 | _, _ => False
section
variable {cx : Cx} {W W' : Ws} {v : Value} {f : F} {vs : List Value} {st : St} {c : Bool}
theorem RepL.one (h : RepL cx W vs [f]) : ∃ v, vs = [v] /\ RepA cx W v f := by
 cases vs with
 | nil => exact h.elim
 | cons v vs =>
  cases vs with
  | nil => exact ⟨v, rfl, h.1⟩
  | cons _ _ => exact h.2.elim
theorem RepL.val {d : PyData} (h : Rep W v d) : RepL cx W [v] [.val d] := ⟨h, trivial⟩
theorem T7 {t : Tag} {d b : Nat} {c c' : Bool} (h : t.lent d c' = true) (hc : c = true -> c' = true) : t.ch d b c = false /\ t.isLoc = false := by
 cases t with
 | fz => exact ⟨rfl, rfl⟩
 | own d' i => exact ⟨dff (Nat.not_le.mpr (k6 h)), rfl⟩
 | pgf i j => exact ⟨(by cases c with | false => rfl | true => rw [hc rfl] at h; cases h), rfl⟩
 | _ => cases h
theorem RepA.mono (F : Frm cx st.v W) (l : Le cx.d (cx.d + 1) c W W') (hc : c = true -> cx.c = true) (hf : f.tmp = false) (h : RepA cx W v f) : RepA cx W' v f := by
 have keep : RepS cx W .junk v f -> RepS cx W' .junk v f := fun h => h.keep l.fz (fun e => by rw [hf] at e; cases e) (fun a o q g => let ⟨k1, k2⟩ := T7 q hc; l.fix g k1 k2) fun a o k q g => (by
  have := l.fix g (by rw [q]; rfl) (by rw [q]; rfl)
  exact ⟨this.1, this.2.trans q⟩)
 cases f with
 | own xs => cases hf
 | dct es => cases hf
 | pgs es => cases hf
 | lnd i => obtain ⟨y, h1, h2, h3⟩ := h; exact ⟨y, h1, h2, F.holds l (Nat.lt_succ_self _) h3⟩
 | val d => exact Rep.mono l.fz h
 | ex k => exact keep h
 | pg k => exact keep h
 | brw xs => exact keep h
theorem sD {d i : Nat} : Tag.own d 0 ≠ Tag.own d (i + 1) := fun e => by cases e
theorem cS {d i b : Nat} {c : Bool} : (Tag.own d i).ch d b c = true := dtt (Nat.le_refl d)
theorem gG {d i : Nat} {c : Bool} : (Tag.own d i).free d c = true := dtt (Nat.le_refl d)
theorem Sim.but {x : Addr} (S : Sim cx st W) (B : But x W W') (hx : (W.t x).free cx.d cx.c = true) (ho : (W.t x).off = true) (h0 : ∀ i, W.t x ≠ .own cx.d (i + 1)) (hl : W'.get x = none -> W'.t x = .junk) (hn : NI W' x) : Sim cx st W' :=
 ⟨S.ok.but B ho hl hn, S.fr.but B hx fun i f y h1 h2 h3 => .inl ⟨h1, h0 i⟩⟩
theorem Sim.frz (b : Nat) (S : Sim cx st W) (h : RepA cx W v f) : ∃ t', Le cx.d b c W ⟨t', W.h⟩ /\ Sim cx st ⟨t', W.h⟩ /\ RepA cx ⟨t', W.h⟩ v f.frz /\ f.frz.tmp = false := by
 have same : f.tmp = false -> f.frz = f -> ∃ t', Le cx.d b c W ⟨t', W.h⟩ /\ Sim cx st ⟨t', W.h⟩ /\ RepA cx ⟨t', W.h⟩ v f.frz /\ f.frz.tmp = false := fun h1 h2 => ⟨W.t, Le.refl, S, by rw [h2]; exact ⟨h, h1⟩⟩
 cases f with
 | own xs =>
  obtain ⟨a, vs, rfl, ⟨n, g⟩, q, r⟩ := h
  have B := But.tag W a .fz
  have hz : Fz W _ := B.fz (by rw [q]; intro e; cases e)
  exact ⟨_, B.le (.of (by rw [q]; exact cS)) (o7 rfl), S.but B (by rw [q]; exact gG) (by rw [q]; rfl) (fun i => by rw [q]; exact sD) (fun e => nomatch (g.symm.trans e)) (o7 rfl),
   Rep.list ⟨_, g, rfl, n, rfl⟩ (Tags.put_self ..) (r.mono hz), rfl⟩
 | dct es => exact h.elim
 | pgs es => exact h.elim
 | val d => exact same rfl rfl
 | brw xs => exact same rfl rfl
 | ex k => exact same rfl rfl
 | lnd i => exact same rfl rfl
 | pg k => exact same rfl rfl
end
noncomputable def seqW (cx : Cx) (E : VP) : List Expr -> (List Value -> Shared -> Prop) -> Shared -> Prop
 | [], T, s => T [] s
 | e :: es, T, s => d9 cx (eval e cx.env) (fun v s' => seqW cx E es (fun vs => T (v :: vs)) s') E s
theorem seqW.mono {cx : Cx} {E : VP} {T T' : List Value -> Shared -> Prop} (k : ∀ vs s, T vs s -> T' vs s) {es : List Expr} {s : Shared} (h : seqW cx E es T s) : seqW cx E es T' s := by
 induction es generalizing T T' s with
 | nil => exact k _ _ h
 | cons e es ih => exact wpAny_mono h (fun v s' h' => ih (fun vs s => k (v :: vs) s) h') fun _ _ x => x
noncomputable def SL (U : Nat -> Fn) (cx : Cx) (cb : Bool) (c : CE) (es : List Expr) : Prop :=
 (g8 c = true -> cb = true) -> ∀ st W, Sim cx st W -> ∀ tk T E, Post cx (cx.d + 1) cb (RepL cx) W T E (ev U c st) -> seqW cx E es T (sh cx.T W tk)
structure Cx.Ok (cx : Cx) (cb : Bool) : Prop where
 cb : cb = true -> cx.c = true
 kind : cx.env.scope.kind = .function
 glob : cx.env.globals = mainGlobals
 bltn : cx.env.builtins = builtinsNs
 hand : cx.h = false -> cx.A.handled = none
 units : cx.A.units + 200 < cLine
 depth : cx.A.depth + 20 < recursionLimit
section
variable {U : Nat -> Fn} {cx : Cx} {cb : Bool} {c a b : CE} {e x y : Expr} {es : List Expr}
theorem A5 {a b : Bool} {P : Prop} (h : (a || b) = true -> P) : a = true -> P := fun e => h (by rw [e]; rfl)
theorem I6 {a b : Bool} {P : Prop} (h : (a || b) = true -> P) : b = true -> P := fun e => h (by rw [e]; exact Bool.or_true a)
theorem x1K : SL U cx cb .nil [] := fun _ st W S tk T E H => H W tk [] Le.refl S trivial
theorem zU (C : cx.Ok cb) (ha : SL U cx cb a [e]) (hb : SL U cx cb b es) : SL U cx cb (.cons a b) (e :: es) := fun hf st W S tk T E H => by
 refine ha (A5 hf) st W S tk (fun vs s' => seqW cx E es (fun us => T (vs ++ us)) s') E (Post.bind' H fun x st1 W1 tk1 vs l1 S1 r1 H1 => ?_)
 cases x with
 | nil => exact H1.elim
 | cons f x =>
  cases x with
  | cons _ _ => exact H1.elim
  | nil =>
   obtain ⟨v, rfl, r⟩ := r1.one
   obtain ⟨t', l2, S2, r2, hn⟩ := S1.frz (c := cb) (cx.d + 1) r
   refine hb (I6 hf) st1 ⟨t', W1.h⟩ S2 tk1 _ E (Post.bind' (H1.to l2) fun y st3 W3 tk3 us l3 S3 r3 H3 => ?_)
   exact H3 W3 tk3 _ Le.refl S3 ⟨r2.mono S2.fr l3 C.cb hn, r3⟩
end
noncomputable abbrev Kd := List (Str × NameKind)
noncomputable def isLoc (nm : List Str) (kd : Kd) (i : Nat) (x : Str) : Bool :=
 nm[i]? == some x && (kd.lookup x == some .local || kd.lookup x == some .cell) && !(x == ("__debug__" : Str))
theorem cU {st : Slots} {i j : Nat} {f : Option F} (hi : i < st.length) : slot (st.set i f) j = if i = j then f else slot st j := by
 unfold slot
 rw [List.getElem?_set]
 by_cases e : i = j
 . rw [if_pos e, if_pos e, if_pos hi]; rfl
 . rw [if_neg e, if_neg e]
theorem x0I {st : Slots} {i : Nat} {f : F} (h : slot st i = some f) : i < st.length := by
 unfold slot at h
 rcases Nat.lt_or_ge i st.length with q | q
 . exact q
 . rw [List.getElem?_eq_none q] at h; cases h
theorem i5 {α : Type} {b : Bool} {x y : α} (h : gd b x = some y) : b = true /\ x = y := by
 cases b with
 | true => cases h; exact ⟨rfl, rfl⟩
 | false => cases h
theorem Holds.uniq {env : Env} {h : Heap} {z : Str} {v u : Value} (p : Holds env h z v) (q : Holds env h z u) : v = u := by
 rcases p with ⟨k, m, ⟨o, es, ep, ho, hd, _, hf⟩, hm⟩ | ⟨k, c, hc, o, ho, hd⟩ <;> rcases q with ⟨k', m', ⟨o', es', ep', ho', hd', _, hf'⟩, hm'⟩ | ⟨k', c', hc', o', ho', hd'⟩
 . cases ho.symm.trans ho'; cases hd.symm.trans hd'
   exact Option.some.inj (hm.symm.trans ((hf z).symm.trans ((hf' z).trans hm')))
 . cases k.symm.trans k'
 . cases k.symm.trans k'
 . cases hc.symm.trans hc'; cases ho.symm.trans ho'; cases hd.symm.trans hd'; rfl
theorem Ns1.uniq {h : Heap} {a : Addr} {m m' : Str -> Option Value} (p : h.Ns1 a m) (q : h.Ns1 a m') (x : Str) : m x = m' x := by
 obtain ⟨o, es, ep, ho, hd, _, _, hf⟩ := p
 obtain ⟨o', es', ep', ho', hd', _, _, hf'⟩ := q
 cases ho.symm.trans ho'; cases hd.symm.trans hd'
 exact (hf x).symm.trans (hf' x)
noncomputable def Nm (cx : Cx) (i : Nat) (y : Str) : Prop := cx.nm[i]? = some y /\ bL cx.env y
structure FI where
 k : Nat
 fl : Slots
 q : PI
 y : Str
structure FldAt (cx : Cx) (st : St) (W : Ws) (v : Value) (f : F) (t : Tag) (i j : Nat) (n : FI) : Prop where
 lt : j < 6
 nm : Nm cx i n.y
 me : Holds cx.env W.h n.y (.ref n.q.a)
 pg : slot st.v i = some (.pg n.k)
 p : st.p[n.k]? = some n.fl
 sf : slot n.fl j = some f
 tg : t = .pgf n.k j
 P : PgAt cx.T W n.k n.fl n.q
 mv : n.q.m (m9 j) = some v
 r : RepF cx.T W t v f
noncomputable def PlAt (cx : Cx) (st : St) (W : Ws) (v : Value) (f : F) (t : Tag) : Pl -> Prop
 | .loc i => slot st.v i = some f /\ t = .own cx.d (i + 1) /\ (∃ y, Nm cx i y /\ Holds cx.env W.h y v) /\ RepS cx W t v f
 | .fld i j => ∃ n, FldAt cx st W v f t i j n
noncomputable def x4B (cx : Cx) : Pl -> Prop
 | .loc i => ∃ y, Nm cx i y
 | .fld i j => j < 6 /\ ∃ y, Nm cx i y
section
variable {cx : Cx} {st st' : St} {W W' : Ws} {v : Value} {f f' : F} {t : Tag} {p : Pl} {c : Bool} {x : Addr} {fo : Option F}
theorem eD {i k : Nat} (h : pgAt st i = some k) : slot st.v i = some (.pg k) := by
 delta pgAt at h
 cases hs : slot st.v i with
 | none => rw [hs] at h; cases h
 | some f => rw [hs] at h; cases f <;> first | (cases h; rfl) | cases h
theorem Wok.inst_at {T : Tp} {q : List Slots} {k : Nat} {fl : Slots} {a : Addr} {o : Obj} (K : Wok T c q W) (h : q[k]? = some fl) (e : W.get a = some o) (t : W.t a = .inst k) : ∃ n, PgAt T W k fl n /\ n.a = a := by
 obtain ⟨n, P⟩ := K.pgs k fl h
 exact ⟨n, P, K.uq n.a a k P.it t⟩
theorem oK {i j : Nat} (h : getP st (.fld i j) = some f) : ∃ k fl, slot st.v i = some (.pg k) /\ st.p[k]? = some fl /\ slot fl j = some f := by
 obtain ⟨k, hk, h⟩ := c0 h
 obtain ⟨fl, hfl, h⟩ := c0 h
 exact ⟨k, fl, eD hk, hfl, h⟩
theorem Sim.at (S : Sim cx st W) (ok : x4B cx p) (h : getP st p = some f) : ∃ v t, PlAt cx st W v f t p := by
 cases p with
 | loc i =>
  obtain ⟨y, hy⟩ := ok
  obtain ⟨u, hu, r⟩ := S.fr.vals i f y h hy.1 hy.2
  exact ⟨u, _, h, rfl, ⟨y, hy, hu⟩, r⟩
 | fld i j =>
  obtain ⟨hj, y, hy⟩ := ok
  obtain ⟨k, fl, hk, hfl, hf⟩ := oK h
  obtain ⟨u, hu, a, o, rfl, g, q⟩ := S.fr.vals i _ y hk hy.1 hy.2
  obtain ⟨n, P, rfl⟩ := S.ok.inst_at hfl g q
  obtain ⟨v, hv, r⟩ := P.fld j f hj hf
  exact ⟨v, _, ⟨k, fl, n, y⟩, hj, hy, hu, hk, hfl, hf, rfl, P, hv, r⟩
theorem FldAt.later {i j : Nat} {n : FI} (P : FldAt cx st W v f t i j n) (F : Frm cx st.v W) (S : Sim cx st' W') (l : Le cx.d (cx.d + 1) false W W') (h : getP st' (.fld i j) = some f') : ∃ n', FldAt cx st' W' v f' (.pgf n.k j) i j n' := by
 obtain ⟨k', fl', hk', hfl', hf'⟩ := oK h
 obtain ⟨u, hu, a', o, rfl, g, q⟩ := S.fr.vals i _ n.y hk' P.nm.1 P.nm.2
 have P1 := P.P.le l
 cases (F.holds l (Nat.lt_succ_self _) P.me).uniq hu
 cases P1.it.symm.trans q
 obtain ⟨n', P2, e⟩ := S.ok.inst_at hfl' g q
 obtain ⟨v', hv', r'⟩ := P2.fld j f' P.lt hf'
 have ei := P1.inst
 rw [<- e, P2.inst] at ei
 have ed : n'.da = n.q.da := by injection ei with ei; injection ei with _ ei; exact Option.some.inj ei
 have em : n.q.m (m9 j) = n'.m (m9 j) := Ns1.uniq P1.ns (ed ▸ P2.ns) _
 cases (em.symm.trans P.mv).symm.trans hv'
 exact ⟨⟨_, fl', n', n.y⟩, P.lt, P.nm, e ▸ hu, hk', hfl', hf', rfl, P2, hv', r'⟩
theorem PlAt.later (P : PlAt cx st W v f t p) (F : Frm cx st.v W) (S : Sim cx st' W') (l : Le cx.d (cx.d + 1) c W W') (hc : i0 p = true -> c = false) (h : getP st' p = some f') : ∃ t', PlAt cx st' W' v f' t' p := by
 cases p with
 | loc i =>
  obtain ⟨_, _, ⟨y, hy, hv⟩, _⟩ := P
  obtain ⟨u, hu, r⟩ := S.fr.vals i f' y h hy.1 hy.2
  cases (F.holds l (Nat.lt_succ_self _) hv).uniq hu
  exact ⟨_, h, rfl, ⟨y, hy, hu⟩, r⟩
 | fld i j =>
  obtain ⟨n, P⟩ := P
  cases hc rfl
  exact ⟨_, P.later F S l h⟩
theorem RepF.s (h : RepF cx.T W t v f) : RepS cx W t v f := by
 cases f <;> first | exact h | exact h.elim
theorem Wok.fld {T : Tp} {q : List Slots} {k : Nat} {fl fl' : Slots} {n : PI} (K : Wok T c q W) (B : But x W W') (hf : q[k]? = some fl) (ht : (W.t x).ofPg k = true) (ha : ∃ o, W'.get x = some o) (hn : NI W' x) (P : PgAt T W' k fl' n) : Wok T c (q.set k fl') W' := by
 have hz := B.fz fun e => by rw [e] at ht; cases ht
 have back : ∀ y i, W'.t y = .inst i -> W.t y = .inst i := fun y i e => (B.tg y fun q => hn.1 i (q ▸ e)) ▸ e
 have hk : k < q.length := (n5 hf).1
 refine ⟨fun b e => ?_, fun b o e => ?_, fun i fl'' e => ?_, fun y y' i e e' => K.uq y y' i (back y i e) (back y' i e'), fun hc y i e => by rw [List.length_set]; exact K.cnt hc y i (back y i e), K.lfb B hn⟩
 . have ne : b ≠ x := fun q => by obtain ⟨o, g⟩ := ha; rw [q, g] at e; cases e
   rw [B.tg b ne]
   refine K.dead b ?_
   cases g : W.get b with
   | none => rfl
   | some o => rw [B.gt b o ne g] at e; cases e
 . have := hz b o (w5 (K.top b o e).2 (K.top b o e).1)
   exact ⟨(q9 this).2, (q9 this).1⟩
 . rw [List.getElem?_set, if_pos hk] at e
   by_cases ik : k = i
   . rw [if_pos ik] at e; cases e; subst ik; exact ⟨n, P⟩
   . rw [if_neg ik] at e
     obtain ⟨n', P'⟩ := K.pgs i fl'' e
     refine ⟨n', P'.keep hz fun b o h g => ?_⟩
     have ne : b ≠ x := fun q => by
      rw [q] at h
      generalize W.t x = t at h ht
      cases t <;> first | cases h | exact ik ((eq_of_beq ht).symm.trans (eq_of_beq h))
     exact ⟨B.gt b o ne g, B.tg b ne⟩
theorem xK {i j : Nat} (h : setP st fo (.fld i j) = some st') : ∃ k fl, slot st.v i = some (.pg k) /\ st.p[k]? = some fl /\ j < fl.length /\ st' = { st with p := st.p.set k (fl.set j fo) } := by
 obtain ⟨k, hk, h⟩ := c0 h
 obtain ⟨fl, hfl, h⟩ := c0 h
 obtain ⟨h1, h2⟩ := i5 h
 exact ⟨k, fl, eD hk, hfl, k6 h1, h2.symm⟩
theorem PgAt.set {T : Tp} {k j : Nat} {fl : Slots} {q q' : PI} (P : PgAt T W k fl q) (hj : j < fl.length) (hz : Fz W W') (hq : q'.a = q.a /\ q'.da = q.da) (hi : W'.get q.a = some (N8 T.pc q.da) /\ W'.t q.a = .inst k) (hd : W'.t q.da = .pgd k) (hn : W'.h.Ns1 q.da q'.m)
  (hm : ∀ y, y ≠ m9 j -> q'.m y = q.m y) (ho : ∀ i, i ≠ j -> ∀ b o, W.t b = .pgf k i -> W.get b = some o -> W'.get b = some o /\ W'.t b = .pgf k i) (hr : ∀ f', fo = some f' -> ∃ v, q'.m (m9 j) = some v /\ RepF T W' (.pgf k j) v f')
  (hf : ∀ i, i < 6 -> m9 i = m9 j -> i = j) (hj6 : j < 6) : PgAt T W' k (fl.set j fo) q' := by
 obtain ⟨a', da', m'⟩ := q'
 obtain ⟨rfl, rfl⟩ := hq
 refine ⟨hi.1, hi.2, hd, hn, fun i f h6 h => ?_, fun y hy => (hm y fun e => hy j hj6 e).trans (P.oth y hy), by rw [List.length_set]; exact P.len⟩
 rw [cU hj] at h
 by_cases e : j = i
 . subst e; rw [if_pos rfl] at h; exact hr f h
 . rw [if_neg e] at h
   obtain ⟨v, hv, r⟩ := P.fld i f h6 h
   exact ⟨v, (hm _ fun q => e (hf i h6 q).symm).trans hv, r.keep hz fun _ b o q g => ho i (Ne.symm e) b o q g⟩
theorem tJ {i j : Nat} (hi : i < 6) (hj : j < 6) (h : m9 i = m9 j) : i = j := by
 have key : ∀ i : Fin 6, ∀ j : Fin 6, m9 i = m9 j -> i = j := by decide
 exact congrArg Fin.val (key ⟨i, hi⟩ ⟨j, hj⟩ h)
theorem Sim.putPl (S : Sim cx st W) (P : PlAt cx st W (.ref x) f t p) (hcc : i0 p = true -> cx.c = true) (hx : W.t x = t) (B : But x W W') (hl : ∃ o, W'.get x = some o) (hn : NI W' x)
  (hr : ∀ f', fo = some f' -> RepF cx.T W' t (.ref x) f') (hs : setP st fo p = some st') : Sim cx st' W' := by
 cases p with
 | loc i =>
  obtain ⟨h1, rfl, ⟨y, hy, hv⟩, r⟩ := P
  obtain ⟨hi, rfl⟩ := i5 hs
  refine ⟨S.ok.but B (by rw [hx]; rfl) (fun e => let ⟨o, g⟩ := hl; nomatch g.symm.trans e) hn, S.fr.but B (by rw [hx]; exact gG) fun j g z h2 h3 h4 => ?_⟩
  rw [cU (x0I h1)] at h2
  by_cases e : i = j
  . rw [if_pos e] at h2
    subst e
    cases hy.1.symm.trans h3
    exact .inr ⟨_, hv, (hr g h2).s⟩
  . rw [if_neg e] at h2
    exact .inl ⟨h2, fun q => by rw [hx] at q; cases q; exact e rfl⟩
 | fld i j =>
  obtain ⟨n, P⟩ := P
  obtain ⟨k, fl, hk, hfl, hlt, rfl⟩ := xK hs
  cases hk.symm.trans P.pg
  cases hfl.symm.trans P.p
  have hx := hx.trans P.tg
  have ne : ∀ {b}, W.t b ≠ .pgf n.k j -> b ≠ x := fun h q => h (q ▸ hx)
  have na := ne (b := n.q.a) (by rw [P.P.it]; intro e; cases e)
  have nd := ne (b := n.q.da) (by rw [P.P.dt]; intro e; cases e)
  have hz := B.fz fun e => by rw [hx] at e; cases e
  refine ⟨S.ok.fld B hfl (by rw [hx]; exact beq_self_eq_true _) hl hn (P.P.set (q' := n.q) hlt hz ⟨rfl, rfl⟩ ⟨B.gt _ _ na P.P.inst, (B.tg _ na).trans P.P.it⟩ ((B.tg _ nd).trans P.P.dt) (P.P.ns.at fun o e => B.gt _ o nd e) (fun _ _ => rfl) (fun i hi b o q g => ?_)
   (fun f' e => ⟨_, P.mv, P.tg ▸ hr f' e⟩) (fun i hi e => tJ hi P.lt e) P.lt), S.fr.but B (by rw [hx]; exact hcc rfl) fun i' g z h2 h3 h4 => .inl ⟨h2, fun e => by rw [hx] at e; cases e⟩⟩
  have nb := ne (b := b) (by rw [q]; intro e; cases e; exact hi rfl)
  exact ⟨B.gt b o nb g, (B.tg b nb).trans q⟩
end
structure Cx.Full (cx : Cx) : Prop where
 full : cx.full = true
 inj : ∀ y z c, (y, c) ∈ cx.env.cells -> (z, c) ∈ cx.env.cells -> y = z
 nodup : ∀ (i j : Nat) (y : Str), cx.nm[i]? = some y -> cx.nm[j]? = some y -> i = j
 has : ∀ y, cx.env.kindOf y = some .cell -> ∃ c, cx.env.cells.lookup y = some c
 fr : ∃ l, cx.A.frames = some (cx.env :: l)
 fm : cx.env.frame = some cx.env.locals
noncomputable def F.isLnd : F -> Bool
 | .lnd _ => true
 | _ => false
section
variable {cx : Cx} {st : St} {W W' : Ws} {v : Value} {f : F} {t : Tag} {p : Pl} {b : Nat} {c cb : Bool} {x : Addr} {fo : Option F} {vs : Slots} {i : Nat} {y : Str}
theorem RepA.s (h : RepA cx W v f) (hf : f.isLnd = false) : RepS cx W (.own cx.d 0) v f := by
 cases f <;> first | exact h | exact h.elim | cases hf
theorem RepS.tag {t' : Tag} (h : RepS cx W t v f) (hf : f.tmp = false) : RepS cx W t' v f := by
 cases f <;> first | exact h | cases hf
theorem Sim.claim (b : Nat) (c : Bool) (S : Sim cx st W) (r : RepA cx W v f) (hf : f.isLnd = false) (t : Tag) (ht : t.isInst = false) : ∃ t', Le cx.d b c W ⟨t', W.h⟩ /\ Sim cx st ⟨t', W.h⟩ /\ RepS cx ⟨t', W.h⟩ t v f := by
 cases hft : f.tmp with
 | false => exact ⟨W.t, Le.refl, S, (r.s hf).tag hft⟩
 | true =>
  cases f with
  | own xs =>
   obtain ⟨a, vs, rfl, ⟨n, g⟩, q, r⟩ := r
   have B := But.tag W a t
   have hz : Fz W _ := B.fz fun e => by rw [q] at e; cases e
   refine ⟨_, B.le (.of (by rw [q]; exact cS)) (o7 ht), S.but B (by rw [q]; exact gG) (by rw [q]; rfl) (fun i => by rw [q]; exact sD) (fun e => nomatch (g.symm.trans e)) (o7 ht), a, vs, rfl, ⟨n, g⟩, Tags.put_self .., r.mono hz⟩
  | dct es => exact r.elim
  | pgs es => exact r.elim
  | _ => cases hft
theorem Frm.stored (F : Frm cx vs W) (Fu : cx.Full) (B : But x W W') (hx : W.t x = .loc cx.d) (hx' : W'.t x = .loc cx.d) (hxa : ∃ o, W'.get x = some o) (hi : i < vs.length) (hy : cx.nm[i]? = some y) (hns : ∃ m, W'.h.Ns cx.env.locals m) (hcl : ∀ z e, (z, e) ∈ cx.env.cells -> ∃ u, W'.h.IsCell e u)
  (hv : Holds cx.env W'.h y v) (hoth : ∀ z u, z ≠ y -> Holds cx.env W.h z u -> Holds cx.env W'.h z u) (r : ∀ f, fo = some f -> RepS cx W (.own cx.d (i + 1)) v f) : Frm cx (vs.set i fo) W' := by
 have hz := B.fz fun e => by rw [hx] at e; cases e
 have tg : ∀ b, W.t b = .loc cx.d -> W'.t b = .loc cx.d := fun b q => by
  by_cases e : b = x
  . rw [e]; exact hx'
  . exact (B.tg b e).trans q
 have keep : ∀ {j : Nat} {u : Value} {g : Mine.Internal.F}, RepS cx W (.own cx.d (j + 1)) u g -> RepS cx W' (.own cx.d (j + 1)) u g := fun {j u g} r => by
  have ne : ∀ {b}, W.t b ≠ .loc cx.d -> b ≠ x := fun h q => h (q ▸ hx)
  refine r.keep hz (fun _ b o q g => ?_) (fun b o q g => ?_) fun b o k q g => ?_
  . have n := ne (b := b) (by rw [q]; intro e; cases e); exact ⟨B.gt b o n g, (B.tg b n).trans q⟩
  . have n := ne (b := b) (fun e => by rw [e] at q; cases q); exact ⟨B.gt b o n g, B.tg b n⟩
  . have n := ne (b := b) (by rw [q]; intro e; cases e); exact ⟨B.gt b o n g, (B.tg b n).trans q⟩
 refine ⟨hns, tg _ F.nst, fun z e hz => ?_, fun j g z h1 h2 h3 => ?_, let ⟨l', h1, h2⟩ := F.frs; ⟨l', h1, h2.keep (Nat.le_refl _) fun L d' o hd t g => ?_⟩, fun q => (F.hnd q).mono hz⟩
 . obtain ⟨_, d', q, q', q2⟩ := F.cells z e hz
   cases q2 Fu.full
   exact ⟨hcl z e hz, _, tg e q, q', q2⟩
 . rw [cU hi] at h1
   by_cases e : i = j
   . rw [if_pos e] at h1
     subst e
     cases hy.symm.trans h2
     exact ⟨v, hv, keep (r _ h1)⟩
   . rw [if_neg e] at h1
     obtain ⟨u, hu, q⟩ := F.vals j g z h1 h2 h3
     exact ⟨u, hoth z u (fun q => e (Fu.nodup i j y hy (q ▸ h2))) hu, keep q⟩
 . by_cases e : L = x
   . subst e; cases hx.symm.trans t; exact ⟨hx', hxa⟩
   . exact ⟨(B.tg L e).trans t, o, B.gt L o e g⟩
theorem Ns.uniq {h : Heap} {a : Addr} {m m' : Str -> Option Value} (p : h.Ns a m) (q : h.Ns a m') (x : Str) : m x = m' x := by
 obtain ⟨o, es, ep, ho, hd, _, hf⟩ := p
 obtain ⟨o', es', ep', ho', hd', _, hf'⟩ := q
 cases ho.symm.trans ho'; cases hd.symm.trans hd'
 exact (hf x).symm.trans (hf' x)
theorem fU {h : Heap} {a e : Addr} {m : Str -> Option Value} {v : Option Value} (p : h.Ns a m) (q : h.IsCell e v) : e ≠ a := fun h => by
 obtain ⟨o, g, hd⟩ := q
 obtain ⟨o', _, _, g', hd', _⟩ := p
 rw [h] at g; cases g.symm.trans g'; cases hd.symm.trans hd'
theorem x3Q {d : Nat} : (Tag.loc d).ch d d c = true := dtt (Nat.le_refl d)
theorem Sim.storeG {Q : UP} {E : VP} {Md : Model} {A : Around} {tk : Nat} (Fu : cx.Full) (hk : cx.env.scope.kind = .function) (S1 : Sim cx st W) (r : ∀ f, fo = some f -> RepS cx W (.own cx.d (i + 1)) v f) (hy : Nm cx i y) (hi : i < st.v.length)
  (h : ∀ W' tk' x, W.t x = .loc cx.d -> But x W W' -> Le cx.d cx.d cb W W' -> Sim cx { st with v := st.v.set i fo } W' -> Holds cx.env W'.h y v -> (∀ z u, z ≠ y -> Holds cx.env W.h z u -> Holds cx.env W'.h z u) -> Q () (sh cx.T W' tk')) : wpAny Md A (storeName cx.env y v) Q E (sh cx.T W tk) := by
 have fin : ∀ (x : Addr) (h' : Heap) (tk' : Nat), W.t x = .loc cx.d -> (∀ b o, b ≠ x -> W.get b = some o -> h'.get? b = some o) -> (∃ o, h'.get? x = some o /\ Nf o) -> (∃ m, h'.Ns cx.env.locals m) -> (∀ z e, (z, e) ∈ cx.env.cells -> ∃ u, h'.IsCell e u) -> Holds cx.env h' y v ->
   (∀ z u, z ≠ y -> Holds cx.env W.h z u -> Holds cx.env h' z u) -> Q () (sh cx.T ⟨W.t, h'⟩ tk') := fun x h' tk' hx hs ha hns hcl hv hoth => by
  have B : But x W ⟨W.t, h'⟩ := ⟨fun _ _ => rfl, hs⟩
  have ni : NI ⟨W.t, h'⟩ x := ⟨fun k e => (by cases hx.symm.trans e), fun d o _ e => by obtain ⟨o', g, n⟩ := ha; cases g.symm.trans e; exact n⟩
  exact h _ tk' x hx B (B.le (.of (by rw [hx]; exact x3Q)) ni) ⟨S1.ok.but B (by rw [hx]; rfl) (fun e => let ⟨o, g, _⟩ := ha; nomatch g.symm.trans e) ni, S1.fr.stored Fu B hx hx (let ⟨o, g, _⟩ := ha; ⟨o, g⟩) hi hy.1 hns hcl hv hoth r⟩ hv hoth
 obtain ⟨m, hm⟩ := S1.fr.ns
 rcases hy.2 with ha | ha
 . refine wpAny_storeName_local ha hm (fun h' hn hs => ?_) (by rw [hk]; rfl)
   refine fin _ h' _ S1.fr.nst (fun b o n e => (hs.2 b n).trans e) (let ⟨o, _, _, g, hd, _⟩ := hn; ⟨o, g, fun vs e => by cases hd.symm.trans e⟩) ⟨_, hn⟩ (fun z e hz => ?_) (.inl ⟨ha, _, hn, if_pos rfl⟩) fun z u hzy hu => ?_
   . obtain ⟨⟨u, hu⟩, _⟩ := S1.fr.cells z e hz
     exact ⟨u, hu.sameBut hs (fU hm hu)⟩
   . rcases hu with ⟨k, m', hn', hm'⟩ | ⟨k, e, he, hv⟩
     . refine .inl ⟨k, _, hn, (if_neg hzy).trans ?_⟩
       exact (Ns.uniq hm hn' z).trans hm'
     . exact .inr ⟨k, e, he, hv.sameBut hs (fU hm hv)⟩
 . obtain ⟨e, he⟩ := Fu.has y ha
   have hc := mem_of_lookup he
   obtain ⟨⟨v₀, hv₀⟩, _⟩ := S1.fr.cells y e hc
   obtain ⟨_, d', q, _, q2⟩ := S1.fr.cells y e hc
   cases q2 Fu.full
   refine wpAny_storeName_cell hk ha he hv₀ fun h' hv' hs => ?_
   have nL : cx.env.locals ≠ e := (fU hm hv₀).symm
   refine fin e h' tk q (fun b o n g => (hs.2 b n).trans g) (let ⟨o, g, hd⟩ := hv'; ⟨o, g, fun vs e => by cases hd.symm.trans e⟩) ⟨m, hm.sameBut hs nL⟩ (fun z e' hz => ?_) (.inr ⟨ha, e, he, hv'⟩) fun z u hzy hu => ?_
   . by_cases q : e' = e
     . rw [q]; exact ⟨_, hv'⟩
     . obtain ⟨⟨u, hu⟩, _⟩ := S1.fr.cells z e' hz; exact ⟨u, hu.sameBut hs q⟩
   . rcases hu with ⟨k, m', hn', hm'⟩ | ⟨k, e', he', hv⟩
     . exact .inl ⟨k, m', hn'.sameBut hs nL, hm'⟩
     . exact .inr ⟨k, e', he', hv.sameBut hs fun q => hzy (Fu.inj z y e (q ▸ mem_of_lookup he') hc)⟩
theorem Sim.store {Q : UP} {E : VP} {Md : Model} {A : Around} {tk : Nat} (Fu : cx.Full) (hk : cx.env.scope.kind = .function) (S : Sim cx st W) (r : RepA cx W v f) (hf : f.isLnd = false) (hy : Nm cx i y) (hi : i < st.v.length)
  (h : ∀ W' tk', Le cx.d cx.d cb W W' -> Sim cx { st with v := st.v.set i (some f) } W' -> Q () (sh cx.T W' tk')) : wpAny Md A (storeName cx.env y v) Q E (sh cx.T W tk) := by
 obtain ⟨t', l1, S1, r1⟩ := S.claim cx.d cb r hf (.own cx.d (i + 1)) rfl
 exact S1.storeG (W := ⟨t', W.h⟩) (fo := some f) (cb := cb) Fu hk (fun g e => by cases e; exact r1) hy hi fun W' tk' _ _ _ l2 S2 _ _ => h W' tk' (l1.trans l2) S2
end
noncomputable def v5 (kd : Kd) (x y : Str) : Bool := x == y && kd.lookup x == some .globalImplicit && !(x == ("__debug__" : Str))
noncomputable def u5 (names kd : Kd) : Kd := names.map fun (n, k) => if (k == .free && true && kd.lookup n == some .cell) then (n, .cell) else (n, k)
noncomputable def maskN (x : Str) (nm : List Str) : List Str := nm.map fun y => if y == x then ("" : Str) else y
noncomputable def kJ : Ty -> Str
 | .str => "str"
 | .int => "int"
 | .bool => "bool"
 | .list => "list"
 | .tuple => "tuple"
noncomputable def iJ (scope : Scope) (kd : Kd) (x : Str) : Bool :=
 scope.kind == .function && scope.names.all (fun y => y.2 != .cell && (y.2 != .local || scope.names.lookup y.1 == some .local) && (y.2 != .free || (scope.names.lookup y.1 == some .free && kd.lookup y.1 == some .cell))) &&
 scope.names.lookup x == some .local
noncomputable def onS {α : Type} (x : Option α) (f : α -> Bool) : Bool := match x with | some v => f v | none => false
theorem f9 {α : Type} {x : Option α} {f : α -> Bool} (h : onS x f = true) : ∃ v, x = some v /\ f v = true := by
 cases x with
 | none => cases h
 | some v => exact ⟨v, rfl, h⟩
noncomputable def more {α : Type} : List α -> Option (α × α × List α)
 | x :: y :: r => some (x, y, r)
 | _ => none
theorem qO {α : Type} {l : List α} {x : α × α × List α} (h : more l = some x) : l = x.1 :: x.2.1 :: x.2.2 := by
 cases l with
 | nil => exact nos h
 | cons y r => cases r with
  | nil => exact nos h
  | cons z r => cases h; rfl
noncomputable def M9 (e : Expr) : Option (Const) := if h : e.ctorIdx = 19 then Expr.Constant.elim (motive_1 := fun _ => Option (Const)) e h (fun c k p => some c) else none
theorem Y7 {e : Expr} {v : Const} (h : M9 e = some v) : ∃ k p, e = .Constant v k p := by
 by_cases q : e.ctorIdx = 19
 . exact Expr.Constant.elim (motive_1 := fun e => M9 e = some v -> ∃ k p, e = .Constant v k p) e q (fun c k p h => by cases h; exact ⟨k, p, rfl⟩) h
 . exact nos ((dif_neg q).symm.trans h)
noncomputable def asName (e : Expr) : Option (Str) := if h : e.ctorIdx = 23 then Expr.Name.elim (motive_1 := fun _ => Option (Str)) e h (fun x p => some x) else none
theorem v9 {e : Expr} {v : Str} (h : asName e = some v) : ∃ p, e = .Name v p := by
 by_cases q : e.ctorIdx = 23
 . exact Expr.Name.elim (motive_1 := fun e => asName e = some v -> ∃ p, e = .Name v p) e q (fun x p h => by cases h; exact ⟨p, rfl⟩) h
 . exact nos ((dif_neg q).symm.trans h)
noncomputable def cY (e : Expr) : Option (Expr × Operator × Expr) := if h : e.ctorIdx = 2 then Expr.BinOp.elim (motive_1 := fun _ => Option (Expr × Operator × Expr)) e h (fun l o r p => some (l, o, r)) else none
theorem x4q {e : Expr} {v : Expr × Operator × Expr} (h : cY e = some v) : ∃ p, e = .BinOp v.1 v.2.1 v.2.2 p := by
 by_cases q : e.ctorIdx = 2
 . exact Expr.BinOp.elim (motive_1 := fun e => cY e = some v -> ∃ p, e = .BinOp v.1 v.2.1 v.2.2 p) e q (fun l o r p h => by cases h; exact ⟨p, rfl⟩) h
 . exact nos ((dif_neg q).symm.trans h)
noncomputable def L7 (e : Expr) : Option (UnaryOp × Expr) := if h : e.ctorIdx = 3 then Expr.UnaryOp.elim (motive_1 := fun _ => Option (UnaryOp × Expr)) e h (fun o x p => some (o, x)) else none
theorem hY {e : Expr} {v : UnaryOp × Expr} (h : L7 e = some v) : ∃ p, e = .UnaryOp v.1 v.2 p := by
 by_cases q : e.ctorIdx = 3
 . exact Expr.UnaryOp.elim (motive_1 := fun e => L7 e = some v -> ∃ p, e = .UnaryOp v.1 v.2 p) e q (fun o x p h => by cases h; exact ⟨p, rfl⟩) h
 . exact nos ((dif_neg q).symm.trans h)
noncomputable def M5 (e : Expr) : Option (BoolOp × List Expr × Pos) := if h : e.ctorIdx = 0 then Expr.BoolOp.elim (motive_1 := fun _ => Option (BoolOp × List Expr × Pos)) e h (fun o xs p => some (o, xs, p)) else none
theorem oF {e : Expr} {v : BoolOp × List Expr × Pos} (h : M5 e = some v) : e = .BoolOp v.1 v.2.1 v.2.2 := by
 by_cases q : e.ctorIdx = 0
 . exact Expr.BoolOp.elim (motive_1 := fun e => M5 e = some v -> e = .BoolOp v.1 v.2.1 v.2.2) e q (fun o xs p h => by cases h; exact rfl) h
 . exact nos ((dif_neg q).symm.trans h)
noncomputable def Z1 (e : Expr) : Option (Expr × List CmpOp × List Expr) := if h : e.ctorIdx = 15 then Expr.Compare.elim (motive_1 := fun _ => Option (Expr × List CmpOp × List Expr)) e h (fun l os rs p => some (l, os, rs)) else none
theorem oN {e : Expr} {v : Expr × List CmpOp × List Expr} (h : Z1 e = some v) : ∃ p, e = .Compare v.1 v.2.1 v.2.2 p := by
 by_cases q : e.ctorIdx = 15
 . exact Expr.Compare.elim (motive_1 := fun e => Z1 e = some v -> ∃ p, e = .Compare v.1 v.2.1 v.2.2 p) e q (fun l os rs p h => by cases h; exact ⟨p, rfl⟩) h
 . exact nos ((dif_neg q).symm.trans h)
noncomputable def A7 (e : Expr) : Option (Expr × Expr) := if h : e.ctorIdx = 21 then Expr.Subscript.elim (motive_1 := fun _ => Option (Expr × Expr)) e h (fun x i p => some (x, i)) else none
theorem I4 {e : Expr} {v : Expr × Expr} (h : A7 e = some v) : ∃ p, e = .Subscript v.1 v.2 p := by
 by_cases q : e.ctorIdx = 21
 . exact Expr.Subscript.elim (motive_1 := fun e => A7 e = some v -> ∃ p, e = .Subscript v.1 v.2 p) e q (fun x i p h => by cases h; exact ⟨p, rfl⟩) h
 . exact nos ((dif_neg q).symm.trans h)
noncomputable def bG (e : Expr) : Option (Option Expr × Option Expr × Option Expr) := if h : e.ctorIdx = 26 then Expr.Slice.elim (motive_1 := fun _ => Option (Option Expr × Option Expr × Option Expr)) e h (fun l u s p => some (l, u, s)) else none
theorem pT {e : Expr} {v : Option Expr × Option Expr × Option Expr} (h : bG e = some v) : ∃ p, e = .Slice v.1 v.2.1 v.2.2 p := by
 by_cases q : e.ctorIdx = 26
 . exact Expr.Slice.elim (motive_1 := fun e => bG e = some v -> ∃ p, e = .Slice v.1 v.2.1 v.2.2 p) e q (fun l u s p h => by cases h; exact ⟨p, rfl⟩) h
 . exact nos ((dif_neg q).symm.trans h)
noncomputable def asTup (e : Expr) : Option (List Expr) := if h : e.ctorIdx = 25 then Expr.Tuple.elim (motive_1 := fun _ => Option (List Expr)) e h (fun es k p => some es) else none
theorem Y8 {e : Expr} {v : List Expr} (h : asTup e = some v) : ∃ k p, e = .Tuple v k p := by
 by_cases q : e.ctorIdx = 25
 . exact Expr.Tuple.elim (motive_1 := fun e => asTup e = some v -> ∃ k p, e = .Tuple v k p) e q (fun es k p h => by cases h; exact ⟨k, p, rfl⟩) h
 . exact nos ((dif_neg q).symm.trans h)
noncomputable def Y3 (e : Expr) : Option (List Expr) := if h : e.ctorIdx = 24 then Expr.List.elim (motive_1 := fun _ => Option (List Expr)) e h (fun es p => some es) else none
theorem rM {e : Expr} {v : List Expr} (h : Y3 e = some v) : ∃ p, e = .List v p := by
 by_cases q : e.ctorIdx = 24
 . exact Expr.List.elim (motive_1 := fun e => Y3 e = some v -> ∃ p, e = .List v p) e q (fun es p h => by cases h; exact ⟨p, rfl⟩) h
 . exact nos ((dif_neg q).symm.trans h)
noncomputable def U7 (e : Expr) : Option (Expr × List Expr × List Keyword × Pos) := if h : e.ctorIdx = 16 then Expr.Call.elim (motive_1 := fun _ => Option (Expr × List Expr × List Keyword × Pos)) e h (fun f xs ks p => some (f, xs, ks, p)) else none
theorem jA {e : Expr} {v : Expr × List Expr × List Keyword × Pos} (h : U7 e = some v) : e = .Call v.1 v.2.1 v.2.2.1 v.2.2.2 := by
 by_cases q : e.ctorIdx = 16
 . exact Expr.Call.elim (motive_1 := fun e => U7 e = some v -> e = .Call v.1 v.2.1 v.2.2.1 v.2.2.2) e q (fun f xs ks p h => by cases h; exact rfl) h
 . exact nos ((dif_neg q).symm.trans h)
noncomputable def asAttr (e : Expr) : Option (Expr × Str × Pos) := if h : e.ctorIdx = 20 then Expr.Attribute.elim (motive_1 := fun _ => Option (Expr × Str × Pos)) e h (fun x n p => some (x, n, p)) else none
theorem cI {e : Expr} {v : Expr × Str × Pos} (h : asAttr e = some v) : e = .Attribute v.1 v.2.1 v.2.2 := by
 by_cases q : e.ctorIdx = 20
 . exact Expr.Attribute.elim (motive_1 := fun e => asAttr e = some v -> e = .Attribute v.1 v.2.1 v.2.2) e q (fun x n p h => by cases h; exact rfl) h
 . exact nos ((dif_neg q).symm.trans h)
noncomputable def asComp (e : Expr) : Option (Expr × List Comprehension × Scope) := if h : e.ctorIdx = 8 then Expr.ListComp.elim (motive_1 := fun _ => Option (Expr × List Comprehension × Scope)) e h (fun x g s p => some (x, g, s)) else none
theorem oV {e : Expr} {v : Expr × List Comprehension × Scope} (h : asComp e = some v) : ∃ p, e = .ListComp v.1 v.2.1 v.2.2 p := by
 by_cases q : e.ctorIdx = 8
 . exact Expr.ListComp.elim (motive_1 := fun e => asComp e = some v -> ∃ p, e = .ListComp v.1 v.2.1 v.2.2 p) e q (fun x g s p h => by cases h; exact ⟨p, rfl⟩) h
 . exact nos ((dif_neg q).symm.trans h)
noncomputable def bH (e : Expr) : Option (List (Option Expr) × List Expr) := if h : e.ctorIdx = 6 then Expr.Dict.elim (motive_1 := fun _ => Option (List (Option Expr) × List Expr)) e h (fun ks vs p => some (ks, vs)) else none
theorem x1b {e : Expr} {v : List (Option Expr) × List Expr} (h : bH e = some v) : ∃ p, e = .Dict v.1 v.2 p := by
 by_cases q : e.ctorIdx = 6
 . exact Expr.Dict.elim (motive_1 := fun e => bH e = some v -> ∃ p, e = .Dict v.1 v.2 p) e q (fun ks vs p h => by cases h; exact ⟨p, rfl⟩) h
 . exact nos ((dif_neg q).symm.trans h)
noncomputable def m7 (e : Expr) : Bool := e.ctorIdx != 22 && e.ctorIdx != 26 && e.ctorIdx != 7
noncomputable def Y2 (e : Expr) : Bool := e.ctorIdx == 23 || e.ctorIdx == 19
noncomputable def A4 (e : Expr) : Bool := e.ctorIdx != 8 && e.ctorIdx != 9 && e.ctorIdx != 10
noncomputable def T9 (d : PyData) (c : Const) : Bool := match d with
 | .none => c.ctorIdx == 0
 | .bool b => c == .bool b
 | .int i => c == .int i
 | .str x => c == .str x
 | _ => false
noncomputable def restB (o : BoolOp) (p : Pos) (y : Expr) : List Expr -> Expr
 | [] => y
 | r :: rs => .BoolOp o (y :: r :: rs) p
noncomputable def s8 (kd : Kd) (g : Str) (e : Expr) : Option (List Expr) := (U7 e).bind fun v => (asName v.1).bind fun f => gd (v.2.2.1.isEmpty && v5 kd f g && v.2.1.all m7 && !v.2.1.isEmpty) v.2.1
noncomputable def F2 (kd : Kd) (g : Str) (e : Expr) : Option (List Expr) := (s8 kd g e).bind fun l => gd (one l).isSome l
noncomputable def C3 (a : Str) (e : Expr) : Option (Expr × List Expr) := (U7 e).bind fun v => (asAttr v.1).bind fun w => gd (v.2.2.1.isEmpty && w.2.1 == a && w.2.2.endLine == v.2.2.2.line && v.2.1.all m7) (w.1, v.2.1)
noncomputable def x1E (e : Expr) : Bool := onS (L7 e) fun u => u.1 == .USub && onS (M9 u.2) (T9 (.int 1))
noncomputable def bN (kd : Kd) : Op -> Expr -> Option (List Expr)
 | .bin op, e => (cY e).bind fun v => gd (op == v.2.1) [v.1, v.2.2]
 | .neg, e => (L7 e).bind fun v => gd (v.1 == .USub) [v.2]
 | .idx, e => (A7 e).bind fun v => gd (m7 v.2) [v.1, v.2]
 | .slc l u, e => (A7 e).bind fun v => (bG v.2).bind fun w => gd (w.2.2.isNone && w.1.isSome == l && w.2.1.isSome == u) (v.1 :: (w.1.toList ++ w.2.1.toList))
 | .tup, e => (asTup e).bind fun l => gd (l.all m7) l
 | .lst, e => (Y3 e).bind fun l => gd (l.all m7) l
 | .len, e => F2 kd "len" e
 | .ord, e => F2 kd "ord" e
 | .abs, e => F2 kd "abs" e
 | .toInt, e => F2 kd "int" e
 | .list, e => F2 kd "list" e
 | .sum, e => F2 kd "sum" e
 | .rev, e => (A7 e).bind fun v => (bG v.2).bind fun w => gd (w.1.isNone && w.2.1.isNone && onS w.2.2 x1E) [v.1]
 | .isinst t, e => (s8 kd "isinstance" e).bind fun l => (z8 l).bind fun x => gd (onS (asName x.2) fun y => v5 kd y (kJ t)) [x.1]
 | .getOpen, e => (A7 e).bind fun v => gd (m7 v.2 && onS (asName v.1) fun x => v5 kd x "OPENING") [v.2]
 | _, _ => none
noncomputable def rA : Op -> Expr -> Option (Expr × List Expr)
 | .splitNl, e => (C3 "split" e).bind fun v => gd (Y2 v.1 && onS (one v.2) fun y => onS (M9 y) (T9 (.str (S [10])))) (v.1, [])
 | .find, e => (C3 "find" e).bind fun v => gd (Y2 v.1 && (one v.2).isSome) v
 | .join, e => (C3 "join" e).bind fun v => gd (Y2 v.1 && (one v.2).isSome) v
 | _, _ => none
noncomputable def j8 (nm : List Str) (kd : Kd) : Pl -> Expr -> Bool
 | .loc i, e => onS (asName e) (isLoc nm kd i)
 | .fld i j, e => onS (asAttr e) fun v => decide (j < 6) && v.2.1 == m9 j && onS (asName v.1) (isLoc nm kd i)
noncomputable def F4 (nm : List Str) (kd : Kd) (p : Pl) : Pk -> Expr -> Option (List Expr)
 | .len, e => (s8 kd "len" e).bind fun l => gd (onS (one l) (j8 nm kd p)) []
 | .copy, e => (s8 kd "list" e).bind fun l => gd (onS (one l) (j8 nm kd p)) []
 | .idx, e => (A7 e).bind fun v => gd (m7 v.2 && j8 nm kd p v.1) [v.2]
 | .key, e => (A7 e).bind fun v => gd (m7 v.2 && j8 nm kd p v.1) [v.2]
 | .pgx, e => (A7 e).bind fun v => gd (m7 v.2 && j8 nm kd p v.1) [v.2]
 | .pop, e => (C3 "pop" e).bind fun v => gd (j8 nm kd p v.1 && v.2.isEmpty) []
noncomputable def y0 : Nat -> Str
 | 0 => "NoPage"
 | 1 => "OutOfPlace"
 | 2 => "NoSign"
 | 3 => "Full"
 | 4 => "Faulty"
 | 5 => "PageError"
 | _ => "ValueError"
noncomputable abbrev Ft := Nat -> Option (Nat × Str)
noncomputable def J5 (kd : Kd) : Nat -> Expr -> Option (List Expr)
 | 0, e => some [e]
 | 1, e => s8 kd "range" e
 | 2, e => s8 kd "enumerate" e
 | _, _ => none
noncomputable def cF (e : Expr) : Option (Expr × CmpOp × Expr) := (Z1 e).bind fun v => (one v.2.1).bind fun o => (one v.2.2).bind fun r => gd (m7 r) (v.1, o, r)
noncomputable def eJ (e : Expr) : Bool := e.ctorIdx == 16 || e.ctorIdx == 21 || e.ctorIdx == 23 || e.ctorIdx == 19 || e.ctorIdx == 20
noncomputable def tb : CE -> Expr -> Bool
 | .cmp _ _, _ => true
 | .cmpNil _ _, _ => true
 | .inOpen _, _ => true
 | .chain _ _ _ _, _ => true
 | .not a, e => onS (L7 e) fun v => tb a v.2
 | .and a b, e => onS (M5 e) fun v => onS (more v.2.1) fun w => tb a w.1 && tb b (restB .And v.2.2 w.2.1 w.2.2)
 | .or a b, e => onS (M5 e) fun v => onS (more v.2.1) fun w => tb a w.1 && tb b (restB .Or v.2.2 w.2.1 w.2.2)
 | _, e => eJ e
noncomputable def tc (c : CE) (l : List Expr) : Bool := if c.ctorIdx == 0 then l.isEmpty else onS (one l) (tb c)
noncomputable def jM (o : Pk) (p : Pl) : Bool := match o with
 | .pop => !i0 p
 | _ => true
noncomputable def kO (e : Expr) : Bool := (asName e).isSome || (A7 e).isSome
noncomputable def mc (ft : Ft) : CE -> Bool -> Bool -> List Str -> Kd -> List Expr -> Bool
 | .nil, c, q, nm, kd, es => es.isEmpty
 | .cons a b, c, q, nm, kd, es => (match es with | e :: r => mc ft a c q nm kd [e] && mc ft b c q nm kd r | [] => false)
 | .lit d, c, q, nm, kd, es => onS (one es) fun e => onS (M9 e) (T9 d)
 | .get p, c, q, nm, kd, es => onS (one es) fun e => j8 nm kd p e && (c || !i0 p)
 | .mv p, c, q, nm, kd, es => onS (one es) fun e => j8 nm kd p e && !i0 p
 | .lend i, c, q, nm, kd, es => onS (one es) (j8 nm kd (.loc i))
 | .glob k, c, q, nm, kd, es => onS (one es) fun e => onS (asName e) fun x => onS (T6 k) fun y => v5 kd x y.1
 | .op o a, c, q, nm, kd, es => onS (one es) fun e => (decide (o.ctorIdx < 16) || (ft 1).isSome) && onS (bN kd o e) (mc ft a c q nm kd)
 | .sm o r a, c, q, nm, kd, es => onS (one es) fun e => onS (rA o e) fun v => mc ft r c q nm kd [v.1] && mc ft a c q nm kd v.2
 | .peek o p a, c, q, nm, kd, es => onS (one es) fun e => (c || !i0 p) && (!i0 p || !g8 a) && jM o p && onS (F4 nm kd p o e) (mc ft a c q nm kd)
 | .cmp op a, c, q, nm, kd, es => onS (one es) fun e => onS (cF e) fun v => op == v.2.1 && mc ft a c q nm kd [v.1, v.2.2]
 | .cmpNil ne p, c, q, nm, kd, es => onS (one es) fun e => (c || !i0 p) && onS (cF e) fun v => v.2.1 == (if ne then .NotEq else .Eq) && j8 nm kd p v.1 && onS (Y3 v.2.2) List.isEmpty
 | .inOpen a, c, q, nm, kd, es => onS (one es) fun e => onS (cF e) fun v => v.2.1 == .In && (onS (asName v.2.2) fun x => v5 kd x "OPENING") && mc ft a c q nm kd [v.1]
 | .chain ab o1 o2 d, c, q, nm, kd, es => onS (one es) fun e => onS (Z1 e) fun v => onS (z8 v.2.1) fun o => onS (z8 v.2.2) fun r => o1 == o.1 && o2 == o.2 && m7 r.2 && mc ft ab c q nm kd [v.1, r.1] && mc ft d c q nm kd [r.2]
 | .not a, c, q, nm, kd, es => onS (one es) fun e => onS (L7 e) fun v => v.1 == .Not && mc ft a c q nm kd [v.2]
 | .and a b, c, q, nm, kd, es => onS (one es) fun e => onS (M5 e) fun v => onS (more v.2.1) fun w => v.1 == .And && mc ft a c q nm kd [w.1] && mc ft b c q nm kd [restB .And v.2.2 w.2.1 w.2.2]
 | .or a b, c, q, nm, kd, es => onS (one es) fun e => onS (M5 e) fun v => onS (more v.2.1) fun w => v.1 == .Or && mc ft a c q nm kd [w.1] && mc ft b c q nm kd [restB .Or v.2.2 w.2.1 w.2.2]
 | .call pure k a, c, q, nm, kd, es => onS (one es) fun e => onS (ft k) fun y => y.1 == (if pure then 0 else 1) && (c || pure) && onS (s8 kd y.2 e) fun l => mc ft a c q nm kd l
 | .callP k p, c, q, nm, kd, es => onS (one es) fun e => c && onS (ft k) fun y => y.1 == 0 && onS (s8 kd y.2 e) fun l => onS (one l) (j8 nm kd p)
 | .meth k r a, c, q, nm, kd, es => onS (one es) fun e => c && onS (ft k) fun y => y.1 == 2 && onS (C3 y.2 e) fun v => kO v.1 && mc ft r c q nm kd [v.1] && mc ft a c q nm kd v.2 && decide (v.2.length < 20)
 | .new a, c, q, nm, kd, es => onS (one es) fun e => c && (onS (ft 0) fun y => y.1 == 3) && onS (s8 kd "Page" e) fun l => mc ft a c q nm kd l
 | .comp n k s elt cond, c, q, nm, kd, es => onS (one es) fun e => onS (asComp e) fun v => onS (one v.2.1) fun g => onS (asName g.target) fun x =>
   g.is_async == 0 && q && n == nm.length && iJ v.2.2 kd x && k != 2 && (k == 1 || (ft 1).isSome) && tc cond g.ifs && onS (J5 kd k g.iter) (mc ft s c q nm kd) && m7 g.iter && mc ft cond c false (maskN x nm ++ [x]) (u5 v.2.2.names kd) g.ifs && mc ft elt c false (maskN x nm ++ [x]) (u5 v.2.2.names kd) [v.1] &&
   ((maskN x nm).all fun y => (u5 v.2.2.names kd).lookup y != some .local) && (u5 v.2.2.names kd).lookup ("" : Str) == none
 | .isEx i k, c, q, nm, kd, es => false
noncomputable def mNames (nm : List Str) (kd : Kd) : List Nat -> List Expr -> Bool
 | [], es => es.isEmpty
 | _ :: _, [] => false
 | i :: is, e :: es => onS (asName e) (isLoc nm kd i) && mNames nm kd is es
noncomputable def mT (nm : List Str) (kd : Kd) (many : Bool) (is : List Nat) (x : Expr) : Bool := if many then onS (asTup x) (mNames nm kd is) else mNames nm kd is [x]
end Mine.Internal
end
section
namespace Mine.Internal
open PySem.W (findIn clsIn plainOver takerIn InstAt typeIn findObj lookIn handedIn)
noncomputable def biTab : List (Str × Value) := [("len", .builtin "len"), ("ord", .builtin "ord"), ("isinstance", .builtin "isinstance"), ("abs", .builtin "abs"), ("int", .type "int"), ("list", .type "list"),
 ("range", .type "range"), ("enumerate", .type "enumerate"), ("str", .type "str"), ("bool", .type "bool"), ("tuple", .type "tuple"), ("ValueError", .type "ValueError"), ("sum", .builtin "sum")]
structure PgCls (T : Tp) : Prop where
 kin : PySem.W.Frag.In T.pk T.s.heap
 ga : findIn T.pk (.ref T.pc) "__getattribute__" = some (some (.builtin "object.__getattribute__"))
 hook : findIn T.pk (.ref T.pc) "__getattr__" = some none
 fld : ∀ j, j < 6 -> findIn T.pk (.ref T.pc) (m9 j) = some none
 dict : (clsIn T.pk T.pc).any (·.hasDict) = true
 set : findIn T.pk (.ref T.pc) "__setattr__" = some (some (.builtin "object.__setattr__"))
 over : plainOver T.pk T.pc = true
 keep : PySem.W.keepIn T.pk (.ref T.pc) = true
 makes : PySem.W.makesIn T.pk T.pc = true
 glob : T.mg "Page" = some (.ref T.pc)
structure Tp.Ok (T : Tp) : Prop where
 g : T.s.heap.Ns mainGlobals T.mg
 b : T.s.heap.Ns builtinsNs T.mb
 lim : T.s.heap.NoLimit
 sys : ∃ o, T.s.heap.get? sysModules = some o
 con : ∀ k x d, T6 k = some (x, d) -> ∃ v, T.mg x = some v /\ ∀ W, Rep W v d
 bi : ∀ x v, biTab.lookup x = some v -> T.mg x = none /\ T.mb x = some v
 opn : ∃ a m, T.mg "OPENING" = some (.ref a) /\ (a == sysModules) = false /\ (∀ h : Heap, (∀ b o, T.s.heap.get? b = some o -> h.get? b = some o) -> h.MapOf (strKind T.prog T.w) a m) /\
  ∀ x, (∀ y, openF x = some y -> ∃ t, m x = some (.str y t)) /\ (openF x = none -> m x = none)
section
variable {cx : Cx} {cb : Bool} {st : St} {W : Ws} {tk : Nat} {Q : VP} {E : VP} {f : F} {p : Pl} {e : Expr} {z y : Str} {v : Value} {pos : Pos} {i : Nat}
theorem Sim.keeps (S : Sim cx st W) : ∀ b o, cx.T.s.heap.get? b = some o -> W.h.get? b = some o := fun b o e => (S.ok.top b o e).1
theorem and2 {a b : Bool} (h : (a && b) = true) : a = true /\ b = true := Bool.and_eq_true_iff.mp h
theorem E7 (h : isLoc cx.nm cx.env.scope.names i z = true) : Nm cx i z /\ (z == ("__debug__" : Str)) = false := by
 obtain ⟨h, h3⟩ := and2 h
 obtain ⟨h1, h2⟩ := and2 h
 exact ⟨⟨eq_of_beq h1, (Bool.or_eq_true_iff.mp h2).imp eq_of_beq eq_of_beq⟩, by simpa using h3⟩
theorem uD {kd : Kd} (h : v5 kd z y = true) : z = y /\ kd.lookup z = some .globalImplicit /\ (z == ("__debug__" : Str)) = false := by
 obtain ⟨h, h3⟩ := and2 h
 obtain ⟨h1, h2⟩ := and2 h
 exact ⟨eq_of_beq h1, eq_of_beq h2, by simpa using h3⟩
theorem jP {s : Shared} {Md : Model} {A : Around} (hk : cx.env.scope.kind = .function) (hv : Holds cx.env s.heap z v) (hd : (z == ("__debug__" : Str)) = false) (h : Q v s) : wpAny Md A (eval (.Name z pos) cx.env) Q E s := by
 rcases hv with ⟨k, m, hn, hm⟩ | ⟨k, c, hc, hv⟩
 . exact wpAny_Name (wpAny_loadName_local hk k hn hm h) hd
 . exact wpAny_Name (wpAny_loadName_cell hk k hc hv h) hd
theorem F0 {Md : Model} {A : Around} (TO : cx.T.Ok) (C : cx.Ok cb) (S : Sim cx st W) (h : v5 cx.env.scope.names z y = true) (hv : cx.T.mg y = some v) (hq : Q v (sh cx.T W tk)) : wpAny Md A (eval (.Name z pos) cx.env) Q E (sh cx.T W tk) := by
 obtain ⟨rfl, h2, h3⟩ := uD h
 exact Name_function_global C.kind h2 (loadGlobal_global (by rw [C.glob]; exact TO.g.keeps S.keeps) hv hq) h3
theorem nX {Md : Model} {A : Around} (TO : cx.T.Ok) (C : cx.Ok cb) (S : Sim cx st W) (h : v5 cx.env.scope.names z y = true) (hv : biTab.lookup y = some v) (hq : Q v (sh cx.T W tk)) : wpAny Md A (eval (.Name z pos) cx.env) Q E (sh cx.T W tk) := by
 obtain ⟨rfl, h2, h3⟩ := uD h
 obtain ⟨b1, b2⟩ := TO.bi _ _ hv
 exact Name_function_global C.kind h2 (loadGlobal_builtin (by rw [C.glob]; exact TO.g.keeps S.keeps) b1 (by rw [C.bltn]; exact TO.b.keeps S.keeps) b2 hq) h3
theorem eP {h : Heap} {dx : Addr} {m : Str -> Option Value} (hn : h.Ns1 dx m) : ∃ od, h.get? dx = some od /\ ∀ name, lookIn name od = some (m name) := by
 obtain ⟨o, es, ep, h1, h2, h3, h4, h5⟩ := hn
 refine ⟨o, h1, fun name => ?_⟩
 unfold lookIn
 rw [h2]
 dsimp only
 rw [<- h5 name]
 unfold nsFind findBy
 rw [<- Array.find?_toList]
 cases hf : es.toList.find? (·.key.isStr name) with
 | some e => rfl
 | none =>
  have : (es.toList.any (·.refKey)) = false := by
   rw [List.any_eq_false]
   intro e he
   obtain ⟨n, t, hk⟩ := h3 e (by simpa using he)
   simp [DictEntry.refKey, hk]
  simp [this]
theorem Rep.handed {d : PyData} (r : Rep W v d) : handedIn v = true := by obtain ⟨_, q⟩ := r; cases q <;> rfl
theorem RepF.handed {T : Tp} {t : Tag} (r : RepF T W t v f) : handedIn v = true := by
 cases f with
 | val d => exact Rep.handed r
 | own xs => obtain ⟨_, _, rfl, _⟩ := r; rfl
 | dct es => obtain ⟨_, rfl, _⟩ := r; rfl
 | _ => exact r.elim
theorem B3 (C : cx.Ok cb) (PC : i0 p = true -> PgCls cx.T) (S : Sim cx st W) (hm : j8 cx.nm cx.env.scope.names p e = true) (h : getP st p = some f) (k : ∀ v t tk', PlAt cx st W v f t p -> Q v (sh cx.T W tk')) :
  d9 cx (eval e cx.env) Q E (sh cx.T W tk) := by
 cases p with
 | loc i =>
  obtain ⟨x, h1, hm⟩ := f9 hm
  obtain ⟨pos, rfl⟩ := v9 h1
  obtain ⟨n, hd⟩ := E7 hm
  obtain ⟨v, t, P⟩ := S.at (p := .loc i) ⟨x, n⟩ h
  obtain ⟨y, n', hv⟩ := P.2.2.1
  cases n.1.symm.trans n'.1
  exact jP C.kind hv hd (k v t tk P)
 | fld i j =>
  obtain ⟨⟨x, nm, pos⟩, h1, hm⟩ := f9 hm
  obtain ⟨hm, h2⟩ := and2 hm
  obtain ⟨hj, h3⟩ := and2 hm
  obtain ⟨x', h4, h2⟩ := f9 h2
  obtain ⟨pos', rfl⟩ := v9 h4
  have h3 : nm = m9 j := eq_of_beq h3
  have h1 := cI h1
  subst h3 h1
  obtain ⟨n, hd⟩ := E7 h2
  obtain ⟨v, t, q, P⟩ := S.at (p := .fld i j) ⟨k6 hj, x', n⟩ h
  cases n.1.symm.trans P.nm.1
  refine Attribute_name (jP C.kind P.me hd ?_)
  obtain ⟨od, g, hl⟩ := eP P.P.ns
  have PC := PC rfl
  have I : InstAt W.h q.q.a (N8 cx.T.pc q.q.da) cx.T.pc (some od) := ⟨P.P.inst, rfl, rfl, g⟩
  exact PySem.W.get_value (s := sh cx.T W tk) (PC.kin.keeps S.keeps) I PC.ga (PySem.W.findObj_own PC.dict (PC.fld j P.lt) rfl (P.mv ▸ hl (m9 j))) P.r.handed (k v t _ ⟨q, P⟩)
end
end Mine.Internal
end
section
namespace Mine.Internal
section
variable {U : Nat -> Fn} {cx : Cx} {cb : Bool} {st st' : St} {W W' : Ws} {tk : Nat} {T : List Value -> Shared -> Prop} {E : VP} {f : F} {p : Pl} {e : Expr} {z y : Str} {v : Value} {pos : Pos} {i b : Nat} {c : CE} {d : PyData} {x : Addr} {t : Tag}
theorem z6 (H : Post cx b cb (RepL cx) W T E (.ok [f] st)) (l : Le cx.d b cb W W') (S : Sim cx st W') (r : RepA cx W' v f) : T [v] (sh cx.T W' tk) := H W' tk [v] l S ⟨r, trivial⟩
theorem n7 (H : Post cx b cb (RepL cx) W T E (.ok [.val d] st)) (S : Sim cx st W) (r : Rep W v d) : T [v] (sh cx.T W tk) := H W tk [v] Le.refl S ⟨r, trivial⟩
theorem pC {k : Nat} {c : Const} (h : T9 d c = true) : SL U cx cb (.lit d) [.Constant c k pos] := fun _ st W S tk T E H => by
 show wpAny _ _ _ _ _ _
 cases d with
 | none =>
  have : c = .none := by cases c <;> first | rfl | cases h
  subst this; exact wpAny_Constant_none (n7 H S .none)
 | bool b => obtain rfl := eq_of_beq h; exact wpAny_Constant_bool (n7 H S .bool)
 | int i => obtain rfl := eq_of_beq h; exact wpAny_Constant_int (n7 H S .int)
 | str x => obtain rfl := eq_of_beq h; exact wpAny_Constant_str (n7 H S .str)
 | list xs => cases h
 | tuple xs => cases h
 | dict xs => cases h
theorem x5I (C : cx.Ok cb) (h : j8 cx.nm cx.env.scope.names (.loc i) e = true) : SL U cx cb (.lend i) [e] := fun _ st W S tk T E H => by
 replace H : Post cx (cx.d + 1) cb (RepL cx) W T E (if (slot st.v i).isSome then .ok [.lnd i] st else .stuck) := H
 cases hs : slot st.v i with
 | none => rw [hs] at H; exact H.elim
 | some f =>
  rw [hs] at H
  refine B3 (p := .loc i) C (fun q => nomatch q) S h hs fun v t tk' P => z6 H Le.refl S ?_
  obtain ⟨_, _, ⟨y, n, hv⟩, _⟩ := P
  exact ⟨y, n.1, n.2, hv⟩
theorem x2u {k : Nat} {q : Str × PyData} (TO : cx.T.Ok) (C : cx.Ok cb) (hg : T6 k = some q) (h : v5 cx.env.scope.names z q.1 = true) : SL U cx cb (.glob k) [.Name z pos] := fun _ st W S tk T E H => by
 obtain ⟨v, hv, hr⟩ := TO.con k q.1 q.2 hg
 replace H : Post cx (cx.d + 1) cb (RepL cx) W T E (oneO ((T6 k).map fun y => .val y.2) st) := H
 rw [hg] at H
 exact F0 TO C S h hv (n7 H S (hr W))
theorem PlAt.own {xs : List PyData} (P : PlAt cx st W v (.own xs) t p) : ∃ x vs, v = .ref x /\ W.h.PlainList x vs /\ W.t x = t /\ RepAll W vs.toList xs := by
 cases p with
 | loc i => exact P.2.2.2
 | fld i j => obtain ⟨n, P⟩ := P; exact P.r
theorem PlAt.val (P : PlAt cx st W v (.val d) t p) : Rep W v d := by
 cases p with
 | loc i => exact P.2.2.2
 | fld i j => obtain ⟨n, P⟩ := P; exact P.r
theorem PlAt.fr (P : PlAt cx st W v f t p) (hx : W.t x = t) (hc : i0 p = true -> cb = true) : Fr cx.d b cb W x := .of (by
 rw [hx]
 cases p with
 | loc i => rw [P.2.1]; exact cS
 | fld i j => obtain ⟨n, P⟩ := P; rw [P.tg]; exact hc rfl)
theorem x0H (C : cx.Ok cb) (PC : i0 p = true -> PgCls cx.T) (h : j8 cx.nm cx.env.scope.names p e = true) : SL U cx cb (.get p) [e] := fun hf st W S tk T E H => by
 replace H : Post cx (cx.d + 1) cb (RepL cx) W T E (getE p st) := H
 unfold getE at H
 cases hg : getP st p with
 | none => rw [hg] at H; exact H.elim
 | some f =>
  rw [hg] at H
  refine B3 C PC S h hg fun v t tk' P => ?_
  cases f with
  | val d => exact n7 H S P.val
  | pg k =>
   cases p with
   | loc i => exact z6 H Le.refl S P.2.2.2
   | fld i j => obtain ⟨n, P⟩ := P; exact P.r.elim
  | own xs =>
   dsimp only at H
   cases hs : setP st (some (.val (.list xs))) p with
   | none => rw [hs] at H; exact H.elim
   | some st' =>
    rw [hs] at H
    obtain ⟨x, vs, rfl, ⟨n, g⟩, hx, r⟩ := P.own
    have B := But.tag W x .fz
    have hz : Fz W _ := B.fz' g g (Tags.put_self ..)
    have r' : Rep ⟨W.t.put x .fz, W.h⟩ (.ref x) (.list xs) := Rep.list ⟨_, g, rfl, n, rfl⟩ (Tags.put_self ..) (r.mono hz)
    exact z6 (W' := ⟨W.t.put x .fz, W.h⟩) H (B.le (P.fr hx hf) (o7 rfl)) (S.putPl P (fun q => C.cb (hf q)) hx B ⟨_, g⟩ (o7 rfl) (fun f' e => by cases e; exact r') hs) r'
  | brw xs => exact H.elim
  | dct es => exact H.elim
  | ex k => exact H.elim
  | lnd i => exact H.elim
  | pgs xs => exact H.elim
theorem x3S (C : cx.Ok cb) (h : j8 cx.nm cx.env.scope.names p e = true) (hp : i0 p = false) : SL U cx cb (.mv p) [e] := fun hf st W S tk T E H => by
 replace H : Post cx (cx.d + 1) cb (RepL cx) W T E (O6 p st) := H
 unfold O6 at H
 have no : i0 p = true -> ∀ {P : Prop}, P := fun q => by rw [hp] at q; cases q
 cases hg : getP st p with
 | none => rw [hg] at H; exact H.elim
 | some f =>
  rw [hg] at H
  cases f with
  | own xs =>
   refine B3 C (fun q => no q) S h hg fun v t tk' P => ?_
   dsimp only at H
   cases hs : setP st none p with
   | none => rw [hs] at H; exact H.elim
   | some st' =>
    rw [hs] at H
    obtain ⟨x, vs, rfl, ⟨n, g⟩, hx, r⟩ := P.own
    have B := But.tag W x (.own cx.d 0)
    have nz : W.t x ≠ .fz := fun q => by
     rw [hx] at q
     cases p with
     | loc i => cases P.2.1.symm.trans q
     | fld i j => exact no rfl
    exact z6 (W' := ⟨W.t.put x (.own cx.d 0), W.h⟩) H (B.le (P.fr hx fun q => no q) (o7 rfl)) (S.putPl P (fun q => no q) hx B ⟨_, g⟩ (o7 rfl) (fun f' e => by cases e) hs) ⟨x, vs, rfl, ⟨n, g⟩, Tags.put_self .., r.mono (B.fz nz)⟩
  | val d => exact H.elim
  | pg k => exact H.elim
  | brw xs => exact H.elim
  | dct es => exact H.elim
  | ex k => exact H.elim
  | lnd i => exact H.elim
  | pgs xs => exact H.elim
end
structure OpW (cx : Cx) (cb : Bool) (T : List Value -> Shared -> Prop) (E : VP) (o : Op) (vs : List Value) (st : St) (W : Ws) (ds : List PyData) : Prop where
 S : Sim cx st W
 r : RepAll W vs ds
 H : Post cx (cx.d + 1) cb (RepL cx) W T E (oneO (I0 o ds) st)
noncomputable def OpT (cx : Cx) (cb : Bool) (T : List Value -> Shared -> Prop) (E : VP) (o : Op) (vs : List Value) (s : Shared) : Prop := ∃ st W tk ds, s = sh cx.T W tk /\ OpW cx cb T E o vs st W ds
noncomputable def r6 (K : VP) : List Value -> Shared -> Prop
 | [v] => K v
 | _ => fun _ => True
noncomputable def jN (K : Value -> Value -> Shared -> Prop) : List Value -> Shared -> Prop
 | [v, u] => K v u
 | _ => fun _ => True
theorem o9 {n : Nat} (h : okLen n = true) : n <= sizeLine := by rw [sizeLine_eq]; exact k6 h
theorem x1 (x : Str) : x.length = (cs x).length := (Array.length_toList).symm
section
variable {cx : Cx} {cb : Bool} {T : List Value -> Shared -> Prop} {E : VP} {o : Op} {vs : List Value} {s : Shared} {st : St} {W : Ws} {ds : List PyData} {b tk : Nat} {d : PyData} {v u : Value}
theorem y9 {r : Option F} (H : Post cx b cb (RepL cx) W T E (oneO r st)) : ∃ g, r = some g /\ Post cx b cb (RepL cx) W T E (.ok [g] st) := by
 cases r with
 | none => exact H.elim
 | some g => exact ⟨g, rfl, H⟩
theorem OpT.un {f : PyData -> Option F} {K : VP} (h : OpT cx cb T E o vs s) (ho : ∀ ds, I0 o ds = un f ds)
  (k : ∀ st W tk x v g, Sim cx st W -> Rep W v x -> f x = some g -> Post cx (cx.d + 1) cb (RepL cx) W T E (.ok [g] st) -> K v (sh cx.T W tk)) : r6 K vs s := by
 obtain ⟨st, W, tk, ds, rfl, h⟩ := h
 obtain ⟨g, hg, H⟩ := y9 h.H
 obtain ⟨x, hx, hf⟩ := c0 ((ho ds).symm.trans hg)
 obtain ⟨v, vs', rfl, r1, r2⟩ := (n0 hx ▸ h.r).inv
 cases r2.inv0
 exact k st W tk x v g h.S r1 hf H
theorem OpT.bi {f : PyData -> PyData -> Option F} {K : Value -> Value -> Shared -> Prop} (h : OpT cx cb T E o vs s) (ho : ∀ ds, I0 o ds = Mine.Internal.bi f ds)
  (k : ∀ st W tk x y v u g, Sim cx st W -> Rep W v x -> Rep W u y -> f x y = some g -> Post cx (cx.d + 1) cb (RepL cx) W T E (.ok [g] st) -> K v u (sh cx.T W tk)) : jN K vs s := by
 obtain ⟨st, W, tk, ds, rfl, h⟩ := h
 obtain ⟨g, hg, H⟩ := y9 h.H
 obtain ⟨x, hx, hf⟩ := c0 ((ho ds).symm.trans hg)
 obtain ⟨v, vs', rfl, r1, r2⟩ := (D2 hx ▸ h.r).inv
 obtain ⟨u, vs', rfl, r4, r3⟩ := r2.inv
 cases r3.inv0
 exact k st W tk x.1 x.2 v u g h.S r1 r4 hf H
theorem Sim.new (S : Sim cx st W) {o : Obj} (t : Tag) (hf : o.isFreed = false) (ht : t.isInst = false) : Le cx.d b cb W ⟨W.t.put W.h.objs.size t, W.h.push o⟩ /\ Sim cx st ⟨W.t.put W.h.objs.size t, W.h.push o⟩ /\ Fz W ⟨W.t.put W.h.objs.size t, W.h.push o⟩ := by
 have g := B7 W.h (Nat.le_refl W.h.objs.size)
 have q := S.ok.dead _ g
 have B := But.push W o t
 exact ⟨B.le (.dead g) (o7 ht), S.but B (by rw [q]; rfl) (by rw [q]; rfl) (fun i => by rw [q]; intro e; cases e) (fun e => nomatch (Heap.get?_push_size W.h hf).symm.trans e) (o7 ht), B.fz (by rw [q]; intro e; cases e)⟩
theorem V0 {xs : List PyData} {vs : Array Value} {n : Nat} (H : Post cx b cb (RepL cx) W T E (.ok [.own xs] st)) (S : Sim cx st W) (r : RepAll W vs.toList xs) :
  T [.ref W.h.objs.size] { (sh cx.T W tk) with heap := W.h.push { cls := .type "list", data := .seq vs n } } := by
 obtain ⟨l, S', z⟩ := S.new (b := b) (cb := cb) (o := { cls := .type "list", data := .seq vs n }) (.own cx.d 0) rfl rfl
 exact z6 (W' := ⟨W.t.put W.h.objs.size (.own cx.d 0), W.h.push { cls := .type "list", data := .seq vs n }⟩) H l S' ⟨_, vs, rfl, ⟨n, Heap.get?_push_size _ rfl⟩, Tags.put_self .., r.mono z⟩
theorem cO {xs : List PyData} {vs : Array Value} {n : Nat} (H : Post cx b cb (RepL cx) W T E (.ok [.val (.tuple xs)] st)) (S : Sim cx st W) (r : RepAll W vs.toList xs) :
  T [.ref W.h.objs.size] { (sh cx.T W tk) with heap := W.h.push { cls := .type "tuple", data := .seq vs n } } := by
 obtain ⟨l, S', z⟩ := S.new (b := b) (cb := cb) (o := { cls := .type "tuple", data := .seq vs n }) .fz rfl rfl
 exact z6 (W' := ⟨W.t.put W.h.objs.size .fz, W.h.push { cls := .type "tuple", data := .seq vs n }⟩) H l S' (Rep.tuple ⟨_, Heap.get?_push_size _ rfl, rfl, n, rfl⟩ (Tags.put_self ..) (r.mono z))
end
section
variable {prog : Program} {w : World} {A : Around} {E : VP} {s : Shared}
theorem x0j {l b : Addr} {its its2 : Array Value} {Q : VP} (hl : s.heap.IsList l its) (hb : s.heap.IsList b its2)
  (h : Q (.ref s.heap.objs.size) { s with heap := s.heap.push { cls := .type "list", data := .seq (its ++ its2) } }) (hsz : its.size + its2.size <= sizeLine) :
  wpAny (model prog w) A (binaryOp .Add (.ref l) (.ref b)) Q E s := by
 obtain ⟨⟨cls, dd, data, sl⟩, ho, hc, n, hd⟩ := id hl
 obtain ⟨⟨cls2, dd2, data2, sl2⟩, ho2, hc2, n2, hd2⟩ := id hb
 simp only at hc hd hc2 hd2
 subst hc hd hc2 hd2
 exact concat_meets ⟨_, ho, rfl⟩ ⟨_, ho2, rfl⟩ noFill_list_add seq_list_add PySem.F.slot_list_add PySem.F.entry_list_add (PySem.F.args_list_add_2 _ _) (list_addW l b its its2 n n2 dd dd2 sl sl2 hsz) ⟨ho, ho2, h⟩
theorem zB {l b : Addr} {its its2 : Array Value} {Q : VP} (hl : IsTup s.heap l its) (hb : IsTup s.heap b its2)
  (h0 : its = #[] -> Q (.ref b) s) (h1 : its2 = #[] -> Q (.ref l) s)
  (h : Q (.ref s.heap.objs.size) { s with heap := s.heap.push { cls := .type "tuple", data := .seq (its ++ its2) } }) (hsz : its.size + its2.size <= sizeLine) :
  wpAny (model prog w) A (binaryOp .Add (.ref l) (.ref b)) Q E s := by
 obtain ⟨⟨cls, dd, data, sl⟩, ho, hc, n, hd⟩ := id hl
 obtain ⟨⟨cls2, dd2, data2, sl2⟩, ho2, hc2, n2, hd2⟩ := id hb
 simp only at hc hd hc2 hd2
 subst hc hd hc2 hd2
 by_cases e1 : its.isEmpty = true
 . exact concat_meets ⟨_, ho, rfl⟩ ⟨_, ho2, rfl⟩ noFill_tuple_add seq_tuple_add PySem.F.slot_tuple_add PySem.F.entry_tuple_add (PySem.F.args_tuple_add_2 _ _) (tuple_addW0 l b its its2 n n2 dd dd2 sl sl2 e1) ⟨ho, ho2, h0 (by simpa using e1)⟩
 . by_cases e2 : its2.isEmpty = true
   . exact concat_meets ⟨_, ho, rfl⟩ ⟨_, ho2, rfl⟩ noFill_tuple_add seq_tuple_add PySem.F.slot_tuple_add PySem.F.entry_tuple_add (PySem.F.args_tuple_add_2 _ _) (tuple_addW1 l b its its2 n n2 dd dd2 sl sl2 e1 e2) ⟨ho, ho2, h1 (by simpa using e2)⟩
   . exact concat_meets ⟨_, ho, rfl⟩ ⟨_, ho2, rfl⟩ noFill_tuple_add seq_tuple_add PySem.F.slot_tuple_add PySem.F.entry_tuple_add (PySem.F.args_tuple_add_2 _ _) (tuple_addW2 l b its its2 n n2 dd dd2 sl sl2 e1 e2 hsz) ⟨ho, ho2, h⟩
end
theorem uV {a : Int} (h : small a = true) : Builtin.Int.intBits a <= 64 := by
 have h' : a.natAbs < 1073741824 := k6 h
 unfold Builtin.Int.intBits
 have : a.natAbs.log2 < 30 := by
  rcases Nat.eq_zero_or_pos a.natAbs with e | e
  . rw [e]; decide
  . exact (Nat.log2_lt (Nat.pos_iff_ne_zero.mp e)).mpr (by lia)
 split <;> lia
theorem fC (x y : Str) : x ++ y = S (cs x ++ cs y) := by
 obtain ⟨x⟩ := x; obtain ⟨y⟩ := y
 show (⟨x ++ y⟩ : Str) = ⟨(x.toList ++ y.toList).toArray⟩
 rw [<- Array.toList_append]
theorem x0s (l : List (Array Nat)) (a : Array Nat) : (l.foldl (· ++ ·) a).toList = a.toList ++ (l.map (·.toList)).flatten := by
 induction l generalizing a with
 | nil => simp
 | cons x r ih => simp [ih]
theorem x6T (x : Str) (n : Int) : Txt.mul x n = S (List.replicate n.toNat (cs x)).flatten := by
 unfold Txt.mul
 split
 . rename_i h
   have : n.toNat = 0 := by lia
   rw [this]; rfl
 . split
   . rename_i h1 h2
     simp only [Bool.or_eq_true, beq_iff_eq] at h2
     rcases h2 with rfl | h2
     . show x = S (List.replicate 1 (cs x)).flatten
       simp [D8]
     . rw [x1] at h2
       have e : cs x = [] := List.length_eq_zero_iff.mp h2
       rw [e]
       have : x = S [] := by rw [<- e, D8]
       rw [this]; simp [S]
   . rename_i h1 h2
     unfold S
     congr 1
     apply Array.ext'
     rw [x0s]
     simp [cs]
theorem cZ {n : Int} (h : okInt n = true) : n <= 16777216 /\ -16777216 <= n := ⟨k6 (Bool.and_eq_true_iff.mp h).1, k6 (Bool.and_eq_true_iff.mp h).2⟩
theorem x0f {x : Str} {n : Int} (h : okLen ((cs x).length * n.toNat) = true) (hn : okInt n = true) : MulOk x n := by
 have h3 := o9 h
 rw [sizeLine_eq] at h3
 have hn := cZ hn
 refine ⟨?_, fun h1 h2 => ?_, fun h1 h2 => ?_⟩
 . simp only [Bool.or_eq_false_iff, decide_eq_false_iff_not]; lia
 . rw [x1]
   have h5 : (cs x).length <= (cs x).length * n.toNat := Nat.le_mul_of_pos_right _ (by lia)
   have h8 : (16777216 : Int) <= (2 ^ 63 - 1) / n := (Int.le_ediv_iff_mul_le (by lia)).mpr (by lia)
   lia
 . unfold Builtin.Str.tooLong
   rw [x1, sizeLine_eq]
   simpa using h3
section
variable {cx : Cx} {cb : Bool} {T : List Value -> Shared -> Prop} {E : VP} {st : St} {W : Ws} {b tk : Nat} {d e : PyData} {v u : Value} {g : F} {i : Int}
theorem Rep.ii (h : asI d = some i) (r : Rep W v d) : ∃ t, v = .int i t := (aH h ▸ r).inv
theorem Rep.ss {x : Str} (h : asS d = some x) (r : Rep W v d) : ∃ t, v = .str x t := (fJ h ▸ r).inv
theorem Rep.ll {xs : List PyData} (h : z5 d = some xs) (r : Rep W v d) : ∃ a vs, v = .ref a /\ W.h.IsList a vs /\ W.t a = .fz /\ RepAll W vs.toList xs := (x0r h ▸ r).inv
theorem Rep.tt {xs : List PyData} (h : D3 d = some xs) (r : Rep W v d) : ∃ a vs, v = .ref a /\ IsTup W.h a vs /\ W.t a = .fz /\ RepAll W vs.toList xs := (iK h ▸ r).inv
theorem x6K {op : Operator} (S : Sim cx st W) (hv : Rep W v d) (hu : Rep W u e) (hb : binF op d e = some g) (H : Post cx b cb (RepL cx) W T E (.ok [g] st)) :
  d9 cx (binaryOp op v u) (fun r s => T [r] s) E (sh cx.T W tk) := by
 have int2 : ∀ {f : Int -> Int -> Option F} {P : Prop}, o8 asI d e f = some g -> (∀ a b t t', v = .int a t -> u = .int b t' -> f a b = some g -> P) -> P := fun h k => by
  obtain ⟨a, b, ha, hb, h⟩ := A1 h
  obtain ⟨t, rfl⟩ := hv.ii ha
  obtain ⟨t', rfl⟩ := hu.ii hb
  exact k a b t t' rfl rfl h
 cases op with
 | Add =>
  rcases v7 hb with hb | hb
  . rcases v7 hb with hb | hb
    . exact int2 hb fun a b t t' hv hu h => by cases h; subst hv hu; exact add_int (n7 H S .int)
    . obtain ⟨x, y, hx, hy, h⟩ := A1 hb
      obtain ⟨hq, rfl⟩ := i5 h
      obtain ⟨_, rfl⟩ := hv.ss hx; obtain ⟨_, rfl⟩ := hu.ss hy
      refine add_str (fun t' tk => ?_) (by rw [x1, x1]; exact o9 hq)
      rw [fC]
      exact n7 H S .str
  . rcases v7 hb with hb | hb
    . obtain ⟨x, y, hx, hy, h⟩ := A1 hb
      obtain ⟨hq, rfl⟩ := i5 h
      obtain ⟨a, vs, rfl, hl, _, hr⟩ := hv.ll hx
      obtain ⟨a', ws, rfl, hl', _, hr'⟩ := hu.ll hy
      exact x0j hl hl' (V0 H S (by rw [Array.toList_append]; exact hr.append hr')) (by rw [hr.size, hr'.size]; exact o9 hq)
    . obtain ⟨x, y, hx, hy, h⟩ := A1 hb
      obtain ⟨hq, rfl⟩ := i5 h
      obtain ⟨a, vs, rfl, hl, ht, hr⟩ := hv.tt hx
      obtain ⟨a', ws, rfl, hl', ht', hr'⟩ := hu.tt hy
      refine zB hl hl' (fun q => ?_) (fun q => ?_) (cO H S (by rw [Array.toList_append]; exact hr.append hr')) (by rw [hr.size, hr'.size]; exact o9 hq)
      . have := hr.length; rw [q] at this
        rw [List.eq_nil_of_length_eq_zero this.symm] at H
        exact n7 H S (.tuple hl' ht' hr')
      . have := hr'.length; rw [q] at this
        rw [List.eq_nil_of_length_eq_zero this.symm, List.append_nil] at H
        exact n7 H S (.tuple hl ht hr)
 | Sub => exact int2 hb fun a b t t' hv hu h => by cases h; subst hv hu; exact sub_int (n7 H S .int)
 | Mult =>
  rcases v7 hb with hb | hb
  . exact int2 hb fun a b t t' hv hu h => by
     obtain ⟨hq, rfl⟩ := i5 h; subst hv hu
     exact mul_int (n7 H S .int) ((Bool.or_eq_true_iff.mp hq).elim (fun h => IntMulOk.of_left (uV h)) fun h => IntMulOk.of_right (uV h))
  . obtain ⟨x, hx, hb⟩ := c0 hb
    obtain ⟨n, hn, hb⟩ := c0 hb
    obtain ⟨hq, rfl⟩ := i5 hb
    obtain ⟨_, rfl⟩ := hv.ss hx; obtain ⟨_, rfl⟩ := hu.ii hn
    obtain ⟨h1, h2⟩ := and2 hq
    refine SB.mul (x0f h1 h2) fun t' k => ?_
    rw [x6T]
    exact n7 H S .str
 | FloorDiv =>
  exact int2 hb fun a b t t' hv hu h => by
   obtain ⟨hq, rfl⟩ := i5 h; subst hv hu
   obtain ⟨h1, h2⟩ := and2 hq
   exact floordiv_int (bne_iff_ne.mp h2) (n7 H S .int) (.inl (PyProof.noPylong_small (k6 h1)))
 | Mod =>
  exact int2 hb fun a b t t' hv hu h => by
   obtain ⟨hq, rfl⟩ := i5 h; subst hv hu
   exact mod_int' (bne_iff_ne.mp hq) (n7 H S .int)
 | _ => exact nos hb
end
theorem x4m (x y : Str) : (x == y) = (cs x == cs y) := by
 rw [Bool.eq_iff_iff, beq_iff_eq, beq_iff_eq]
 exact ⟨fun h => by rw [h], fun h => by rw [<- D8 x, <- D8 y, h]⟩
theorem kU {d : PyData} (h : L6 d = true) : d.canLay0 = true /\ d.depth <= 50 := ⟨(and2 h).1, k6 (and2 h).2⟩
section
variable {cx : Cx} {cb : Bool} {Q : VP} {E : VP} {W : Ws} {b tk : Nat} {d e : PyData} {v u : Value} {t : Bool}
theorem jG (r : Rep W v d) : (v == .none) = C1 d := by obtain ⟨_, r⟩ := r; cases r <;> rfl
theorem kK (C : cx.Ok cb) (hv : Rep W v d) (hu : Rep W u e) (h : eqF d e = some t) :
  (Q (.bool t) (sh cx.T W tk) -> d9 cx (compareOp .Eq v u) Q E (sh cx.T W tk)) /\ (Q (.bool (!t)) (sh cx.T W tk) -> d9 cx (compareOp .NotEq v u) Q E (sh cx.T W tk)) := by
 rcases v7 h with h | h
 . rcases v7 h with h | h
   . obtain ⟨a, b, ha, hb, h⟩ := A1 h
     cases h
     obtain ⟨_, rfl⟩ := hv.ii ha; obtain ⟨_, rfl⟩ := hu.ii hb
     exact ⟨eq_int, ne_int⟩
   . obtain ⟨a, b, ha, hb, h⟩ := A1 h
     cases h
     obtain ⟨_, rfl⟩ := hv.ss ha; obtain ⟨_, rfl⟩ := hu.ss hb
     rw [<- x4m]
     exact ⟨eq_str, ne_str⟩
 . obtain ⟨hs, rfl⟩ := i5 h
   obtain ⟨h1, h2⟩ := and2 hs
   obtain ⟨a1, a2⟩ := kU h1
   obtain ⟨b1, b2⟩ := kU h2
   obtain ⟨as, ra⟩ := hv.reads
   obtain ⟨bs, rb⟩ := hu.reads
   have hu : cx.A.units + min d.depth e.depth < cLine := Nat.lt_of_le_of_lt (Nat.add_le_add_left (nlt (Nat.min_le_left ..) (nlt a2 (by decide : 50 <= 200))) _) C.units
   exact ⟨fun hq => SeqAt.eqOverData _ _ _ _ _ _ _ _ _ _ _ _ ra rb a1 b1 hu hq, fun hq => SeqAt.neOverData _ _ _ _ _ _ _ _ _ _ _ _ ra rb a1 b1 hu hq⟩
theorem mV {op : CmpOp} (C : cx.Ok cb) (hv : Rep W v d) (hu : Rep W u e) (h : cmpF op d e = some t) (hq : Q (.bool t) (sh cx.T W tk)) : d9 cx (compareOp op v u) Q E (sh cx.T W tk) := by
 have int2 : ∀ {f : Int -> Int -> Option Bool} {P : Prop}, o8 asI d e f = some t -> (∀ a b t1 t2, v = .int a t1 -> u = .int b t2 -> f a b = some t -> P) -> P := fun h k => by
  obtain ⟨a, b, ha, hb, h⟩ := A1 h
  obtain ⟨t1, rfl⟩ := hv.ii ha
  obtain ⟨t2, rfl⟩ := hu.ii hb
  exact k a b t1 t2 rfl rfl h
 have str2 : ∀ {f : Str -> Str -> Option Bool} {P : Prop}, o8 asS d e f = some t -> (∀ a b t1 t2, v = .str a t1 -> u = .str b t2 -> f a b = some t -> P) -> P := fun h k => by
  obtain ⟨a, b, ha, hb, h⟩ := A1 h
  obtain ⟨t1, rfl⟩ := hv.ss ha
  obtain ⟨t2, rfl⟩ := hu.ss hb
  exact k a b t1 t2 rfl rfl h
 have none2 : ∀ {P : Prop}, C1 e = true -> (u = .none -> P) -> P := fun h k => k (by have := jG hu; rw [h] at this; exact eq_of_beq this)
 cases op with
 | Eq => exact (kK C hv hu h).1 hq
 | NotEq =>
  obtain ⟨t', h', rfl⟩ := m3 h
  exact (kK C hv hu h').2 hq
 | Lt => exact int2 h fun a b _ _ h1 h2 h => by cases h; subst h1 h2; exact lt_int hq
 | LtE => exact int2 h fun a b _ _ h1 h2 h => by cases h; subst h1 h2; exact le_int hq
 | Gt => exact int2 h fun a b _ _ h1 h2 h => by cases h; subst h1 h2; exact gt_int hq
 | GtE => exact int2 h fun a b _ _ h1 h2 h => by cases h; subst h1 h2; exact ge_int hq
 | In => exact str2 h fun a b _ _ h1 h2 h => by cases h; subst h1 h2; exact in_str hq
 | NotIn => exact str2 h fun a b _ _ h1 h2 h => by cases h; subst h1 h2; exact notIn_str hq
 | Is => obtain ⟨h', rfl⟩ := i5 h; exact none2 h' fun q => by subst q; exact is_none (by rw [jG hv]; exact hq)
 | IsNot => obtain ⟨h', rfl⟩ := i5 h; exact none2 h' fun q => by subst q; exact isNot_none (by rw [jG hv]; exact hq)
end
theorem qH {n : Nat} {i : Int} {k : Nat} (h : at? n i = some k) : k < n /\ (0 <= i /\ i = k \/ i < 0 /\ i + n = k) := by
 have key : ∀ j : Int, (if (decide (0 <= j) && decide (j < n)) = true then some j.toNat else none) = some k -> j = k /\ k < n := fun j h => by
  by_cases c : (decide (0 <= j) && decide (j < n)) = true
  . rw [if_pos c] at h
    obtain ⟨c1, c2⟩ := and2 c
    have c1 := k6 c1
    have c2 := k6 c2
    cases h
    have e := Int.toNat_of_nonneg c1
    exact ⟨e.symm, Int.ofNat_lt.mp (e ▸ c2)⟩
  . rw [if_neg c] at h; cases h
 by_cases q : i < 0
 . have := key _ ((congrArg (fun j : Int => if (decide (0 <= j) && decide (j < n)) = true then some j.toNat else none) (if_pos q)).symm.trans h)
   exact ⟨this.2, .inr ⟨q, this.1⟩⟩
 . have := key _ ((congrArg (fun j : Int => if (decide (0 <= j) && decide (j < n)) = true then some j.toNat else none) (if_neg q)).symm.trans h)
   exact ⟨this.2, .inl ⟨Int.not_lt.mp q, this.1⟩⟩
theorem iP {n : Nat} {i : Int} {k : Nat} (h : at? n i = some k) (hz : okLen n = true) : -(2 ^ 63) <= i /\ i < 2 ^ 63 := by
 have hz' : n <= 16777216 := k6 hz
 have := qH h
 lia
theorem P7 {e : Expr} (h : m7 e = true) (o i : Value) : subscripted e false o i = operate [o, i] (getItem o i) := by
 cases e <;> first | rfl | cases h
section
variable {prog : Program} {w : World} {A : Around} {E : VP} {s : Shared}
theorem tO {l : Addr} {items : Array Value} {i : Int} {t : Tok} {k : Nat} {x : Value} {Q : VP} (hl : s.heap.IsList l items) (hk : at? items.size i = some k) (hz : okLen items.size = true) (hx : items[k]? = some x) (h : Q x s) :
  wpAny (model prog w) A (getItem (.ref l) (.int i t)) Q E s := by
 have hf := iP hk hz
 obtain ⟨_, ⟨h0, e⟩ | ⟨h0, e⟩⟩ := qH hk
 . exact wpAny_getItem_list hl h0 hf.2 (by rw [e]; exact hx) h
 . exact wpAny_getItem_list_neg hl h0 (by lia) hf.1 (by rw [e]; exact hx) h
end
theorem X9 {α : Type} {xs : List α} {i : Int} {x : α} (h : atL xs i = some x) : okLen xs.length = true /\ ∃ k, at? xs.length i = some k /\ xs[k]? = some x := by
 obtain ⟨n, hn, h⟩ := c0 h
 obtain ⟨hz, rfl⟩ := i5 hn
 exact ⟨hz, c0 h⟩
section
variable {cx : Cx} {Q : VP} {E : VP} {W : Ws} {tk : Nat} {d e : PyData} {v u : Value} {x : PyData} {value slice : Expr} {xs : List PyData} {l : Addr} {vs : Array Value} {i : Int} {tt : Tok}
theorem rK (hs : m7 slice = true) (hl : W.h.IsList l vs) (hr : RepAll W vs.toList xs) (h : atL xs i = some x) (hq : ∀ r, Rep W r x -> Q r (sh cx.T W tk)) : d9 cx (subscriptTail value slice (.ref l) (.int i tt)) Q E (sh cx.T W tk) := by
 obtain ⟨hz, k, hk, hx⟩ := X9 h
 obtain ⟨r, hr', hx'⟩ := hr.get hx
 exact tail_any (s := sh cx.T W tk) hl.typeIs slot_list_getitem.lookup (tO hl (by rw [hr.size]; exact hk) (by rw [hr.size]; exact hz) (by rw [<- Array.getElem?_toList]; exact hr') (hq _ hx')) (P7 hs _ _)
theorem x0x (hs : m7 slice = true) (hv : Rep W v d) (hu : Rep W u e) (h : iR d e = some x) (hq : ∀ r tk, Rep W r x -> Q r (sh cx.T W tk)) : d9 cx (subscriptTail value slice v u) Q E (sh cx.T W tk) := by
 obtain ⟨i, hi, h⟩ := c0 h
 obtain ⟨_, rfl⟩ := hu.ii hi
 rcases v7 h with h | h
 . rcases v7 h with h | h
   . obtain ⟨q, hx, h⟩ := c0 h
     obtain ⟨_, rfl⟩ := hv.ss hx
     obtain ⟨c, h', rfl⟩ := m3 h
     obtain ⟨hz, k, hk, hc⟩ := X9 h'
     have hf := iP hk hz
     refine tail_any (typeIs_str _ _ _) slot_str_getitem.lookup (getItem_str ?_ ?_ (hq _ _ .str)) (P7 hs _ _)
     . exact Bool.or_eq_false_iff.mpr ⟨dff (Int.not_lt.mpr hf.1), dff (Int.not_le.mpr hf.2)⟩
     . rw [x1, show seqIndex? i (cs q).length = some k from hk]
       exact (Array.getElem?_toList).symm.trans hc
   . obtain ⟨ys, hx, h⟩ := c0 h
     obtain ⟨l, vs, rfl, hl, _, hr⟩ := hv.ll hx
     exact rK hs hl hr h fun r => hq r tk
 . obtain ⟨ys, hx, h⟩ := c0 h
   obtain ⟨l, vs, rfl, hl, _, hr⟩ := hv.tt hx
   obtain ⟨hz, k, hk, hx⟩ := X9 h
   obtain ⟨r, hr', hx'⟩ := hr.get hx
   have hf := iP hk hz
   exact tail_any (s := sh cx.T W tk) hl.typeIs slot_tuple_getitem.lookup (getItem_tuple hl hf.1 hf.2 (by rw [hr.size]; exact hk) (by rw [<- Array.getElem?_toList]; exact hr') (hq _ tk hx')) (P7 hs _ _)
end
section
variable {prog : Program} {w : World} {A : Around} {E : VP} {s : Shared}
theorem zZ (b n : Nat) (hb : b <= n) : Builtin.Slice.sliceAdjust none (some (b : Int)) 1 (n : Int) = (0, (b : Int)) := by
 unfold Builtin.Slice.sliceAdjust
 have h1 : ¬ ((1 : Int) < 0) := by lia
 have h2 : ¬ ((b : Int) < 0) := by lia
 simp only [h1, h2, if_false]
 congr 1
 lia
theorem x2a (b : Nat) : Builtin.Slice.slicePlaces 0 (b : Int) 1 = b := by
 unfold Builtin.Slice.slicePlaces
 have h1 : (1 : Int) > 0 := by lia
 simp only [h1, if_true, Int.ediv_one]
 split <;> lia
theorem x3X {sl : Addr} {b n : Nat} {u : Tok} {Q : Int × Int × Nat -> Shared -> Prop} (hs : s.heap.IsSliceOf sl .none (.int b u) .none) (hb : b <= n) (h : Q (0, 1, b) s) :
  wpAny (model prog w) A (Builtin.Slice.sliceApplied (.ref sl) (pure (n : Int))) Q E s := by
 obtain ⟨os, hos, hcs, hds⟩ := id hs
 unfold Builtin.Slice.sliceApplied Builtin.Slice.sliceFields
 refine wpAny_bind (wpAny_bind (wpAny_field hos hds (x := .none) rfl (wpAny_bind (wpAny_field hos hds (x := .int b u) rfl (wpAny_bind (wpAny_field hos hds (x := .none) rfl (wpAny_pure ?_)))))))
 refine wpAny_bind (slicePart_none ?_)
 show wpAny _ _ (if ((1 : Int) == 0) = true then _ else _) _ _ s
 rw [if_neg (by decide)]
 refine wpAny_bind (slicePart_none (wpAny_bind (slicePart_int (wpAny_bind (wpAny_pure ?_)))))
 show wpAny _ _ (match Builtin.Slice.sliceAdjust none (some (b : Int)) 1 (n : Int) with | (lo, hi) => pure (lo, (1 : Int), Builtin.Slice.slicePlaces lo hi 1)) _ _ s
 rw [zZ b n hb]
 show wpAny _ _ (pure ((0 : Int), (1 : Int), Builtin.Slice.slicePlaces (0 : Int) (b : Int) 1)) _ _ s
 rw [x2a b]
 exact wpAny_pure h
theorem x6h (xs : Array Value) (b : Nat) (hb : b <= xs.size) : ((List.range b).filterMap fun (k : Nat) => xs[((0 : Int) + (k : Int) * 1).toNat]?).toArray = (xs.toList.take b).toArray := by
 have e : (fun (k : Nat) => xs[((0 : Int) + (k : Int) * 1).toNat]?) = fun k => xs[0 + k]? := by
  funext k
  have : ((0 : Int) + (k : Int) * 1).toNat = 0 + k := by lia
  rw [this]
 rw [e]
 have := pick_run xs 0 b
 rw [List.filterMap_map] at this
 have e2 : ((fun x => xs[x]?) ∘ fun x => 0 + x) = fun k => xs[0 + k]? := rfl
 rw [e2] at this
 rw [this, List.drop_zero]
theorem x6O {t sl : Addr} {items : Array Value} {b : Nat} {u : Tok} {Q : VP} (ht : IsTup s.heap t items) (hs : s.heap.IsSliceOf sl .none (.int b u) .none) (hb : b < items.size)
  (h : Q (.ref s.heap.objs.size) { s with heap := s.heap.push { cls := .type "tuple", data := .seq (items.toList.take b).toArray } })
  (hsz : items.size <= sizeLine) : wpAny (model prog w) A (getItem (.ref t) (.ref sl)) Q E s := by
 have hdrop : sizeOk (.seq (items.toList.take b).toArray) := by
  show (items.toList.take b).toArray.size <= sizeLine
  rw [List.size_toArray, List.length_take, Array.length_toList]
  lia
 obtain ⟨os, hos, hcs, hds⟩ := id hs
 have hTs : s.TypeIs (.ref sl) "slice" := ⟨os, hos, hcs⟩
 unfold getItem
 try with_reducible refine wpAny_holding ?_
 first | refine wpAny_bind (wpAny_pure ?_) | skip
 refine wpAny_bind (wpAny_sequenceKey ht.typeIs (by decide) ?_)
 refine wpAny_bind (wpAny_callSpecial?_slot (name := Str.ofString "__getitem__") ht.typeIs slot_tuple_getitem
  (wpAny_call_entry slot_tuple_getitem ht.typeIs entry_tuple_getitem ?_ (args_tuple_getitem _ _)))
 show wpAny _ _ (Builtin.Tuple.tupleItemsOf (.ref t) >>= _) _ _ s
 refine wpAny_bind (tupleItemsOf_ ht ?_)
 refine wpAny_bind (wpAny_typeOf hTs ?_)
 rw [if_pos (by decide)]
 refine wpAny_bind (x3X hs (Nat.le_of_lt hb) ?_)
 have hno : ¬ (((0 : Int) == 0 && (1 : Int) == 1 && b == items.size) = true) := by
  have : (b == items.size) = false := by rw [beq_eq_false_iff_ne]; lia
  rw [this]; simp
 show wpAny _ _ (if ((0 : Int) == 0 && (1 : Int) == 1 && b == items.size) = true then _ else _) _ _ s
 rw [if_neg hno, x6h items b (Nat.le_of_lt hb)]
 first
  | exact wpAny_bind (m := Builtin.Tuple.tupleExact _) (wpAny_newObj_type (wpAny_pure ⟨_, rfl, wpAny_pure h⟩) hdrop)
  | exact wpAny_bind (m := Builtin.Tuple.tupleExact _) (wpAny_newObj_type (wpAny_bind (wpAny_pure (wpAny_pure ⟨_, rfl, wpAny_pure h⟩))) hdrop)
  | exact wpAny_bind (wpAny_bind (m := Builtin.Tuple.tupleExact _) (wpAny_newObj_type (wpAny_pure (wpAny_pure ⟨_, rfl, wpAny_pure h⟩)) hdrop))
  | exact wpAny_bind (wpAny_bind (m := Builtin.Tuple.tupleExact _) (wpAny_newObj_type (wpAny_pure ⟨_, rfl, wpAny_pure h⟩) hdrop))
end
theorem kB (xs : List Int) : ∀ j, j <= xs.length -> preSum (fun i => xs.getD i 0) j = (xs.take j).sum
 | 0, _ => rfl
 | j + 1, h => by
  show preSum (fun i => xs.getD i 0) j + xs.getD j 0 = _
  rw [kB xs j (Nat.le_of_succ_le h), List.take_succ, List.sum_append, List.getD_eq_getElem?_getD, geg h]
  simp
theorem x6X (xs : List Int) (h : ∀ x ∈ xs, small x = true) : xs.sum.natAbs <= xs.length * 1073741824 := by
 induction xs with
 | nil => exact Nat.zero_le _
 | cons x xs ih =>
  have h1 : x.natAbs < 1073741824 := k6 (h x (.head _))
  have h2 := ih fun y hy => h y (.tail _ hy)
  rw [List.sum_cons, List.length_cons]
  lia
section
variable {prog : Program} {w : World} {A : Around} {E : VP} {s : Shared} {l : Addr}
theorem x3d {xs : List Int} {vs : Array Value} {Q : VP} (hh : A.handled = none) (hl : s.heap.IsList l vs) (hn : vs.size = xs.length) (hv : ∀ (i : Nat) (v : Value), vs[i]? = some v -> ∃ t, v = .int (xs.getD i 0) t) (hz : xs.length <= 1000) (hs : ∀ x ∈ xs, small x = true)
  (h : ∀ h' tk t, (∀ b o, s.heap.get? b = some o -> h'.get? b = some o) -> Q (.int xs.sum t) { s with heap := h', toks := tk }) :
  wpAny (model prog w) A (call (.builtin "sum") [.ref l]) Q E s := by
 have hlt : l < s.heap.objs.size := by obtain ⟨_, e, _⟩ := hl; exact Heap.lt_size e
 have fit : ∀ ys : List Int, ys.Sublist xs -> InLong ys.sum := fun ys hy => by
  have h1 := x6X ys fun x hx => hs x (hy.subset hx)
  have h2 := hy.length_le
  have h3 : ys.sum.natAbs <= 1000 * 1073741824 := nlt h1 (Nat.mul_le_mul_right _ (nlt h2 hz))
  unfold InLong
  lia
 refine call_sum_walk (wpAny_pyIter_list hl ?_)
 refine ⟨_, _, _, _, _, _, fun i => xs.getD i 0, rfl, Walks.list (A := A.in1) hh _ l (Nat.ne_of_lt hlt) vs, ⟨⟨_, Heap.get?_push_size _ rfl, rfl, rfl⟩, hl.push _⟩, fun b hb => ?_, fun i v hp => hv i v hp, fun j hj => ⟨?_, ?_⟩, fun h' tk t hk => ?_⟩
 . rw [Heap.size_push]
   rcases List.mem_cons.mp hb with rfl | hb
   . exact Nat.lt_succ_self _
   . cases lsm hb; exact Nat.lt_succ_of_lt hlt
 . have hj : j < xs.length := hn ▸ hj
   have := fit [xs[j]] (List.singleton_sublist.mpr (List.getElem_mem hj))
   show InLong (xs.getD j 0)
   rw [List.getD_eq_getElem?_getD, geg hj]
   simpa using this
 . rw [kB xs (j + 1) (hn ▸ hj)]; exact fit _ (List.take_sublist ..)
 . rw [hn, kB xs _ (Nat.le_refl _), List.take_length]
   refine h h' tk t fun b o e => hk b o (fun hm => ?_) (Heap.get?_push_of_some _ e)
   cases lsm hm
   exact absurd (Heap.lt_size e) (Nat.lt_irrefl _)
end
theorem x1x (vs : Array Value) : (slicePick vs none none (some (-1))).toList = vs.toList.reverse := by
 unfold slicePick sliceBounds sliceRange
 simp only [Option.getD_some, show ¬ ((-1 : Int) > 0) by decide, if_false]
 refine List.ext_getElem? fun k => ?_
 have hc : (if (vs.size : Int) - 1 > -1 then ((vs.size : Int) - 1 - -1 - -1 - 1) / (- -1) else 0).toNat = vs.size := by
  split
  . rw [show (- -1 : Int) = 1 from rfl, Int.ediv_one]; lia
  . lia
 rw [hc, List.filterMap_map]
 have : (List.range vs.size).filterMap ((fun x => vs[x]?) ∘ fun (k : Nat) => ((vs.size : Int) - 1 + -1 * (k : Int)).toNat) = vs.toList.reverse := by
  have e : ∀ n, n <= vs.size -> (List.range n).filterMap ((fun x => vs[x]?) ∘ fun (k : Nat) => ((vs.size : Int) - 1 + -1 * (k : Int)).toNat) = vs.toList.reverse.take n := fun n => by
   induction n with
   | zero => intro _; rfl
   | succ n ih =>
    intro h
    rw [List.range_succ, List.filterMap_append, ih (Nat.le_of_succ_le h), List.take_succ]
    congr 1
    have hi : ((vs.size : Int) - 1 + -1 * (n : Int)).toNat = vs.size - 1 - n := by lia
    have hlt : vs.size - 1 - n < vs.size := by lia
    simp only [List.filterMap_cons, List.filterMap_nil, Function.comp_apply, hi]
    rw [List.getElem?_reverse (by rw [Array.length_toList]; lia), Array.length_toList, Array.getElem?_toList, Array.getElem?_eq_getElem hlt]
    rfl
  rw [e _ (Nat.le_refl _), List.take_of_length_le (by rw [List.length_reverse, Array.length_toList]; exact Nat.le_refl _)]
 rw [this]
theorem vS {α : Type} (l : List α) (a b : Nat) : (l.drop (min a l.length)).take (min b l.length - min a l.length) = (l.take b).drop a := by
 rw [List.drop_take]
 by_cases h : a <= l.length
 . rw [Nat.min_eq_left h]
   by_cases h' : b <= l.length
   . rw [Nat.min_eq_left h']
   . rw [Nat.min_eq_right (by lia)]
     rw [List.take_of_length_le (by simp), List.take_of_length_le (by simp; lia)]
 . have e1 : l.drop a = [] := List.drop_eq_nil_of_le (by lia)
   have e2 : l.drop (min a l.length) = [] := List.drop_eq_nil_of_le (by lia)
   rw [e1, e2]; simp
noncomputable def sC (lo hi : Option Int) (n a b : Nat) : Prop := (lo = none /\ a = 0 \/ lo = some (a : Int)) /\ (hi = none /\ b = n \/ hi = some (b : Int))
noncomputable def kZ (v : Option Int) (d n : Int) : Int := match v with
 | none => d
 | some i => max 0 (min (if i < 0 then i + n else i) n)
theorem aU {v : Option Int} {n a d : Nat} (h : v = none /\ a = d \/ v = some (a : Int)) (hd : d <= n) : kZ v d n = ((min a n : Nat) : Int) := by
 unfold kZ
 rcases h with ⟨rfl, rfl⟩ | rfl
 . simp only; lia
 . have : ¬ ((a : Int) < 0) := by lia
   simp only [this, if_false]; lia
theorem x0q (items : Array Value) {lo hi : Option Int} {a b : Nat} (h : sC lo hi items.size a b) : (slicePick items lo hi none).toList = (items.toList.take b).drop a := by
 have e : sliceBounds lo hi none items.size = (((min a items.size : Nat) : Int), ((min b items.size : Nat) : Int), 1) := by
  simp only [sliceBounds, Option.getD_none, show (1 : Int) > 0 by decide, if_true]
  have h1 := aU (n := items.size) h.1 (Nat.zero_le _)
  have h2 := aU (n := items.size) h.2 (Nat.le_refl _)
  rw [<- h1, <- h2]
  cases lo <;> cases hi <;> rfl
 unfold slicePick
 rw [e]
 simp only [sliceRange_one, pick_run]
 rw [List.toList_toArray]
 have := vS items.toList a b
 rwa [Array.length_toList] at this
theorem xH (x : Str) {l u : Option (Int × Tok)} {a b : Nat} (h : sC (l.map (·.1)) (u.map (·.1)) (cs x).length a b) : (slicePicked x l u none).filterMap (x.cps[·]?) = ((cs x).take b).drop a /\ (slicePicked x l u none).length = (((cs x).take b).drop a).length := by
 have hn : x.length = (cs x).length := x1 x
 have e : slicePicked x l u none = (List.range (min b (cs x).length - min a (cs x).length)).map (min a (cs x).length + ·) := by
  unfold slicePicked Builtin.Str.strSliceIndices
  simp only [Option.map_none, Option.getD_none, show (1 : Int) > 0 by decide, if_true]
  have h1 := aU (n := (cs x).length) h.1 (Nat.zero_le _)
  have h2 := aU (n := (cs x).length) h.2 (Nat.le_refl _)
  rw [<- sliceRange_one, <- h1, <- h2, hn]
  cases l <;> cases u <;> rfl
 rw [e]
 have hp := pick_run x.cps (min a (cs x).length) (min b (cs x).length - min a (cs x).length)
 have hc := vS (cs x) a b
 refine ⟨hp.trans hc, ?_⟩
 rw [i7, List.length_range, <- hc, List.length_take, List.length_drop]
 exact (Nat.min_eq_left (Nat.sub_le_sub_right (Nat.min_le_right ..) _)).symm
theorem qT (p : Option (Int × Tok)) : IsPart (partValue p) (p.map (·.1)) := by
 cases p with
 | none => exact .none
 | some q => exact .int q.1 q.2
section
variable {cx : Cx} {cb : Bool} {T : List Value -> Shared -> Prop} {E : VP} {st : St} {W : Ws} {b tk : Nat} {d e : PyData} {v u v2 v3 : Value} {g : F} {value : Expr} {lo hi : Option PyData} {l r : Option Expr} {pos' : Pos} {n k : Nat}
noncomputable def RepO (W : Ws) (v : Value) : Option PyData -> Prop
 | none => v = .none
 | some d => Rep W v d
theorem RepO.part {o : Option PyData} (h : RepO W v o) (hb : bnd o n = some k) : ∃ p : Option (Int × Tok), v = partValue p /\ (p.map (·.1) = none /\ k = n \/ p.map (·.1) = some (k : Int)) := by
 cases o with
 | none => cases hb; exact ⟨none, h, .inl ⟨rfl, rfl⟩⟩
 | some d =>
  obtain ⟨i, hi, hb⟩ := c0 hb
  obtain ⟨h0, rfl⟩ := i5 hb
  obtain ⟨t, rfl⟩ := Rep.ii hi h
  have e := Int.toNat_of_nonneg (k6 h0).1
  exact ⟨some (i, t), rfl, .inr (by rw [e]; rfl)⟩
theorem lC {α : Type} {xs ys : List α} (h : cutL xs lo hi = some ys) : okLen xs.length = true /\ ∃ a b, bnd lo 0 = some a /\ bnd hi xs.length = some b /\ ys = (xs.take b).drop a := by
 obtain ⟨n, hn, h⟩ := c0 h
 obtain ⟨hz, rfl⟩ := i5 hn
 obtain ⟨a, ha, h⟩ := c0 h
 obtain ⟨b, hb, rfl⟩ := m3 h
 exact ⟨hz, a, b, ha, hb, rfl⟩
theorem aM (S : Sim cx st W) (hv : Rep W v d) (h2 : RepO W v2 lo) (h3 : RepO W v3 hi) (h : P4 d lo hi = some g) (H : Post cx b cb (RepL cx) W T E (.ok [g] st)) :
  d9 cx (subscriptTail value (.Slice l r none pos') v (.ref W.h.objs.size)) (fun v s => T [v] s) E { (sh cx.T W tk) with heap := W.h.push { cls := .type "slice", data := .fields #[v2, v3, .none] } } := by
 have hsl : ∀ o i, subscripted (.Slice l r none pos') false o i = operate [i, o] (getItem o i) := fun _ _ => rfl
 obtain ⟨l1, S1, z1⟩ := S.new (b := b) (cb := cb) (o := { cls := .type "slice", data := .fields #[v2, v3, .none] }) .junk rfl rfl
 have H1 := H.to l1
 have hobj : (W.h.push { cls := .type "slice", data := .fields #[v2, v3, .none] }).get? W.h.objs.size = some { cls := .type "slice", data := .fields #[v2, v3, .none] } := Heap.get?_push_size _ rfl
 have hv := hv.mono z1
 generalize hW : (⟨W.t.put W.h.objs.size .junk, W.h.push { cls := .type "slice", data := .fields #[v2, v3, .none] }⟩ : Ws) = W1 at S1 H1 hv
 have hh : W1.h = W.h.push { cls := .type "slice", data := .fields #[v2, v3, .none] } := by rw [<- hW]
 rw [<- hh] at hobj
 show wpAny _ _ _ _ _ (sh cx.T ⟨W1.t, W.h.push _⟩ tk)
 rw [<- hh]
 show wpAny _ _ _ _ _ (sh cx.T W1 tk)
 rcases v7 h with h | h
 . obtain ⟨xs, hx, h⟩ := c0 h
   obtain ⟨_, hlo, h⟩ := c0 h
   obtain ⟨e, he, h⟩ := c0 h
   obtain ⟨i, hi', h⟩ := c0 h
   obtain ⟨hq, rfl⟩ := i5 h
   obtain ⟨hz, hi1⟩ := and2 hq
   obtain ⟨h0, h1⟩ := k6 hi1
   cases show lo = none from Option.isNone_iff_eq_none.mp (i5 hlo).1
   cases he
   cases show v2 = .none from h2
   obtain ⟨u, rfl⟩ := Rep.ii hi' h3
   obtain ⟨ta, vs, rfl, ht, _, hr⟩ := hv.tt hx
   obtain ⟨k, rfl⟩ : ∃ k : Nat, i = k := ⟨i.toNat, (Int.toNat_of_nonneg h0).symm⟩
   exact tail_any (s := sh cx.T W1 tk) ht.typeIs slot_tuple_getitem.lookup (x6O ht ⟨_, hobj, rfl, rfl⟩ (by rw [hr.size]; lia) (cO H1 S1 (hr.take k)) (by rw [hr.size]; exact o9 hz)) (hsl _ _)
 rcases v7 h with h | h
 . obtain ⟨q, hq, h⟩ := c0 h
   obtain ⟨ys, hy, rfl⟩ := m3 h
   obtain ⟨t, rfl⟩ := hv.ss hq
   obtain ⟨hz, a, b', ha, hb, rfl⟩ := lC hy
   obtain ⟨q1, rfl, hq1⟩ := h2.part ha
   obtain ⟨q2, rfl, hq2⟩ := h3.part hb
   have hp := xH q (l := q1) (u := q2) (a := a) (b := b') ⟨hq1, hq2⟩
   refine tail_any (typeIs_str _ _ _) slot_str_getitem.lookup (wpAny_getItem_str_slice (l := q1) (u := q2) (st := none) ⟨_, hobj, rfl, rfl⟩ rfl ?_) (hsl _ _)
   have hlen : (((cs q).take b').drop a).length <= (cs q).length := by rw [List.length_drop, List.length_take]; lia
   unfold sliceMade
   split
   . rename_i hw
     simp only [Option.map_none, Option.getD_none, beq_self_eq_true, Bool.true_and, beq_iff_eq] at hw
     rw [hp.2, x1] at hw
     have hsub : (((cs q).take b').drop a).Sublist (cs q) := (List.drop_sublist _ _).trans (List.take_sublist _ _)
     rw [hsub.eq_of_length hw, D8] at H1
     exact n7 H1 S1 .str
   . refine ⟨?_, ?_⟩
     . show (((slicePicked q q1 q2 none).filterMap (q.cps[·]?)).toArray).size <= sizeLine
       rw [hp.1, List.size_toArray]; exact nlt hlen (o9 hz)
     . rw [hp.1]; exact n7 H1 S1 .str
 . obtain ⟨xs, hx, h⟩ := c0 h
   obtain ⟨ys, hy, rfl⟩ := m3 h
   obtain ⟨la, vs, rfl, hl, _, hr⟩ := hv.ll hx
   obtain ⟨hz, a, b', ha, hb, rfl⟩ := lC hy
   obtain ⟨q1, rfl, hq1⟩ := h2.part ha
   obtain ⟨q2, rfl, hq2⟩ := h3.part hb
   have hp := x0q vs (lo := q1.map (·.1)) (hi := q2.map (·.1)) (a := a) (b := b') ⟨hq1, by rw [hr.size]; exact hq2⟩
   exact tail_any (s := sh cx.T W1 tk) hl.typeIs slot_list_getitem.lookup (wpAny_getItem_list_slice hl ⟨_, hobj, rfl, rfl⟩ (qT q1) (qT q2) .none (by intro e; cases e) (V0 H1 S1 (by rw [hp]; exact (hr.take b').drop a)) (by rw [hr.size]; exact o9 hz)) (hsl _ _)
end
section
variable {cx : Cx} {cb : Bool} {T : List Value -> Shared -> Prop} {Q : VP} {E : VP} {st : St} {W : Ws} {b tk : Nat} {d e : PyData} {v u : Value} {g : F} {n : Nat} {vs : Array Value} {xs : List PyData} {a : Addr}
theorem pD (hl : W.h.IsList a vs) (hr : RepAll W vs.toList xs) (h : lenL xs = some n) (hq : ∀ t tk, Q (.int n t) (sh cx.T W tk)) : d9 cx (call (.builtin "len") [.ref a]) Q E (sh cx.T W tk) := by
 obtain ⟨hz, rfl⟩ := i5 h
 have := o9 hz; rw [sizeLine_eq] at this
 refine len_list (s := sh cx.T W tk) hl (by rw [hr.size]; lia) ?_
 rw [hr.size]; exact hq _ _
theorem wO (hv : Rep W v d) (h : pB d = some n) (hq : ∀ t tk, Q (.int n t) (sh cx.T W tk)) : d9 cx (call (.builtin "len") [v]) Q E (sh cx.T W tk) := by
 rcases v7 h with h | h
 . rcases v7 h with h | h
   . obtain ⟨q, hx, h⟩ := c0 h
     obtain ⟨_, rfl⟩ := hv.ss hx
     obtain ⟨hz, rfl⟩ := i5 h
     have := o9 hz; rw [sizeLine_eq] at this
     refine len_str (by rw [x1]; lia) ?_
     rw [x1]; exact hq _ _
   . obtain ⟨q, hx, h⟩ := c0 h
     obtain ⟨l, vs, rfl, hl, _, hr⟩ := hv.ll hx
     exact pD hl hr h hq
 . obtain ⟨q, hx, h⟩ := c0 h
   obtain ⟨l, vs, rfl, hl, _, hr⟩ := hv.tt hx
   obtain ⟨hz, rfl⟩ := i5 h
   have := o9 hz; rw [sizeLine_eq] at this
   refine len_tuple (s := sh cx.T W tk) hl (by rw [hr.size]; lia) ?_
   rw [hr.size]; exact hq _ _
theorem x3r (S : Sim cx st W) (hv : Rep W v d) (h : uC d = some g) (H : Post cx b cb (RepL cx) W T E (.ok [g] st)) : d9 cx (call (.builtin "ord") [v]) (fun r s => T [r] s) E (sh cx.T W tk) := by
 obtain ⟨q, hx, h⟩ := c0 h
 obtain ⟨_, rfl⟩ := hv.ss hx
 obtain ⟨c, hc, rfl⟩ := m3 h
 have hc := n0 hc
 refine ord_of_one (by rw [x1, hc]; rfl) ?_
 have hq : q = Mine.Internal.S [c] := by rw [<- hc, D8]
 subst hq
 exact n7 H S .int
theorem x4r (S : Sim cx st W) (hv : Rep W v d) (h : sH d = some g) (H : Post cx b cb (RepL cx) W T E (.ok [g] st)) : d9 cx (call (.builtin "abs") [v]) (fun r s => T [r] s) E (sh cx.T W tk) := by
 obtain ⟨i, hi, rfl⟩ := m3 h
 obtain ⟨_, rfl⟩ := hv.ii hi
 refine call_abs_int fun u tk => ?_
 have hi : (if i < 0 then -i else i) = (i.natAbs : Int) := by split <;> lia
 rw [hi]
 exact n7 H S .int
theorem x3A (S : Sim cx st W) (hv : Rep W v d) (h : mZ d = some g) (H : Post cx b cb (RepL cx) W T E (.ok [g] st)) : d9 cx (call (.type "int") [v]) (fun r s => T [r] s) E (sh cx.T W tk) := by
 obtain ⟨i, hi, rfl⟩ := m3 h
 cases mA hi
 cases hv.inv
 exact call_int_bool (n7 H S .int)
theorem ints_of {W : Ws} {is : List Int} {vs : List Value} {xs : List PyData} (r : RepAll W vs xs) (h : intsF xs = some is) : xs.length = is.length /\ ∀ (i : Nat) (v : Value), vs[i]? = some v -> ∃ t, v = .int (is.getD i 0) t := by
 induction xs generalizing vs is with
 | nil => cases h; cases r.inv0; exact ⟨rfl, fun i v e => nomatch e⟩
 | cons d xs ih =>
  obtain ⟨i, hi, h⟩ := c0 h
  obtain ⟨l, hl, rfl⟩ := m3 h
  obtain ⟨v, vs', rfl, r1, r2⟩ := r.inv
  obtain ⟨t, rfl⟩ := r1.ii hi
  obtain ⟨h1, h2⟩ := ih r2 hl
  refine ⟨congrArg (· + 1) h1, fun j u e => ?_⟩
  cases j with
  | zero => cases e; exact ⟨t, rfl⟩
  | succ j => exact h2 j u e
theorem Sim.grow {h' : Heap} (S : Sim cx st W) (he : ∀ b o, W.get b = some o -> h'.get? b = some o) : Le cx.d b cb W ⟨W.t, h'⟩ /\ Sim cx st ⟨W.t, h'⟩ := by
 have g := B7 W.h (Nat.le_refl W.h.objs.size)
 have q := S.ok.dead _ g
 have B : But W.h.objs.size W ⟨W.t, h'⟩ := .keep fun b o _ e => he b o e
 have ni : NI ⟨W.t, h'⟩ W.h.objs.size := R8 (by rw [show Ws.t _ _ = _ from q]; rfl)
 exact ⟨B.le (.dead g) ni, S.but B (by rw [q]; rfl) (by rw [q]; rfl) (fun i => by rw [q]; intro e; cases e) (fun _ => q) ni⟩
theorem x0h (hn : cx.A.handled = none) (S : Sim cx st W) (hv : Rep W v d) (h : kX d = some g) (H : Post cx b cb (RepL cx) W T E (.ok [g] st)) : d9 cx (call (.builtin "sum") [v]) (fun r s => T [r] s) E (sh cx.T W tk) := by
 obtain ⟨xs, hx, h⟩ := c0 h
 obtain ⟨is, hi, h⟩ := c0 h
 obtain ⟨hz, rfl⟩ := i5 h
 obtain ⟨a, vs, rfl, hl, _, hr⟩ := hv.ll hx
 obtain ⟨h1, h2⟩ := ints_of hr hi
 refine x3d (s := sh cx.T W tk) hn hl (hr.size.trans h1) (fun i v e => h2 i v (by rw [Array.getElem?_toList]; exact e)) (k6 (and2 hz).1) (fun x hx => List.all_eq_true.mp (and2 hz).2 x hx) fun h' tk' t hk => ?_
 obtain ⟨l2, S2⟩ := S.grow (b := b) (cb := cb) hk
 exact z6 (W' := ⟨W.t, h'⟩) H l2 S2 Rep.int
theorem RepAll.reverse {W : Ws} {vs : List Value} {xs : List PyData} (r : RepAll W vs xs) : RepAll W vs.reverse xs.reverse := by
 induction xs generalizing vs with
 | nil => rw [r.inv0]; exact .nil
 | cons d xs ih =>
  obtain ⟨v, vs', rfl, r1, r2⟩ := r.inv
  rw [List.reverse_cons, List.reverse_cons]
  exact (ih r2).append (.cons r1 .nil)
theorem x1g {value : Expr} {l : Expr} {pos' : Pos} {t : Tok} (S : Sim cx st W) (hv : Rep W v d) (h : vY d = some g) (H : Post cx b cb (RepL cx) W T E (.ok [g] st)) :
  d9 cx (subscriptTail value (.Slice none none (some l) pos') v (.ref W.h.objs.size)) (fun v s => T [v] s) E { (sh cx.T W tk) with heap := W.h.push { cls := .type "slice", data := .fields #[.none, .none, .int (-1) t] } } := by
 obtain ⟨xs, hx, h⟩ := c0 h
 obtain ⟨hz, rfl⟩ := i5 h
 obtain ⟨l1, S1, z1⟩ := S.new (b := b) (cb := cb) (o := { cls := .type "slice", data := .fields #[.none, .none, .int (-1) t] }) .junk rfl rfl
 obtain ⟨la, vs, rfl, hl, _, hr⟩ := (hv.mono z1).ll hx
 exact tail_any (s := sh cx.T ⟨W.t.put W.h.objs.size .junk, W.h.push { cls := .type "slice", data := .fields #[.none, .none, .int (-1) t] }⟩ tk) (ops := [.ref la, .ref W.h.objs.size]) hl.typeIs slot_list_getitem.lookup (wpAny_getItem_list_slice hl ⟨_, Heap.get?_push_size _ rfl, rfl, rfl⟩ .none .none (.int (-1) t) (by intro e; cases e) (V0 (H.to l1) S1 (by rw [x1x]; exact hr.reverse)) (by rw [hr.size]; exact o9 hz)) rfl
theorem mF (S : Sim cx st W) (hl : W.h.IsList a vs) (hr : RepAll W vs.toList xs) (hz : okLen xs.length = true) (H : Post cx b cb (RepL cx) W T E (.ok [.own xs] st)) : d9 cx (call (.type "list") [.ref a]) (fun r s => T [r] s) E (sh cx.T W tk) := by
 obtain ⟨o, ho, hc, n, hd⟩ := hl
 refine call_list_seq (s := sh cx.T W tk) a (.inl rfl) ho hc hd (fun h' c' hk hD => ?_) (by rw [hr.size]; exact o9 hz)
 have g := B7 W.h (Nat.le_refl W.h.objs.size)
 have q := S.ok.dead _ g
 have B : But W.h.objs.size W ⟨W.t.put W.h.objs.size (.own cx.d 0), h'⟩ := .same (fun b o _ e => hk b o e) _
 exact z6 (W' := ⟨W.t.put W.h.objs.size (.own cx.d 0), h'⟩) H (B.le (.dead g) (o7 rfl)) (S.but B (by rw [q]; rfl) (by rw [q]; rfl) (fun i => by rw [q]; intro e; cases e) (fun e => nomatch hD.symm.trans e) (o7 rfl)) ⟨_, vs, rfl, ⟨c', hD⟩, Tags.put_self .., hr.mono (B.fz (by rw [q]; intro e; cases e))⟩
noncomputable def sK : Ty -> String
 | .str => "str"
 | .int => "int"
 | .bool => "bool"
 | .list => "list"
 | .tuple => "tuple"
theorem x3k {t : Ty} (hd : (d.ctorIdx != 6) = true) (hv : Rep W v d) (hok : ∀ tk, Q (.bool (lA d t)) (sh cx.T W tk)) : d9 cx (call (.builtin "isinstance") [v, .type (sK t)]) Q E (sh cx.T W tk) := by
 obtain ⟨as, r⟩ := hv.reads
 cases r with
 | none => cases t <;> first | exact IsiPair.NoneType_str (hok _) | exact IsiPair.NoneType_int (hok _) | exact IsiPair.NoneType_bool (hok _) | exact IsiPair.NoneType_list (hok _) | exact IsiPair.NoneType_tuple (hok _)
 | bool b => cases t <;> first | exact IsiPair.bool_str (hok _) | exact IsiPair.bool_int (hok tk) | exact IsiPair.bool_bool (hok tk) | exact IsiPair.bool_list (hok _) | exact IsiPair.bool_tuple (hok _)
 | int i u => cases t <;> first | exact IsiPair.int_str (hok _) | exact IsiPair.int_int (hok tk) | exact IsiPair.int_bool (hok _) | exact IsiPair.int_list (hok _) | exact IsiPair.int_tuple (hok _)
 | str x u => cases t <;> first | exact IsiPair.str_str (hok tk) | exact IsiPair.str_int (hok _) | exact IsiPair.str_bool (hok _) | exact IsiPair.str_list (hok _) | exact IsiPair.str_tuple (hok _)
 | list e' c d r => cases t <;> first | exact IsiPair.list_str e' c (hok _) | exact IsiPair.list_int e' c (hok _) | exact IsiPair.list_bool e' c (hok _) | exact IsiPair.list_list e' c (hok tk) | exact IsiPair.list_tuple e' c (hok _)
 | tuple e' c d r => cases t <;> first | exact IsiPair.tuple_str e' c (hok _) | exact IsiPair.tuple_int e' c (hok _) | exact IsiPair.tuple_bool e' c (hok _) | exact IsiPair.tuple_list e' c (hok _) | exact IsiPair.tuple_tuple e' c (hok tk)
 | dict => cases hd
end
theorem fM {v : Expr} {name : Str} {env : Env} (h : Y2 v = true) : attributeBase v name env (eval v env) = eval v env := by
 cases v <;> first | rfl | cases h
theorem x2Z (x : Str) (c : Nat) : Txt.find x (S [c]) = B1 (cs x) c := by
 unfold B1
 have hone : ∀ i, (StrLaws.At x (S [c]) x.length i) ↔ (cs x)[i]? = some c := fun i => StrLaws.subAt_one x c i
 unfold Txt.find
 rcases StrLaws.occ_head x (S [c]) 1 (Nat.le_refl _) with ⟨e, hn⟩ | ⟨i, r, e, hi, hn⟩
 . rw [e]
   have : (cs x).findIdx? (· == c) = none := by
    rw [List.findIdx?_eq_none_iff]
    intro y hy
    obtain ⟨j, hj, rfl⟩ := List.mem_iff_getElem.mp hy
    have := hn j
    rw [hone] at this
    simp only [beq_eq_false_iff_ne, ne_eq]
    intro q
    exact this (by rw [geg hj, q])
   rw [this]
 . rw [e]
   have h1 := (hone i).mp hi
   have hlt : i < (cs x).length := (n5 h1).1
   have : (cs x).findIdx? (· == c) = some i := by
    rw [List.findIdx?_eq_some_iff_getElem]
    refine ⟨hlt, ?_, fun j hj => ?_⟩
    . have := (n5 h1).2
      simp [this]
    . have h2 := hn j hj
      rw [hone] at h2
      simp only [Bool.not_eq_true, beq_eq_false_iff_ne, ne_eq]
      intro q
      exact h2 (by rw [geg (by lia), q])
   rw [this]
noncomputable def O3 : LL -> List Nat
 | [] => []
 | [x] => x
 | x :: y :: r => x ++ 10 :: O3 (y :: r)
theorem x3i {x : List Nat} : O3 [x] = x := rfl
theorem oG {x y : List Nat} {r : LL} : O3 (x :: y :: r) = x ++ 10 :: O3 (y :: r) := rfl
theorem nN : ∀ (p : List Nat), 10 ∉ p -> splitNL p = [p]
 | [], _ => rfl
 | c :: r, h => by
  have hc : c ≠ 10 := fun e => h (by simp [e])
  have hr : 10 ∉ r := fun e => h (by simp [e])
  rw [V5, if_neg hc, nN r hr]
theorem nZ : ∀ (p q : List Nat), 10 ∉ p -> splitNL (p ++ 10 :: q) = p :: splitNL q
 | [], q, _ => rfl
 | c :: r, q, h => by
  have hc : c ≠ 10 := fun e => h (by simp [e])
  have hr : 10 ∉ r := fun e => h (by simp [e])
  rw [List.cons_append, V5, if_neg hc, nZ r q hr]
theorem lF : ∀ (ps : LL), ps ≠ [] -> (∀ p ∈ ps, 10 ∉ p) -> splitNL (O3 ps) = ps
 | [], h, _ => absurd rfl h
 | [x], _, h => by rw [x3i, nN x (h x (by simp))]
 | x :: y :: r, _, h => by
  rw [oG, nZ x _ (h x (by simp)), lF (y :: r) (by simp) fun p hp => h p (by simp [hp])]
theorem nS : ∀ (l : List Nat), (splitNL l).length <= l.length + 1
 | [] => by simp [rG]
 | c :: r => by
  have ih := nS r
  rw [V5]
  split
  . simp; lia
  . split
    . rename_i e; rw [e] at ih; simp at ih ⊢; lia
    . simp
theorem kF : ∀ (ps : List Str), cs (Str.join (S [10]) ps) = O3 (ps.map cs)
 | [] => rfl
 | [x] => rfl
 | x :: y :: r => by
  show cs (x ++ S [10] ++ Str.join (S [10]) (y :: r)) = _
  rw [fC, O5, fC, O5, kF (y :: r)]
  simp [oG, O5]
theorem pK (x : Str) : (Txt.split x (S [10])).map cs = splitNL (cs x) := by
 have h1 := StrLaws.join_split x (S [10])
 have h2 := StrLaws.split_free x 10
 have hne : Txt.split x (S [10]) ≠ [] := by
  unfold Txt.split
  split
  . simp
  . split
    . simp
    . unfold Builtin.Str.partsBetween
      simp
 have h3 := kF (Txt.split x (S [10]))
 rw [h1] at h3
 rw [h3, lF]
 . simpa using hne
 . intro p hp
   obtain ⟨q, hq, rfl⟩ := List.mem_map.mp hp
   exact h2 q hq
theorem yO (l : List Str) : cs (Builtin.Str.glued (S []) l) = (l.map cs).flatten := by
 unfold Builtin.Str.glued
 have key : ∀ (r : List Str) (a : Array Nat), (r.foldl (fun acc p => acc ++ (S []).cps ++ p.cps) a).toList = a.toList ++ (r.map cs).flatten := by
  intro r
  induction r with
  | nil => intro a; simp
  | cons p r ih =>
   intro a
   rw [List.foldl_cons, ih]
   simp [S, cs]
 cases l with
 | nil => rfl
 | cons p r =>
  refine (key r p.cps).trans ?_
  simp [cs]
theorem x6P (l : List Str) (n : Nat) : l.foldl (fun a p => a + p.length + (S []).length) n = n + (l.map cs).flatten.length := by
 induction l generalizing n with
 | nil => simp
 | cons p r ih =>
  rw [List.foldl_cons, ih, x1 p]
  simp [S, Str.length]; lia
theorem xO {prog : Program} {w : World} {A : Around} {E : VP} {s : Shared} {x : Str} {t u : Tok} {pos : Pos} {k : Nat} {kp : Pos} {env : Env} {y : Str} {Q : VP} (hy : y = S [10]) (hx : x.length + 1 <= sizeLine)
  (h : ∀ (l : List (Str × Tok)) n tk, l.map (·.1) = Txt.split x (S [10]) -> Q (.ref s.heap.objs.size) { s with toks := tk, heap := s.heap.push { cls := .type "list", data := .seq (strValues l).toArray n } }) :
  MethodOnS prog w A E "split" (.str x t) pos [(false, eval (.Constant (.str y) k kp) env)] Q s := by
 subst hy
 refine ⟨"str", _, PySem.F.plainAttrs_str, PySem.F.slot_str_split, PySem.F.type_str_split, typeIs_str _ _ _, (fun _ e => nomatch e),
  method1_meets PySem.F.slot_str_split PySem.F.entry_str_split (wpAny_Constant_str ?_)⟩
 refine ⟨typeIs_str _ _ _, PySem.F.args_str_split_2 _ _, ?_⟩
 have hlen : ((S [10]).length == 0) = false := by decide
 cases h1 : (decide (x.length < (S [10]).length) || decide (Builtin.Str.strKind x < Builtin.Str.strKind (S [10])))
 . cases hf : (Builtin.Str.occurrences x (S [10]) 0 x.length (x.length + 1)).isEmpty
   . have hsp : Txt.split x (S [10]) = Builtin.Str.partsBetween x (Builtin.Str.occurrences x (S [10]) 0 x.length (x.length + 1)) (S [10]).length := (if_neg (ne_true_of_eq_false h1)).trans (if_neg (ne_true_of_eq_false hf))
     have hcount : (Builtin.Str.partsBetween x (Builtin.Str.occurrences x (S [10]) 0 x.length (x.length + 1)) (S [10]).length).length <= sizeLine := by
      rw [<- hsp, <- i7 (f := cs), pK]
      have := nS (cs x)
      rw [x1] at hx; lia
     refine ⟨_, meets_str_split_sep x _ t _ h1 hlen hf (by lia) hcount, ?_⟩
     show wants Q E _ { s with toks := _, heap := s.heap.push { cls := .type "list", data := .seq (strsFrom _ (Builtin.Str.partsBetween x (Builtin.Str.occurrences x (S [10]) 0 x.length (x.length + 1)) (S [10]).length)).toArray } }
     rw [strsFrom_eq]
     exact h _ _ _ ((numbered_texts _ _).trans ((if_neg (ne_true_of_eq_false h1)).trans (if_neg (ne_true_of_eq_false hf))).symm)
   . exact ⟨_, meets_str_split_not_found x _ t _ h1 hlen hf, h [(x, t)] _ _ ((if_neg (ne_true_of_eq_false h1)).trans (if_pos hf)).symm⟩
 . exact ⟨_, meets_str_split_cannot_occur x _ t _ h1, h [(x, t)] _ _ (if_pos h1).symm⟩
theorem N6 {e : Expr} {rest : List Expr} {env : Env} (h : m7 e = true) : starEach (e :: rest) env = (false, eval e env) :: starEach rest env := by
 cases e <;> first | rfl | cases h
section
variable {cx : Cx} {cb : Bool} {T : List Value -> Shared -> Prop} {E : VP} {st : St} {W : Ws} {b tk : Nat} {d e : PyData} {v u : Value} {g : F} {pos : Pos} {s : Shared}
theorem x6M (l : List (Str × Tok)) : RepAll W (strValues l) (l.map fun p => .str p.1) := by
 induction l with
 | nil => exact .nil
 | cons p r ih => exact .cons .str ih
theorem x0w {vs : List Value} {xs : List PyData} {ls : LL} (r : RepAll W vs xs) (h : strsF xs = some ls) : ∃ l : List (Str × Tok), vs = strValues l /\ l.map (fun p => cs p.1) = ls := by
 induction xs generalizing vs ls with
 | nil => cases h; exact ⟨[], r.inv0, rfl⟩
 | cons d xs ih =>
  obtain ⟨v, vs', rfl, r1, r2⟩ := r.inv
  obtain ⟨x, hx, h⟩ := c0 h
  obtain ⟨l, hl, rfl⟩ := m3 h
  obtain ⟨t, rfl⟩ := r1.ss hx
  obtain ⟨q, rfl, rfl⟩ := ih r2 hl
  exact ⟨(x, t) :: q, rfl, rfl⟩
theorem x2t {yy : Str} {k : Nat} {kp : Pos} {env : Env} (hy : T9 (.str (S [10])) (.str yy) = true) (S : Sim cx st W) (hv : Rep W v d) (h : splitF d = some g) (H : Post cx b cb (RepL cx) W T E (.ok [g] st)) :
  MethodOnS cx.T.prog cx.T.w cx.A E "split" v pos [(false, eval (.Constant (.str yy) k kp) env)] (fun r s => T [r] s) (sh cx.T W tk) := by
 obtain ⟨q, hq, h⟩ := c0 h
 obtain ⟨_, rfl⟩ := hv.ss hq
 obtain ⟨hz, rfl⟩ := i5 h
 refine xO (u := 0) (by injection eq_of_beq hy) (by rw [x1]; exact o9 hz) fun l n tk' hl => ?_
 have hx : (splitNL (cs q)).map (fun l => PyData.str (Mine.Internal.S l)) = l.map fun p => .str p.1 := by
  rw [<- pK, <- hl, List.map_map, List.map_map]; rfl
 rw [hx] at H
 exact V0 (tk := tk') H S (x6M l)
theorem x3m (hv : Rep W v d) {x : Sem Value} (hs : ∀ q, asS d = some q -> d9 cx x (fun u s => ∃ W tk e g st, s = sh cx.T W tk /\ Sim cx st W /\ Rep W u e /\ fR d e = some g /\ Post cx b cb (RepL cx) W T E (.ok [g] st)) E (sh cx.T W tk)) (hd : (asS d).isSome = true) :
  MethodOnS cx.T.prog cx.T.w cx.A E "find" v pos [(false, x)] (fun r s => T [r] s) (sh cx.T W tk) := by
 obtain ⟨q, hq⟩ := K6 hd
 obtain ⟨_, rfl⟩ := hv.ss hq
 refine SB.find (wpAny_mono (hs q hq) (fun u s h => ?_) fun _ _ x => x)
 obtain ⟨W, tk, e, g, st, rfl, S, hu, h, H⟩ := h
 obtain ⟨q', t, hq', ht, h⟩ := A1 h
 cases hq.symm.trans hq'
 obtain ⟨_, rfl⟩ := hu.ss ht
 obtain ⟨c, hc, h⟩ := c0 h
 obtain ⟨_, rfl⟩ := i5 h
 refine ⟨t, _, rfl, ?_⟩
 have ht : t = Mine.Internal.S [c] := by rw [<- n0 hc, D8]
 rw [ht, x2Z]
 exact n7 H S .int
theorem x2e (hv : Rep W v d) {x : Sem Value} (hs : ∀ q, asS d = some q -> d9 cx x (fun u s => ∃ W tk e g st, s = sh cx.T W tk /\ Sim cx st W /\ Rep W u e /\ dO d e = some g /\ Post cx b cb (RepL cx) W T E (.ok [g] st)) E (sh cx.T W tk)) (hd : (asS d).isSome = true) :
  MethodOnS cx.T.prog cx.T.w cx.A E "join" v pos [(false, x)] (fun r s => T [r] s) (sh cx.T W tk) := by
 obtain ⟨q, hq⟩ := K6 hd
 obtain ⟨_, rfl⟩ := hv.ss hq
 refine SB.join (wpAny_mono (hs q hq) (fun u s h => ?_) fun _ _ x => x)
 obtain ⟨W, tk, e, g, st, rfl, S, hu, h, H⟩ := h
 obtain ⟨q', hq', h⟩ := c0 h
 cases hq.symm.trans hq'
 obtain ⟨xs, hx, h⟩ := c0 h
 obtain ⟨ls, hls, h⟩ := c0 h
 obtain ⟨hz, rfl⟩ := i5 h
 obtain ⟨hz1, hz⟩ := and2 hz
 obtain ⟨la, vs, rfl, hl, _, hr⟩ := hu.ll hx
 obtain ⟨l, hv, hl2⟩ := x0w hr hls
 have hvs : vs = (strValues l).toArray := by rw [<- hv]
 have hq' : q = Mine.Internal.S [] := by rw [<- u7 hz1, D8]
 have e2 : (List.map (cs ∘ fun x => x.fst) l) = ls := hl2
 refine ⟨la, l, rfl, hvs ▸ hl, l.map (·.1), rfl, ?_, fun t' k => ?_⟩
 . unfold JoinOk Builtin.Str.tooLong
   rw [List.foldl_toArray', hq', x6P]
   simp only [Nat.zero_add, List.map_map]
   rw [e2]
   simp only [gt_iff_lt, Bool.not_eq_true', decide_eq_false_iff_not, Nat.not_lt]
   exact o9 hz
   rfl
 . have hj : Txt.join q (l.map (·.1)) = Mine.Internal.S ls.flatten := by
    unfold Txt.join
    rw [hq', <- D8 (Builtin.Str.glued _ _), yO, List.map_map, e2]
   rw [hj]
   exact n7 H S .str
end
section
variable {cx : Cx} {cb : Bool} {T : List Value -> Shared -> Prop} {Q : VP} {E : VP} {st : St} {W : Ws} {tk : Nat} {d : PyData} {v u fv : Value} {g : F} {pos : Pos} {s : Shared} {e : Expr} {es : List Expr} {z y : Str} {o : Op} {c : CE}
theorem X7 (hp : es.all m7 = true) (h : seqW cx E es T s) : d9 cx (spliced (backTo pos (starEach es cx.env))) T E s := by
 induction es generalizing T s with
 | nil => exact spliced_nil h
 | cons e es ih =>
  obtain ⟨h1, h2⟩ := and2 hp
  rw [N6 h1]
  exact spliced_cons (wpAny_mono h (fun v s' h' => ih h2 h') fun _ _ x => x)
theorem gK (hp : es.all m7 = true) : (backTo pos (starEach es cx.env)).any (·.1) = false := by
 induction es with
 | nil => rfl
 | cons e es ih =>
  obtain ⟨h1, h2⟩ := and2 hp
  rw [N6 h1]
  exact ih h2
theorem pO (hp : es.all m7 = true) (h0 : es.isEmpty = false) : ∃ x r, backTo pos (starEach es cx.env) = (false, x) :: r := by
 cases es with
 | nil => cases h0
 | cons e es => rw [N6 (and2 hp).1]; exact ⟨_, _, rfl⟩
theorem bK {kd : Kd} (h : s8 kd y e = some es) : ∃ f pf p, e = .Call (.Name f pf) es [] p /\ v5 kd f y = true /\ es.all m7 = true /\ es.isEmpty = false := by
 obtain ⟨v, h1, h⟩ := c0 h
 obtain ⟨f, h2, h⟩ := c0 h
 obtain ⟨h3, rfl⟩ := i5 h
 obtain ⟨h3, h4⟩ := and2 h3
 obtain ⟨h3, h5⟩ := and2 h3
 obtain ⟨h3, h6⟩ := and2 h3
 obtain ⟨pf, h2⟩ := v9 h2
 have h1 := jA h1
 rw [h2, u7 h3] at h1
 exact ⟨f, pf, _, h1, h6, h5, by simpa using h4⟩
theorem J4 {r : Expr} (h : C3 y e = some (r, es)) : ∃ ap p, e = .Call (.Attribute r y ap) es [] p /\ (ap.endLine == p.line) = true /\ es.all m7 = true := by
 obtain ⟨v, h1, h⟩ := c0 h
 obtain ⟨w, h2, h⟩ := c0 h
 obtain ⟨h3, h⟩ := i5 h
 obtain ⟨h3, h4⟩ := and2 h3
 obtain ⟨h3, h5⟩ := and2 h3
 obtain ⟨h3, h6⟩ := and2 h3
 cases h
 have h1 := jA h1
 rw [cI h2, u7 h3, eq_of_beq h6] at h1
 exact ⟨_, _, h1, h5, h4⟩
theorem S9 (TO : cx.T.Ok) (C : cx.Ok cb) (S : Sim cx st W) (hp : s8 cx.env.scope.names y e = some es) (hb : biTab.lookup y = some fv) (hfv : (∃ id, fv = .builtin id) \/ ∃ T, fv = .type T)
  (h : seqW cx E es (fun vs s => d9 cx (call fv vs) Q E s) (sh cx.T W tk)) : d9 cx (eval e cx.env) Q E (sh cx.T W tk) := by
 obtain ⟨f, pf, p, rfl, hg, hx, h0⟩ := bK hp
 refine Call_Name rfl (nX TO C S hg hb ?_)
 have h1 := X7 (pos := p) hx h
 have h2 := gK (cx := cx) (pos := p) hx
 obtain ⟨x, r, h3⟩ := pO (cx := cx) (pos := p) hx h0
 rw [h3] at h1 h2 ⊢
 rcases hfv with ⟨id, rfl⟩ | ⟨T, rfl⟩
 . exact callWith_builtin h2 (evalArgs_plain h1)
 . exact PyProof.Rows.callWith_type h2 (evalArgs_plain h1)
theorem x5Q {kd : Kd} (h : F2 kd y e = some es) : ∃ x, es = [x] /\ s8 kd y e = some es := by
 obtain ⟨l, h1, h⟩ := c0 h
 obtain ⟨h2, rfl⟩ := i5 h
 obtain ⟨x, h2⟩ := K6 h2
 exact ⟨x, n0 h2, h1⟩
theorem M7 {f : PyData -> Option F} (TO : cx.T.Ok) (C : cx.Ok cb) (S : Sim cx st W) (hp : F2 cx.env.scope.names y e = some es) (hb : biTab.lookup y = some fv) (hfv : (∃ id, fv = .builtin id) \/ ∃ T, fv = .type T) (ho : ∀ ds, I0 o ds = un f ds)
  (k : ∀ st W tk x v g, Sim cx st W -> Rep W v x -> f x = some g -> Post cx (cx.d + 1) cb (RepL cx) W T E (.ok [g] st) -> d9 cx (call fv [v]) (fun r s => T [r] s) E (sh cx.T W tk))
  (h : seqW cx E es (OpT cx cb T E o) (sh cx.T W tk)) : d9 cx (eval e cx.env) (fun v s => T [v] s) E (sh cx.T W tk) := by
 obtain ⟨x, rfl, hp⟩ := x5Q hp
 exact S9 TO C S hp hb hfv (wpAny_mono h (fun v s h' => OpT.un (K := fun v s => d9 cx (call fv [v]) (fun r s => T [r] s) E s) h' ho k) fun _ _ x => x)
theorem x4U {l u : Bool} (S : Sim cx st W) (hp : bN cx.env.scope.names (.slc l u) e = some es) (h : seqW cx E es (OpT cx cb T E (.slc l u)) (sh cx.T W tk)) : d9 cx (eval e cx.env) (fun v s => T [v] s) E (sh cx.T W tk) := by
 obtain ⟨v, h1, hp⟩ := c0 hp
 obtain ⟨w, h2, hp⟩ := c0 hp
 obtain ⟨h3, rfl⟩ := i5 hp
 obtain ⟨p, rfl⟩ := I4 h1
 obtain ⟨p', h2⟩ := pT h2
 obtain ⟨x, i⟩ := v
 obtain ⟨lo, hi, st'⟩ := w
 dsimp only at h2 h3 h ⊢
 subst h2
 obtain ⟨h3, h4⟩ := and2 h3
 obtain ⟨h3, h5⟩ := and2 h3
 cases st' with
 | some _ => cases h3
 | none =>
 have fin : ∀ {vs : List Value} {s : Shared} {v v2 v3 : Value}, OpT cx cb T E (.slc l u) vs s -> vs = v :: ((if l then [v2] else []) ++ (if u then [v3] else [])) -> (l = false -> v2 = .none) -> (u = false -> v3 = .none) ->
   d9 cx (subscriptTail x (.Slice lo hi none p') v (.ref s.heap.objs.size)) (fun v s => T [v] s) E { s with heap := s.heap.push { cls := .type "slice", data := .fields #[v2, v3, .none] } } := fun {vs s v v2 v3} h hvs hl hu => by
  obtain ⟨st, W, tk, ds, rfl, h⟩ := h
  obtain ⟨g, hg, H⟩ := y9 h.H
  have hr := h.r
  subst hvs
  cases ds with
  | nil => cases hg
  | cons d r =>
   obtain ⟨_, _, e1, r1, r2⟩ := hr.inv
   cases e1
   cases l with
   | true =>
    cases u with
    | true =>
     obtain ⟨q, hq, hg⟩ := c0 hg
     obtain ⟨_, _, e1, r3, r4⟩ := (D2 hq ▸ r2).inv
     cases e1
     obtain ⟨_, _, e1, r5, _⟩ := r4.inv
     cases e1
     exact aM h.S r1 (lo := some q.1) (hi := some q.2) r3 r5 hg H
    | false =>
     obtain ⟨q, hq, hg⟩ := c0 hg
     obtain ⟨_, _, e1, r3, r4⟩ := (n0 hq ▸ r2).inv
     cases e1
     exact aM h.S r1 (lo := some q) (hi := none) r3 (hu rfl) hg H
   | false =>
    cases u with
    | true =>
     obtain ⟨q, hq, hg⟩ := c0 hg
     obtain ⟨_, _, e1, r3, r4⟩ := (n0 hq ▸ r2).inv
     cases e1
     exact aM h.S r1 (lo := none) (hi := some q) (hl rfl) r3 hg H
    | false =>
     obtain ⟨q, hq, hg⟩ := c0 hg
     exact aM h.S r1 (lo := none) (hi := none) (hl rfl) (hu rfl) hg H
 refine Subscript_ ?_
 cases eq_of_beq h4
 cases eq_of_beq h5
 refine wpAny_mono h (fun v s1 h1 => wpAny_Slice ?_) fun _ _ x => x
 cases lo with
 | some lo =>
  refine wpAny_mono h1 (fun v2 s2 h2 => ?_) fun _ _ x => x
  cases hi with
  | some hi =>
   refine wpAny_mono h2 (fun v3 s3 h3 => ?_) fun _ _ x => x
   rw [evalPart_none]
   exact wpAny_pure (fin h3 rfl (fun q => nomatch q) fun q => nomatch q)
  | none =>
   rw [evalPart_none]
   refine wpAny_pure ?_
   exact wpAny_pure (fin (v3 := .none) h2 rfl (fun q => nomatch q) fun _ => rfl)
 | none =>
  rw [evalPart_none]
  refine wpAny_pure ?_
  cases hi with
  | some hi =>
   refine wpAny_mono h1 (fun v3 s3 h3 => ?_) fun _ _ x => x
   exact wpAny_pure (fin (v2 := .none) h3 rfl (fun _ => rfl) fun q => nomatch q)
  | none =>
   rw [evalPart_none]
   refine wpAny_pure (wpAny_pure ?_)
   exact fin (v2 := .none) (v3 := .none) h1 rfl (fun _ => rfl) fun _ => rfl
theorem x0t (hm : o = .sum -> cx.A.handled = none) (TO : cx.T.Ok) (C : cx.Ok cb) (S : Sim cx st W) (hp : bN cx.env.scope.names o e = some es) (h : seqW cx E es (OpT cx cb T E o) (sh cx.T W tk)) : d9 cx (eval e cx.env) (fun v s => T [v] s) E (sh cx.T W tk) := by
 cases o with
 | bin op =>
  obtain ⟨v, h1, hp⟩ := c0 hp
  obtain ⟨h2, rfl⟩ := i5 hp
  obtain ⟨p, rfl⟩ := x4q h1
  cases eq_of_beq h2
  exact wpAny_BinOp (wpAny_mono h (fun v s h' => wpAny_mono h' (fun u s h' => OpT.bi (K := fun v u s => d9 cx (binaryOp _ v u) (fun r s => T [r] s) E s) h' (fun _ => rfl) fun st W tk x y v u g S h1 h2 h3 H => x6K S h1 h2 h3 H) fun _ _ x => x) fun _ _ x => x)
 | neg =>
  obtain ⟨v, h1, hp⟩ := c0 hp
  obtain ⟨h2, rfl⟩ := i5 hp
  obtain ⟨p, rfl⟩ := hY h1
  rw [eq_of_beq h2]
  refine wpAny_UnaryOp (wpAny_mono h (fun v s h' => OpT.un (K := fun v s => d9 cx (unaryOp .USub v) (fun r s => T [r] s) E s) h' (fun _ => rfl) fun st W tk x v g S h1 h3 H => ?_) fun _ _ x => x)
  obtain ⟨i, hi, rfl⟩ := m3 h3
  obtain ⟨_, rfl⟩ := h1.ii hi
  exact neg_int (n7 H S .int)
 | idx =>
  obtain ⟨v, h1, hp⟩ := c0 hp
  obtain ⟨h2, rfl⟩ := i5 hp
  obtain ⟨p, rfl⟩ := I4 h1
  refine Subscript_ (wpAny_mono h (fun v' s h' => wpAny_mono h' (fun u s h' => OpT.bi (f := fun x y => (iR x y).map .val) (K := fun v' u s => d9 cx (subscriptTail v.1 v.2 v' u) (fun r s => T [r] s) E s) h' (fun _ => rfl) fun st W tk x y v' u g S h1 h3 h4 H => ?_) fun _ _ x => x) fun _ _ x => x)
  obtain ⟨x, hx, rfl⟩ := m3 h4
  exact x0x h2 h1 h3 hx fun r tk hr => n7 H S hr
 | slc l u => exact x4U S hp h
 | tup =>
  obtain ⟨v, h1, hp⟩ := c0 hp
  obtain ⟨h2, rfl⟩ := i5 hp
  obtain ⟨k, p, rfl⟩ := Y8 h1
  refine wpAny_Tuple (X7 h2 (seqW.mono (fun vs s h' => ?_) h))
  obtain ⟨st, W, tk, ds, rfl, h'⟩ := h'
  obtain ⟨g, hg, H⟩ := y9 h'.H
  obtain ⟨hz, rfl⟩ := i5 hg
  exact ⟨by rw [h'.r.length]; exact o9 hz, cO H h'.S h'.r⟩
 | lst =>
  obtain ⟨v, h1, hp⟩ := c0 hp
  obtain ⟨h2, rfl⟩ := i5 hp
  obtain ⟨p, rfl⟩ := rM h1
  refine wpAny_List (X7 h2 (seqW.mono (fun vs s h' => ?_) h))
  obtain ⟨st, W, tk, ds, rfl, h'⟩ := h'
  obtain ⟨g, hg, H⟩ := y9 h'.H
  obtain ⟨hz, rfl⟩ := i5 hg
  exact ⟨by rw [h'.r.length]; exact o9 hz, V0 H h'.S h'.r⟩
 | len =>
  refine M7 TO C S hp (by decide +kernel) (.inl ⟨"len", rfl⟩) (fun _ => rfl) (fun st W tk x v g S h1 h3 H => ?_) h
  obtain ⟨n, hn, rfl⟩ := m3 h3
  exact wO h1 hn fun t tk => n7 H S .int
 | ord => exact M7 TO C S hp (by decide +kernel) (.inl ⟨"ord", rfl⟩) (fun _ => rfl) (fun st W tk x v g S h1 h3 H => x3r S h1 h3 H) h
 | abs => exact M7 TO C S hp (by decide +kernel) (.inl ⟨"abs", rfl⟩) (fun _ => rfl) (fun st W tk x v g S h1 h3 H => x4r S h1 h3 H) h
 | toInt => exact M7 TO C S hp (by decide +kernel) (.inr ⟨"int", rfl⟩) (fun _ => rfl) (fun st W tk x v g S h1 h3 H => x3A S h1 h3 H) h
 | list =>
  refine M7 TO C S hp (by decide +kernel) (.inr ⟨"list", rfl⟩) (fun _ => rfl) (fun st W tk x v g S h1 h3 H => ?_) h
  obtain ⟨xs, hx, h3⟩ := c0 h3
  obtain ⟨hz, rfl⟩ := i5 h3
  obtain ⟨l, vs, rfl, hl, _, hr⟩ := h1.ll hx
  exact mF S hl hr hz H
 | isinst t =>
  obtain ⟨l, h1, hp⟩ := c0 hp
  obtain ⟨x, h2, hp⟩ := c0 hp
  obtain ⟨h3, rfl⟩ := i5 hp
  obtain ⟨z, h4, h3⟩ := f9 h3
  obtain ⟨pz, h4⟩ := v9 h4
  have h2 := D2 h2
  rw [h4] at h2
  subst h2
  have hT : biTab.lookup (kJ t) = some (.type (sK t)) := by cases t <;> decide +kernel
  refine S9 TO C S h1 (fv := .builtin "isinstance") (by decide +kernel) (.inl ⟨"isinstance", rfl⟩) (wpAny_mono h (fun v s h' => ?_) fun _ _ x => x)
  refine OpT.un (vs := [v]) (K := fun v s => d9 cx (eval (.Name z pz) cx.env) (fun u s => d9 cx (call (.builtin "isinstance") [v, u]) (fun r s => T [r] s) E s) E s) h' (fun _ => rfl) fun st W tk x v g S h1 h5 H => ?_
  obtain ⟨h6, rfl⟩ := i5 h5
  exact nX TO C S h3 hT (x3k h6 h1 fun tk => n7 H S .bool)
 | getOpen =>
  obtain ⟨v, h1, hp⟩ := c0 hp
  obtain ⟨h2, rfl⟩ := i5 hp
  obtain ⟨h2, h3⟩ := and2 h2
  obtain ⟨z, h4, h3⟩ := f9 h3
  obtain ⟨p, rfl⟩ := I4 h1
  obtain ⟨pz, h4⟩ := v9 h4
  rw [h4]
  obtain ⟨ad, m, hg, hsm, hm, hf⟩ := TO.opn
  refine Subscript_ (F0 TO C S h3 hg (wpAny_mono h (fun u s h' => ?_) fun _ _ x => x))
  refine OpT.un (vs := [u]) (K := fun u s => d9 cx (subscriptTail (.Name z pz) v.2 (.ref ad) u) (fun r s => T [r] s) E s) h' (fun _ => rfl) fun st W tk x v g S h1 h5 H => ?_
  obtain ⟨q, hq, h5⟩ := c0 h5
  obtain ⟨y, hy, rfl⟩ := m3 h5
  obtain ⟨t, rfl⟩ := h1.ss hq
  obtain ⟨t', ht⟩ := (hf q).1 y hy
  have hm1 := hm W.h S.keeps
  exact tail_any (s := sh cx.T W tk) hm1.typeIs slot_dict_getitem.lookup (wpAny_getItem_of (strKind_is _ _ q t) hm1 ht (n7 H S .str)) (P7 h2 _ _)
 | sum => exact M7 TO C S hp (by decide +kernel) (.inl ⟨"sum", rfl⟩) (fun _ => rfl) (fun st W tk x v g S h1 h3 H => x0h (hm rfl) S h1 h3 H) h
 | rev =>
  obtain ⟨v, h1, hp⟩ := c0 hp
  obtain ⟨w, h2, hp⟩ := c0 hp
  obtain ⟨h3, rfl⟩ := i5 hp
  obtain ⟨h3, h4⟩ := and2 h3
  obtain ⟨x, h5, h6⟩ := f9 h4
  obtain ⟨u, h7, h8⟩ := f9 h6
  obtain ⟨h8, h9⟩ := and2 h8
  obtain ⟨c, h10, h11⟩ := f9 h9
  obtain ⟨p, rfl⟩ := I4 h1
  obtain ⟨p', h12⟩ := pT h2
  obtain ⟨p2, h13⟩ := hY h7
  obtain ⟨k3, p3, h14⟩ := Y7 h10
  rw [h12, Option.isNone_iff_eq_none.mp (and2 h3).1, Option.isNone_iff_eq_none.mp (and2 h3).2, h5, h13, h14, eq_of_beq h8, show c = .int 1 from eq_of_beq h11]
  refine Subscript_ (wpAny_mono h (fun y s1 h' => wpAny_Slice ?_) fun _ _ x => x)
  rw [evalPart_none]
  refine wpAny_pure (wpAny_pure (wpAny_UnaryOp (wpAny_Constant_int (neg_int ?_))))
  obtain ⟨st, W, tk, ds, rfl, h⟩ := h'
  obtain ⟨g, hg, H⟩ := y9 h.H
  obtain ⟨d, h15, hg⟩ := c0 hg
  obtain ⟨_, _, e1, r1, _⟩ := (n0 h15 ▸ h.r).inv
  cases e1
  exact x1g h.S r1 hg H
 | splitNl => exact nos hp
 | find => exact nos hp
 | join => exact nos hp
end
noncomputable def RB (_ : Ws) (v : Bool) (b : Bool) : Prop := v = b
noncomputable def RV (_ : Ws) (v : Value) (fs : List F) : Prop := ∃ t, fs = [bV t] /\ v = .bool t
noncomputable def SB (U : Nat -> Fn) (cx : Cx) (cb : Bool) (c : CE) (e : Expr) : Prop :=
 (g8 c = true -> cb = true) -> ∀ st W, Sim cx st W -> ∀ tk T E, Post cx (cx.d + 1) cb RB W T E (toB (ev U c st)) -> d9 cx (isTrue e cx.env (eval e cx.env)) T E (sh cx.T W tk)
noncomputable def SC (U : Nat -> Fn) (cx : Cx) (cb : Bool) (c : CE) (l : Expr) (op : CmpOp) (r : Expr) : Prop :=
 (g8 c = true -> cb = true) -> ∀ st W, Sim cx st W -> ∀ tk Q E, Post cx (cx.d + 1) cb RV W Q E (ev U c st) ->
  d9 cx (eval l cx.env) (fun a s₁ => d9 cx (eval r cx.env) (fun b s₂ => d9 cx (compareOp op a b) Q E s₂) E s₁) E (sh cx.T W tk)
section
variable {U : Nat -> Fn} {cx : Cx} {cb : Bool} {T : List Value -> Shared -> Prop} {E : VP} {st : St} {W W' : Ws} {b tk : Nat} {d : PyData} {v : Value} {g : F} {pos : Pos} {e x y l r : Expr} {es : List Expr} {o : Op} {a c : CE} {op o1 o2 : CmpOp} {z : Str} {fs : List F} {vs : List Value} {ds : List PyData}
variable {α γ δ : Type} {Rl' : Ws -> γ -> δ -> Prop} {Q' : γ -> Shared -> Prop}
theorem rH {f : F} (h : valOf f = some d) : f = .val d := by
 cases f with
 | val d' => cases h; rfl
 | _ => exact nos h
theorem eF {α : Type} {as : PyData -> Option α} {f : F} {t : α} (h : (valOf f).bind as = some t) : ∃ d, f = .val d /\ as d = some t := by
 obtain ⟨d, hd, h⟩ := c0 h
 exact ⟨d, rH hd, h⟩
theorem x4o {t : Bool} (h : boolL fs = some t) : fs = [bV t] := by
 obtain ⟨f, h1, h⟩ := c0 h
 obtain ⟨d, rfl, h⟩ := eF h
 rw [n0 h1, mA h]; rfl
theorem pH {f : F} {q : Str} (h : C9 f = some q) : f = .val (.str q) := by
 obtain ⟨d, rfl, h⟩ := eF h
 rw [fJ h]
theorem wJ {t : Bool} (h : RepL cx W vs [bV t]) : vs = [.bool t] := by
 obtain ⟨v, rfl, r⟩ := h.one
 rw [show v = .bool t from Rep.inv (d := .bool t) r]
theorem Post.toB {q : R (List F)} {f : Bool -> St -> R δ} (h : Post cx b cb Rl' W Q' E ((toB q).bind f)) (k : ∀ t st W' tk, Le cx.d b cb W W' -> Sim cx st W' -> Post cx b cb Rl' W' Q' E (f t st) -> T [.bool t] (sh cx.T W' tk)) : Post cx b cb (RepL cx) W T E q := by
 cases q with
 | ok x st =>
  intro W' tk vs l S r
  replace h : Post cx b cb Rl' W Q' E ((match boolL x with | some b => R.ok b st | none => .stuck).bind f) := h
  cases hb : boolL x with
  | none => rw [hb] at h; exact h.elim
  | some t =>
   rw [hb] at h
   cases x4o hb
   cases wJ r
   exact k t st W' tk l S (Post.to l h)
 | exc j st => exact h
 | stuck => exact h
theorem V7 (h : RepL cx W vs fs) (hv : valsOf fs = some ds) : RepAll W vs ds := by
 induction fs generalizing vs ds with
 | nil =>
  cases hv
  cases vs with
  | nil => exact .nil
  | cons _ _ => exact h.elim
 | cons f fs ih =>
  cases vs with
  | nil => exact h.elim
  | cons v vs =>
   cases f with
   | val d =>
    obtain ⟨l, hl, rfl⟩ := m3 hv
    exact .cons h.1 (ih h.2 hl)
   | _ => exact nos hv
theorem x6H (hm : o = .sum -> cx.A.handled = none) (TO : cx.T.Ok) (C : cx.Ok cb) (hp : bN cx.env.scope.names o e = some es) (ha : SL U cx cb a es) : SL U cx cb (.op o a) [e] := fun hf st W S tk T E H =>
 x0t hm TO C S hp (ha hf st W S tk _ E (Post.bind' H fun x st1 W1 tk1 vs l1 S1 r1 H1 => by
  obtain ⟨g, hg, H2⟩ := y9 H1
  obtain ⟨ds, hd, hg⟩ := c0 hg
  exact ⟨st1, W1, tk1, ds, rfl, S1, V7 r1 hd, by rw [hg]; exact H2⟩))
theorem aR {e : Expr} (h : m7 e = true) (op : CmpOp) : behindInMarks op e = false := by cases e <;> first | rfl | cases h
theorem SC.sl (h : SC U cx cb c l op r) (hr : m7 r = true) : SL U cx cb c [.Compare l [op] [r] pos] := fun hf st W S tk T E H => by
 refine wpAny_Compare1 (h hf st W S tk (fun v s => T [v] s) E ?_) (aR hr op)
 cases hq : ev U c st with
 | ok x st1 =>
  rw [hq] at H
  rintro W' tk' v l S' ⟨t, rfl, rfl⟩
  exact H W' tk' _ l S' (.val .bool)
 | exc k st1 => rw [hq] at H; exact H
 | stuck => rw [hq] at H; exact H
theorem SC.sb (h : SC U cx cb c l op r) (hr : m7 r = true) : SB U cx cb c (.Compare l [op] [r] pos) := fun hf st W S tk T E H => by
 refine wpAny_isTrue_Compare1 (h hf st W S tk _ E ?_) (aR hr op)
 cases hq : ev U c st with
 | ok x st1 =>
  rw [hq] at H
  rintro W' tk' v l S' ⟨t, rfl, rfl⟩
  exact wpAny_truthy_bool (H W' tk' t l S' rfl)
 | exc k st1 => rw [hq] at H; exact H
 | stuck => rw [hq] at H; exact H
theorem nK {Q : VP} {u : Value} (C : cx.Ok cb) (S : Sim cx st W) (r : RepL cx W [v, u] fs) (H : Post cx b cb RV W Q E (G1 op fs st)) : d9 cx (compareOp op v u) Q E (sh cx.T W tk) := by
 unfold G1 at H
 cases hg : (valsOf fs).bind (bi fun x y => (cmpF op x y).map bV) with
 | none => rw [hg] at H; exact H.elim
 | some g =>
  rw [hg] at H
  obtain ⟨ds, hd, hg⟩ := c0 hg
  obtain ⟨q, hq, hg⟩ := c0 hg
  obtain ⟨t, ht, rfl⟩ := m3 hg
  obtain ⟨_, _, e1, r1, r2⟩ := (D2 hq ▸ V7 r hd).inv
  cases e1
  obtain ⟨_, _, e1, r3, _⟩ := r2.inv
  cases e1
  exact mV C r1 r3 ht (H W tk _ Le.refl S ⟨t, rfl, rfl⟩)
theorem x3F (C : cx.Ok cb) (ha : SL U cx cb a [l, r]) : SC U cx cb (.cmp op a) l op r := fun hf st W S tk Q E H => by
 exact ha hf st W S tk (jN fun v u s => d9 cx (compareOp op v u) Q E s) E (Post.bind' H fun x st1 W1 tk1 vs l1 S1 r1 H1 => by
  match vs, r1 with
  | [v, u], r1 => exact nK C S1 r1 H1
  | [], _ => trivial
  | [_], _ => trivial
  | _ :: _ :: _ :: _, _ => trivial)
theorem x3B (TO : cx.T.Ok) (C : cx.Ok cb) (ha : SL U cx cb a [l]) (h : v5 cx.env.scope.names z "OPENING" = true) : SC U cx cb (.inOpen a) l .In (.Name z pos) := fun hf st W S tk Q E H => by
 obtain ⟨ad, m, hg, hsm, hm, hfm⟩ := TO.opn
 refine ha hf st W S tk (r6 fun v s => d9 cx (eval (.Name z pos) cx.env) (fun b s₂ => d9 cx (compareOp .In v b) Q E s₂) E s) E (Post.bind' H fun x st1 W1 tk1 vs l1 S1 r1 H1 => ?_)
 cases hg' : (one x).bind fun f => (C9 f).map fun s => bV (openF s).isSome with
 | none => rw [hg'] at H1; exact H1.elim
 | some g =>
  rw [hg'] at H1
  obtain ⟨f, h1, h2⟩ := c0 hg'
  obtain ⟨q, h3, rfl⟩ := m3 h2
  cases pH h3
  cases n0 h1
  obtain ⟨v, rfl, r⟩ := r1.one
  obtain ⟨t, rfl⟩ := Rep.inv (d := .str q) r
  refine F0 TO C S1 h hg (wpAny_in_of (strKind_is _ _ q t) hsm (hm W1.h S1.keeps) ?_)
  have : (m q).isSome = (openF q).isSome := by
   cases ho : openF q with
   | none => rw [(hfm q).2 ho]; rfl
   | some y => obtain ⟨t', ht⟩ := (hfm q).1 y ho; rw [ht]; rfl
  rw [this]
  exact H1 W1 _ _ Le.refl S1 ⟨_, rfl, rfl⟩
theorem mX (h : eJ e = true) (ha : SL U cx cb c [e]) : SB U cx cb c e := fun hf st W S tk T E H => by
 refine wpAny_isTrue_value (ha hf st W S tk (r6 fun v s => d9 cx (truthy v) T E s) E ?_) (by cases e <;> first | rfl | cases h)
 have H' : Post cx (cx.d + 1) cb RB W T E ((toB (ev U c st)).bind fun t st => .ok t st) := by
  cases hq : toB (ev U c st) <;> rw [hq] at H <;> exact H
 exact Post.toB H' fun t st1 W1 tk1 l1 S1 H1 => wpAny_truthy_bool (H1 W1 tk1 t Le.refl S1 rfl)
theorem x3h (ha : SL U cx cb a [x]) : SL U cx cb (.not a) [.UnaryOp .Not x pos] := fun hf st W S tk T E H =>
 wpAny_UnaryOp (ha hf st W S tk (r6 fun v s => d9 cx (unaryOp .Not v) (fun r s => T [r] s) E s) E (Post.toB H fun t st1 W1 tk1 l1 S1 H1 => not_value (wpAny_truthy_bool (n7 H1 S1 .bool))))
theorem pI {q : R (List F)} {f : Bool -> St -> R (List F)} : toB ((toB q).bind f) = (toB q).bind fun t st => toB (f t st) := by
 unfold toB
 cases q with
 | ok x st => dsimp only [R.bind]; cases boolL x <;> rfl
 | exc k st => rfl
 | stuck => rfl
theorem x2w (ha : SB U cx cb a x) : SB U cx cb (.not a) (.UnaryOp .Not x pos) := fun hf st W S tk T E H => by
 replace H : Post cx (cx.d + 1) cb RB W T E (toB ((toB (ev U a st)).bind fun b st => .ok [bV (!b)] st)) := H
 rw [pI] at H
 exact wpAny_isTrue_Not (ha hf st W S tk _ E (Post.bind' H fun t st1 W1 tk1 v l1 S1 r1 H1 => H1 W1 tk1 _ Le.refl S1 (by rw [show v = t from r1]; rfl)))
noncomputable def rY : BoolOp -> Bool -> Bool
 | .And, t => !t
 | .Or, t => t
theorem yY {M : Model} {A : Around} {E : VP} {s : Shared} {pos : Pos} {op : BoolOp} {x y : Sem Value} {rest : List (Sem Value)} {Q : VP}
  (h : wpAny M A x (fun v s₁ => wpAny M A (truthy v) (fun t s₂ => if rY op t then Q v s₂ else wpAny M A (boolOp pos op (y :: rest)) Q E s₂) E s₁) E s) :
  wpAny M A (boolOp pos op (x :: y :: rest)) Q E s := by
 show wpAny M A (do let v <- x; standAt pos; let t <- holding [v] (truthy v); match op, t with | .And, false | .Or, true => pure v | _, _ => boolOp pos op (y :: rest)) Q E s
 refine wpAny_bind (wpAny_mono h (fun v s₁ h₁ => wpAny_bind (wpAny_standAt (wpAny_bind (wpAny_holding (wpAny_mono h₁ (fun t s₂ h₂ => ?_) fun _ _ x => x))))) fun _ _ x => x)
 cases op <;> cases t <;> first | exact wpAny_pure h₂ | exact h₂
noncomputable def dI (o : BoolOp) (t : Bool) (k : St -> R (List F)) (st : St) : R (List F) := match o, t with
 | .And, false => .ok [bV false] st
 | .Or, true => .ok [bV true] st
 | _, _ => k st
theorem x4Y {o : BoolOp} {rest : List Expr} {cc : CE} (hev : ∀ st, ev U cc st = (toB (ev U a st)).bind fun t st => dI o t (ev U c) st) (he : (g8 cc = true -> cb = true) -> (g8 a = true -> cb = true) /\ (g8 c = true -> cb = true)) (ha : SL U cx cb a [x]) (hb : SL U cx cb c [restB o pos y rest]) :
  SL U cx cb cc [.BoolOp o (x :: y :: rest) pos] := fun hf st W S tk T E H => by
 rw [hev] at H
 show wpAny _ _ (boolOp pos o (eval x cx.env :: eval y cx.env :: evalEach rest cx.env)) _ E _
 refine yY (Q := fun r s => T [r] s) (ha (he hf).1 st W S tk (r6 fun v s => d9 cx (truthy v) (fun t s₂ => if rY o t then T [v] s₂ else d9 cx (boolOp pos o (eval y cx.env :: evalEach rest cx.env)) (fun r s => T [r] s) E s₂) E s) E (Post.toB H fun t st1 W1 tk1 l1 S1 H1 => wpAny_truthy_bool ?_))
 have go : Post cx (cx.d + 1) cb (RepL cx) W1 T E (ev U c st1) -> d9 cx (boolOp pos o (eval y cx.env :: evalEach rest cx.env)) (fun r s => T [r] s) E (sh cx.T W1 tk1) := fun H2 => by
  have := hb (he hf).2 st1 W1 S1 tk1 T E H2
  cases rest <;> exact this
 cases o <;> cases t <;> first | exact n7 H1 S1 .bool | exact go H1
theorem x4M {o : BoolOp} {rest : List Expr} {cc : CE} (hev : ∀ st, ev U cc st = (toB (ev U a st)).bind fun t st => dI o t (ev U c) st) (he : (g8 cc = true -> cb = true) -> (g8 a = true -> cb = true) /\ (g8 c = true -> cb = true)) (ha : SB U cx cb a x) (hb : SB U cx cb c (restB o pos y rest)) :
  SB U cx cb cc (.BoolOp o (x :: y :: rest) pos) := fun hf st W S tk T E H => by
 rw [hev, pI] at H
 have go : ∀ {W1 : Ws} {st1 : St} {tk1 : Nat}, Sim cx st1 W1 -> Post cx (cx.d + 1) cb RB W1 T E (toB (ev U c st1)) -> d9 cx (allTrue o (y :: rest) cx.env) T E (sh cx.T W1 tk1) := fun {W1 st1 tk1} S1 H2 => by
  cases rest with
  | nil =>
   have H3 : Post cx (cx.d + 1) cb RB W1 T E ((toB (ev U c st1)).bind fun t st => .ok t st) := by cases hq : toB (ev U c st1) <;> rw [hq] at H2 <;> exact H2
   cases o with
   | And => exact wpAny_allTrue_And_cons (hb (he hf).2 st1 W1 S1 tk1 _ E (Post.bind' H3 fun t st2 W2 tk2 v l2 S2 r2 H4 => by
     cases v with
     | true => exact wpAny_allTrue_And_nil (H4 W2 tk2 _ Le.refl S2 r2)
     | false => exact H4 W2 tk2 _ Le.refl S2 r2))
   | Or => exact wpAny_allTrue_Or_cons (hb (he hf).2 st1 W1 S1 tk1 _ E (Post.bind' H3 fun t st2 W2 tk2 v l2 S2 r2 H4 => by
     cases v with
     | false => exact wpAny_allTrue_Or_nil (H4 W2 tk2 _ Le.refl S2 r2)
     | true => exact H4 W2 tk2 _ Le.refl S2 r2))
  | cons z zs => have := hb (he hf).2 st1 W1 S1 tk1 T E H2; rwa [show restB o pos y (z :: zs) = .BoolOp o (y :: z :: zs) pos from rfl, arm_isTrue_BoolOp] at this
 refine wpAny_isTrue_BoolOp ?_
 cases o with
 | And => exact wpAny_allTrue_And_cons (ha (he hf).1 st W S tk _ E (Post.bind' H fun t st1 W1 tk1 v l1 S1 r1 H1 => by
   cases show v = t from r1
   cases t with
   | false => exact H1 W1 tk1 _ Le.refl S1 rfl
   | true => exact go S1 H1))
 | Or => exact wpAny_allTrue_Or_cons (ha (he hf).1 st W S tk _ E (Post.bind' H fun t st1 W1 tk1 v l1 S1 r1 H1 => by
   cases show v = t from r1
   cases t with
   | true => exact H1 W1 tk1 _ Le.refl S1 rfl
   | false => exact go S1 H1))
theorem x5m {M : Model} {A : Around} {E : VP} {s : Shared} {env : Env} {l r1 r2 : Expr} {o1 o2 : CmpOp} {pos : Pos} {Q : VP} (hm : behindInMarks o2 r2 = false)
  (h : wpAny M A (eval l env) (fun a s₁ => wpAny M A (eval r1 env) (fun b s₂ => wpAny M A (compareOp o1 a b) (fun c s₃ => wpAny M A (truthy c) (fun t s₄ =>
   if t then wpAny M A (eval r2 env) (fun d s₅ => wpAny M A (compareOp o2 b d) Q E s₅) E s₄ else Q c s₄) E s₃) E s₂) E s₁) E s) :
  wpAny M A (eval (.Compare l [o1, o2] [r1, r2] pos) env) Q E s := by
 refine Compare_chain ?_ (by exact hm)
 refine wpAny_mono h (fun a s₁ h₁ => ?_) fun _ _ x => x
 show wpAny M A (do let rv <- holding [a] (eval r1 env); standAt pos; let c <- holding [a, rv] (compareOp o1 a rv); release [a, rv] [c]; if <- holding [c, rv] (truthy c) then compareChain pos rv [o2] [eval r2 env] else pure c) Q E s₁
 refine wpAny_bind (wpAny_holding (wpAny_mono h₁ (fun b s₂ h₂ => wpAny_bind (wpAny_standAt (wpAny_bind (wpAny_holding (wpAny_mono h₂ (fun c s₃ h₃ => ?_) fun _ _ x => x))))) fun _ _ x => x))
 refine wpAny_bind (wpAny_release' (wpAny_bind (wpAny_holding (wpAny_mono h₃ (fun t s₄ h₄ => ?_) fun _ _ x => x))))
 cases t with
 | false => exact wpAny_pure h₄
 | true =>
  show wpAny M A (do let rv <- holding [b] (eval r2 env); standAt pos; operate [b, rv] (compareOp o2 b rv)) Q E s₄
  exact wpAny_bind (wpAny_holding (wpAny_mono h₄ (fun d s₅ h₅ => wpAny_bind (wpAny_standAt (wpAny_operate' h₅))) fun _ _ x => x))
theorem x6V {M : Model} {A : Around} {E : VP} {s : Shared} {env : Env} {l r1 r2 : Expr} {o1 o2 : CmpOp} {pos : Pos} {whole : Sem Value} {Q : Bool -> Shared -> Prop} (hm : behindInMarks o2 r2 = false)
  (h : wpAny M A (eval l env) (fun a s₁ => wpAny M A (eval r1 env) (fun b s₂ => wpAny M A (compareOp o1 a b) (fun c s₃ => wpAny M A (truthy c) (fun t s₄ =>
   if t then wpAny M A (eval r2 env) (fun d s₅ => wpAny M A (compareOp o2 b d) (fun c s₆ => wpAny M A (truthy c) Q E s₆) E s₅) E s₄ else Q false s₄) E s₃) E s₂) E s₁) E s) :
  wpAny M A (isTrue (.Compare l [o1, o2] [r1, r2] pos) env whole) Q E s := by
 refine isTrue_chain ?_ (by exact hm)
 refine wpAny_mono h (fun a s₁ h₁ => ?_) fun _ _ x => x
 show wpAny M A (do let rv <- holding [a] (eval r1 env); standAt pos; let c <- holding [a, rv] (compareOp o1 a rv); release [a, rv] [c]; if <- holding [c, rv] (truthy c) then testChain pos rv [o2] [eval r2 env] else pure false) Q E s₁
 refine wpAny_bind (wpAny_holding (wpAny_mono h₁ (fun b s₂ h₂ => wpAny_bind (wpAny_standAt (wpAny_bind (wpAny_holding (wpAny_mono h₂ (fun c s₃ h₃ => ?_) fun _ _ x => x))))) fun _ _ x => x))
 refine wpAny_bind (wpAny_release' (wpAny_bind (wpAny_holding (wpAny_mono h₃ (fun t s₄ h₄ => ?_) fun _ _ x => x))))
 cases t with
 | false => exact wpAny_pure h₄
 | true =>
  show wpAny M A (do let rv <- holding [b] (eval r2 env); standAt pos; let c <- operate [b, rv] (compareOp o2 b rv); holding [c] (truthy c)) Q E s₄
  exact wpAny_bind (wpAny_holding (wpAny_mono h₄ (fun d s₅ h₅ => wpAny_bind (wpAny_standAt (wpAny_bind (wpAny_operate' (wpAny_mono h₅ (fun c s₆ h₆ => wpAny_holding h₆) fun _ _ x => x))))) fun _ _ x => x))
end
section
variable {U : Nat -> Fn} {cx : Cx} {cb : Bool} {T : List Value -> Shared -> Prop} {Q Q0 : VP} {E : VP} {st : St} {W W' : Ws} {b tk : Nat} {d : PyData} {v : Value} {pos : Pos} {e x y z l : Expr} {a c : CE} {o1 o2 : CmpOp} {fs : List F} {vs : List Value} {ds : List PyData}
theorem xA {u : Value} (h : RepL cx W [v, u] fs) {q : PyData × PyData} (hq : (valsOf fs).bind z8 = some q) : Rep W v q.1 /\ Rep W u q.2 := by
 obtain ⟨ds, hd, hq⟩ := c0 hq
 obtain ⟨_, _, e1, r1, r2⟩ := (D2 hq ▸ V7 h hd).inv
 cases e1
 obtain ⟨_, _, e1, r3, _⟩ := r2.inv
 cases e1
 exact ⟨r1, r3⟩
theorem qR (C : cx.Ok cb) (ha : SL U cx cb a [x, y]) (hc : SL U cx cb c [z]) (hf : (g8 a || g8 c) = true -> cb = true) (S : Sim cx st W) {Q2 : VP} (H : Post cx (cx.d + 1) cb RV W Q2 E (ev U (.chain a o1 o2 c) st)) (hQ2 : ∀ v s, Q2 v s -> Q v s) (hQ : ∀ s, Q2 (.bool false) s -> Q0 (.bool false) s) :
  d9 cx (eval x cx.env) (fun a s₁ => d9 cx (eval y cx.env) (fun b s₂ => d9 cx (compareOp o1 a b) (fun c s₃ => d9 cx (truthy c) (fun t s₄ =>
   if t then d9 cx (eval z cx.env) (fun d s₅ => d9 cx (compareOp o2 b d) Q E s₅) E s₄ else Q0 c s₄) E s₃) E s₂) E s₁) E (sh cx.T W tk) := by
 refine ha (A5 hf) st W S tk (jN fun a b s₂ => d9 cx (compareOp o1 a b) (fun c s₃ => d9 cx (truthy c) (fun t s₄ =>
   if t then d9 cx (eval z cx.env) (fun d s₅ => d9 cx (compareOp o2 b d) Q E s₅) E s₄ else Q0 c s₄) E s₃) E s₂) E (Post.bind' H fun fs st1 W1 tk1 vs l1 S1 r1 H1 => ?_)
 match vs, r1 with
 | [v, u], r1 =>
  cases hq : (valsOf fs).bind z8 with
  | none => rw [hq] at H1; exact H1.elim
  | some q =>
   rw [hq] at H1
   obtain ⟨rv, ru⟩ := xA r1 hq
   replace H1 : Post cx (cx.d + 1) cb RV W1 Q2 E (match cmpF o1 q.1 q.2 with
    | some true => (ev U c st1).bind fun z st => G1 o2 (.val q.2 :: z) st
    | some false => .ok [bV false] st1
    | none => .stuck) := H1
   cases ht : cmpF o1 q.1 q.2 with
   | none => rw [ht] at H1; exact H1.elim
   | some t =>
    rw [ht] at H1
    refine mV C rv ru ht (wpAny_truthy_bool ?_)
    cases t with
    | false => exact hQ _ (H1 W1 tk1 _ Le.refl S1 ⟨_, rfl, rfl⟩)
    | true => exact hc (I6 hf) st1 W1 S1 tk1 (r6 fun d s₅ => d9 cx (compareOp o2 u d) Q E s₅) E (Post.bind' H1 fun fs2 st2 W2 tk2 vs2 l2 S2 r2 H2 => (by
      match vs2, r2 with
      | [w], r2 => exact wpAny_mono (nK (fs := .val q.2 :: fs2) C S2 ⟨show RepA cx W2 u (.val q.2) from Rep.mono l2.fz ru, r2⟩ H2) hQ2 fun _ _ x => x
      | [], _ => trivial
      | _ :: _ :: _, _ => trivial))
 | [], _ => trivial
 | [_], _ => trivial
 | _ :: _ :: _ :: _, _ => trivial
theorem x2B {q : R (List F)} (H : Post cx b cb (RepL cx) W T E q) : Post cx b cb RV W (fun v s => T [v] s) E q := by
 cases q with
 | ok x st1 => rintro W' tk' v l S' ⟨t, rfl, rfl⟩; exact H W' tk' _ l S' (.val .bool)
 | exc k st1 => exact H
 | stuck => exact H
theorem x4C {T : Bool -> Shared -> Prop} {q : R (List F)} (H : Post cx b cb RB W T E (toB q)) : Post cx b cb RV W (fun v s => ∃ t, v = .bool t /\ T t s) E q := by
 cases q with
 | ok x st1 => rintro W' tk' v l S' ⟨t, rfl, rfl⟩; exact ⟨t, rfl, H W' tk' t l S' rfl⟩
 | exc k st1 => exact H
 | stuck => exact H
theorem x2F (C : cx.Ok cb) (ha : SL U cx cb a [x, y]) (hc : SL U cx cb c [z]) (hm : m7 z = true) : SL U cx cb (.chain a o1 o2 c) [.Compare x [o1, o2] [y, z] pos] := fun hf st W S tk T E H =>
 x5m (aR hm o2) (qR C ha hc hf S (x2B H) (fun _ _ h => h) fun _ h => h)
theorem x3N (C : cx.Ok cb) (ha : SL U cx cb a [x, y]) (hc : SL U cx cb c [z]) (hm : m7 z = true) : SB U cx cb (.chain a o1 o2 c) (.Compare x [o1, o2] [y, z] pos) := fun hf st W S tk T E H =>
 x6V (aR hm o2) (qR (Q0 := fun _ s => T false s) C ha hc hf S (x4C H) (fun v s ⟨t, e, h⟩ => by subst e; exact wpAny_truthy_bool h) fun s ⟨t, e, h⟩ => by cases e; exact h)
end
section
variable {U : Nat -> Fn} {cx : Cx} {cb : Bool} {T : List Value -> Shared -> Prop} {E : VP} {st : St} {W : Ws} {b tk : Nat} {d : PyData} {v u : Value} {f g : F} {e x y l r : Expr} {o : Op} {a c : CE} {p : Pl} {fs : List F} {vs : List Value} {ds : List PyData} {xs : List PyData} {t : Tag}
theorem oJ {h : PyData -> PyData -> Option F} (ho : ∀ ds, I0 o ds = bi h ds) (r : RepL cx W [u] fs) (H : Post cx b cb (RepL cx) W T E (o3 o (.val d :: fs) st)) : ∃ e g, Rep W u e /\ h d e = some g /\ Post cx b cb (RepL cx) W T E (.ok [g] st) := by
 obtain ⟨g, hg, H'⟩ := y9 H
 obtain ⟨ds, hd, hg⟩ := c0 hg
 obtain ⟨ds', hd', rfl⟩ := m3 (show (valsOf fs).map (fun l => d :: l) = some ds from hd)
 obtain ⟨q, hq, hg'⟩ := c0 ((ho _).symm.trans hg)
 have hq := D2 hq
 injection hq with e1 e2
 subst e1 e2
 obtain ⟨_, _, e3, r1, _⟩ := (V7 r hd').inv
 cases e3
 exact ⟨q.2, g, r1, hg', H'⟩
theorem x0A (r : RepL cx W vs fs) {q : Str} (h : (one fs).bind C9 = some q) : ∃ t, vs = [.str q t] := by
 obtain ⟨f, h1, h2⟩ := c0 h
 cases pH h2
 cases n0 h1
 obtain ⟨v, rfl, r'⟩ := r.one
 obtain ⟨t, rfl⟩ := Rep.inv (d := .str q) r'
 exact ⟨t, rfl⟩
theorem yX {n : Expr × List Expr} (hp : rA o e = some n) (hr : SL U cx cb c [n.1]) (ha : SL U cx cb a n.2) : SL U cx cb (.sm o c a) [e] := fun hf st W S tk T E H => by
 have recv : ∀ {K : VP}, (∀ q t st1 W1 tk1, Sim cx st1 W1 -> Post cx (cx.d + 1) cb (RepL cx) W1 T E ((ev U a st1).bind fun y st => o3 o (.val (.str q) :: y) st) -> K (.str q t) (sh cx.T W1 tk1)) -> d9 cx (eval n.1 cx.env) K E (sh cx.T W tk) := fun {K} k =>
  hr (A5 hf) st W S tk (r6 K) E (Post.bind' H fun x st1 W1 tk1 vs l1 S1 r1 H1 => by
   cases hq : (one x).bind C9 with
   | none => rw [hq] at H1; exact H1.elim
   | some q =>
    rw [hq] at H1
    obtain ⟨t, rfl⟩ := x0A r1 hq
    exact k q t st1 W1 tk1 S1 H1)
 obtain ⟨r, args⟩ := n
 cases o with
 | splitNl =>
  obtain ⟨⟨v, l⟩, h1, hp⟩ := c0 hp
  obtain ⟨h2, h3⟩ := i5 hp
  cases h3
  obtain ⟨h2, h3⟩ := and2 h2
  obtain ⟨y, h4, h3⟩ := f9 h3
  obtain ⟨cc, h5, h3⟩ := f9 h3
  obtain ⟨k, p, rfl⟩ := Y7 h5
  obtain ⟨ap, p', rfl, hline, _⟩ := J4 h1
  cases n0 h4
  have hc := h3
  obtain rfl : cc = .str (Mine.Internal.S [10]) := eq_of_beq h3
  refine Call_method1 (fM h2) rfl hline (recv fun q t st1 W1 tk1 S1 H1 => ?_)
  refine ha (I6 hf) st1 W1 S1 tk1 (fun _ s => MethodOnS cx.T.prog cx.T.w cx.A E "split" (.str q t) p' [(false, eval (.Constant (.str (Mine.Internal.S [10])) k p) cx.env)] (fun r s => T [r] s) s) E (Post.bind' H1 fun y st2 W2 tk2 us l2 S2 r2 H2 => ?_)
  obtain ⟨g, hg, H3⟩ := y9 H2
  obtain ⟨ds, hd, hg⟩ := c0 hg
  obtain ⟨ds', hd', rfl⟩ := m3 (show (valsOf y).map (fun l => PyData.str q :: l) = some ds from hd)
  obtain ⟨x, hx, hg⟩ := c0 (show un splitF (.str q :: ds') = some g from hg)
  have hx := n0 hx
  injection hx with e1 _
  subst e1
  exact x2t hc S2 .str hg H3
 | find =>
  obtain ⟨⟨v, l⟩, h1, hp⟩ := c0 hp
  obtain ⟨h2, h3⟩ := i5 hp
  cases h3
  obtain ⟨h2, h3⟩ := and2 h2
  obtain ⟨y, h4⟩ := K6 h3
  obtain ⟨ap, p', rfl, hline, hx⟩ := J4 h1
  cases n0 h4
  refine Call_method1 (fM h2) (N6 (and2 hx).1) hline (recv fun q t st1 W1 tk1 S1 H1 => x3m (b := cx.d + 1) (cb := cb) (d := .str q) .str (fun _ _ => ?_) rfl)
  exact ha (I6 hf) st1 W1 S1 tk1 (r6 fun u s => ∃ W tk e g st, s = sh cx.T W tk /\ Sim cx st W /\ Rep W u e /\ fR (.str q) e = some g /\ Post cx (cx.d + 1) cb (RepL cx) W T E (.ok [g] st)) E (Post.bind' H1 fun y st2 W2 tk2 us l2 S2 r2 H2 => by
   match us, r2 with
   | [u], r2 => obtain ⟨e, g, h5, h6, h7⟩ := oJ (fun _ => rfl) r2 H2; exact ⟨W2, tk2, e, g, st2, rfl, S2, h5, h6, h7⟩
   | [], _ => trivial
   | _ :: _ :: _, _ => trivial)
 | join =>
  obtain ⟨⟨v, l⟩, h1, hp⟩ := c0 hp
  obtain ⟨h2, h3⟩ := i5 hp
  cases h3
  obtain ⟨h2, h3⟩ := and2 h2
  obtain ⟨y, h4⟩ := K6 h3
  obtain ⟨ap, p', rfl, hline, hx⟩ := J4 h1
  cases n0 h4
  refine Call_method1 (fM h2) (N6 (and2 hx).1) hline (recv fun q t st1 W1 tk1 S1 H1 => x2e (b := cx.d + 1) (cb := cb) (d := .str q) .str (fun _ _ => ?_) rfl)
  exact ha (I6 hf) st1 W1 S1 tk1 (r6 fun u s => ∃ W tk e g st, s = sh cx.T W tk /\ Sim cx st W /\ Rep W u e /\ dO (.str q) e = some g /\ Post cx (cx.d + 1) cb (RepL cx) W T E (.ok [g] st)) E (Post.bind' H1 fun y st2 W2 tk2 us l2 S2 r2 H2 => by
   match us, r2 with
   | [u], r2 => obtain ⟨e, g, h5, h6, h7⟩ := oJ (fun _ => rfl) r2 H2; exact ⟨W2, tk2, e, g, st2, rfl, S2, h5, h6, h7⟩
   | [], _ => trivial
   | _ :: _ :: _, _ => trivial)
 | _ => exact nos hp
theorem PlAt.list (P : PlAt cx st W v f t p) (h : lstOf f = some xs) : ∃ a vs, v = .ref a /\ W.h.IsList a vs /\ RepAll W vs.toList xs := by
 cases f with
 | own ys => cases h; obtain ⟨a, vs, h1, h2, _, h4⟩ := P.own; exact ⟨a, vs, h1, h2.isList, h4⟩
 | brw ys =>
  cases h
  cases p with
  | loc i => obtain ⟨a, vs, h1, h2, _, h4⟩ := P.2.2.2; exact ⟨a, vs, h1, h2, h4⟩
  | fld i j => obtain ⟨n, P⟩ := P; exact P.r.elim
 | val d => obtain ⟨a, vs, h1, h2, _, h4⟩ := P.val.ll h; exact ⟨a, vs, h1, h2, h4⟩
 | _ => exact nos h
end
theorem D0 {α : Type} {b : Bool} {f : Unit -> Option α} {x : α} (h : (gd b ()).bind f = some x) : b = true /\ f () = some x := by
 obtain ⟨u, h1, h2⟩ := c0 h
 exact ⟨(i5 h1).1, h2⟩
section
variable {U : Nat -> Fn} {cx : Cx} {cb : Bool} {T : List Value -> Shared -> Prop} {Q : VP} {E : VP} {st : St} {W : Ws} {b tk : Nat} {d : PyData} {v u : Value} {f g : F} {pos : Pos} {e x y z l r : Expr} {es : List Expr} {o : Op} {a c : CE} {p : Pl} {fs : List F} {vs : List Value} {ds : List PyData} {xs : List PyData} {t : Tag}
theorem jQ (h : listAt st p = some xs) : ∃ f, getP st p = some f /\ lstOf f = some xs := c0 h
theorem S4 (h : ownAt st p = some xs) : getP st p = some (.own xs) := by
 obtain ⟨f, h1, h2⟩ := c0 h
 cases f with
 | own ys => cases h2; exact h1
 | _ => exact nos h2
theorem rF {es : List (List Int × PyData)} (h : dctAt st p = some es) : getP st p = some (.dct es) := by
 obtain ⟨f, h1, h2⟩ := c0 h
 cases f with
 | dct ys => cases h2; exact h1
 | _ => exact nos h2
theorem E8 (r : RepL cx W [v] fs) (h : oneV fs = some d) : Rep W v d := by
 obtain ⟨f, h1, h2⟩ := c0 h
 cases rH h2
 cases n0 h1
 exact r.1
theorem oR {k : PyData} {q : List Int} (h : keyI k = some q) : ∃ a b, k = .tuple [.int a, .int b] /\ q = [a, b] := by
 obtain ⟨l, h1, h⟩ := c0 h
 obtain ⟨p, h2, h⟩ := c0 h
 obtain ⟨a, b, h3, h4, h⟩ := A1 h
 cases h
 exact ⟨a, b, by rw [iK h1, D2 h2, aH h3, aH h4], rfl⟩
theorem RepTab.find {xt : List (List Int × Addr × Value)} {et : List (List Int × PyData)} {q : List Int} (h : RepTab W xt et) : (atKey xt q).isSome = (keyF et q).isSome /\ ∀ d, keyF et q = some d -> ∃ kv, atKey xt q = some kv /\ Rep W kv.2 d := by
 induction xt generalizing et with
 | nil => cases et with
  | nil => exact ⟨rfl, fun d e => nos e⟩
  | cons _ _ => exact h.elim
 | cons x xt ih =>
  cases et with
  | nil => exact h.elim
  | cons e et =>
   unfold atKey keyF
   rw [List.find?_cons, List.find?_cons, <- h.1.1]
   cases decide (x.1 = q) with
   | true => exact ⟨rfl, fun d hd => ⟨x.2, rfl, by cases hd; exact h.1.2.2⟩⟩
   | false => exact ih h.2
theorem P3 {k : R (List F)} {A : Type} {o' : Option A} (H : Post cx b cb (RepL cx) W T E (if o'.isSome then k else .stuck)) : (∃ x, o' = some x) /\ Post cx b cb (RepL cx) W T E k := by
 cases o' with
 | none => exact H.elim
 | some x => exact ⟨⟨x, rfl⟩, H⟩
theorem lO {y : Str} (h : ((s8 cx.env.scope.names y e).bind fun l => gd (onS (one l) (j8 cx.nm cx.env.scope.names p)) ([] : List Expr)) = some es) : es = [] /\ ∃ x, s8 cx.env.scope.names y e = some [x] /\ j8 cx.nm cx.env.scope.names p x = true := by
 obtain ⟨l, h1, h⟩ := c0 h
 obtain ⟨h2, rfl⟩ := i5 h
 obtain ⟨x, h3, h2⟩ := f9 h2
 exact ⟨rfl, x, by rw [h1, n0 h3], h2⟩
theorem gJ (h : ((A7 e).bind fun v => gd (m7 v.2 && j8 cx.nm cx.env.scope.names p v.1) [v.2]) = some es) : ∃ x i q, e = .Subscript x i q /\ es = [i] /\ m7 i = true /\ j8 cx.nm cx.env.scope.names p x = true := by
 obtain ⟨l, h1, h⟩ := c0 h
 obtain ⟨h2, rfl⟩ := i5 h
 obtain ⟨q, h1⟩ := I4 h1
 exact ⟨_, _, q, h1, rfl, (and2 h2).1, (and2 h2).2⟩
theorem tZ {y : Str} {fv : Value} (TO : cx.T.Ok) (C : cx.Ok cb) (PC : i0 p = true -> PgCls cx.T) (S : Sim cx st W) {x : Expr} (hx : s8 cx.env.scope.names y e = some [x]) (hm : j8 cx.nm cx.env.scope.names p x = true) (hb : biTab.lookup y = some fv) (hfv : (∃ id, fv = .builtin id) \/ ∃ T, fv = .type T) (hl : listAt st p = some xs)
  (k : ∀ a vs tk, W.h.IsList a vs -> RepAll W vs.toList xs -> d9 cx (call fv [.ref a]) Q E (sh cx.T W tk)) : d9 cx (eval e cx.env) Q E (sh cx.T W tk) := by
 obtain ⟨f, h1, h2⟩ := jQ hl
 refine S9 TO C S hx hb hfv (B3 C PC S hm h1 fun v t tk' P => ?_)
 obtain ⟨a, vs, rfl, h3, h4⟩ := P.list h2
 exact k a vs tk' h3 h4
theorem x5h (TO : cx.T.Ok) (C : cx.Ok cb) (PC : i0 p = true -> PgCls cx.T) (hp : F4 cx.nm cx.env.scope.names p .len e = some es) (ha : SL U cx cb a es) : SL U cx cb (.peek .len p a) [e] := fun hf st W S tk T E H => by
 obtain ⟨rfl, x, hx, hm⟩ := lO hp
 obtain ⟨_, H⟩ := P3 H
 refine ha (A5 hf) st W S tk (fun _ s => d9 cx (eval e cx.env) (fun v s => T [v] s) E s) E (Post.bind' H fun x st1 W1 tk1 vs l1 S1 r1 H1 => ?_)
 obtain ⟨g, hg, H2⟩ := y9 H1
 obtain ⟨ys, hl, hg⟩ := c0 (D0 hg).2
 obtain ⟨n, hn, rfl⟩ := m3 hg
 exact tZ TO C PC S1 hx hm (by decide +kernel) (.inl ⟨"len", rfl⟩) hl fun a vs tk h1 h2 => pD h1 h2 hn fun t tk => n7 H2 S1 .int
theorem xQ (TO : cx.T.Ok) (C : cx.Ok cb) (PC : i0 p = true -> PgCls cx.T) (hp : F4 cx.nm cx.env.scope.names p .copy e = some es) (ha : SL U cx cb a es) : SL U cx cb (.peek .copy p a) [e] := fun hf st W S tk T E H => by
 obtain ⟨rfl, x, hx, hm⟩ := lO hp
 obtain ⟨_, H⟩ := P3 H
 refine ha (A5 hf) st W S tk (fun _ s => d9 cx (eval e cx.env) (fun v s => T [v] s) E s) E (Post.bind' H fun x st1 W1 tk1 vs l1 S1 r1 H1 => ?_)
 obtain ⟨g, hg, H2⟩ := y9 H1
 obtain ⟨ys, hl, hg⟩ := c0 (D0 hg).2
 obtain ⟨hz, rfl⟩ := i5 hg
 exact tZ TO C PC S1 hx hm (by decide +kernel) (.inr ⟨"list", rfl⟩) hl fun a vs tk h1 h2 => mF S1 h1 h2 hz H2
theorem gO {x i : Expr} (C : cx.Ok cb) (PC : i0 p = true -> PgCls cx.T) (hm : j8 cx.nm cx.env.scope.names p x = true) (hfe : i0 p = true -> g8 a = false) (ha : ∀ c', (c' = true -> cx.c = true) -> SL U cx c' a [i]) (hf : g8 a = true -> cb = true) (S : Sim cx st W) (hg : ∃ f, getP st p = some f)
  {K : List F -> St -> R (List F)} (H : Post cx (cx.d + 1) cb (RepL cx) W T E ((ev U a st).bind K))
  (k : ∀ v u fs st1 W1 tk1, Sim cx st1 W1 -> RepL cx W1 [u] fs -> Post cx (cx.d + 1) cb (RepL cx) W1 T E (K fs st1) -> (∀ f, getP st1 p = some f -> ∃ t, PlAt cx st1 W1 v f t p) -> d9 cx (subscriptTail x i v u) (fun r s => T [r] s) E (sh cx.T W1 tk1)) :
  d9 cx (eval (.Subscript x i pos) cx.env) (fun v s => T [v] s) E (sh cx.T W tk) := by
 obtain ⟨f, hg⟩ := hg
 have hcb : (cb && !i0 p) = true -> cb = true := fun h => (and2 h).1
 refine Subscript_ (B3 C PC S hm hg fun v t tk' P => ha (cb && !i0 p) (fun h => C.cb (hcb h)) (fun h => ?_) st W S tk' (r6 fun u s => d9 cx (subscriptTail x i v u) (fun r s => T [r] s) E s) E (Post.bind (Nat.le_refl _) hcb H fun fs st1 W1 tk1 us l1 S1 r1 H1 => ?_))
 . cases hp : i0 p with
   | true => rw [hfe hp] at h; cases h
   | false => rw [hf h]; rfl
 . match us, r1 with
   | [u], r1 => exact k v u fs st1 W1 tk1 S1 r1 H1 fun f hf => P.later S.fr S1 l1 (fun q => by rw [q]; exact Bool.and_false cb) hf
   | [], _ => trivial
   | _ :: _ :: _, _ => trivial
theorem x0T (C : cx.Ok cb) (PC : i0 p = true -> PgCls cx.T) (hp : F4 cx.nm cx.env.scope.names p .idx e = some es) (hfe : i0 p = true -> g8 a = false) (ha : ∀ c', (c' = true -> cx.c = true) -> SL U cx c' a es) : SL U cx cb (.peek .idx p a) [e] := fun hf st W S tk T E H => by
 obtain ⟨x, i, q, rfl, rfl, hi, hm⟩ := gJ hp
 obtain ⟨hg, H⟩ := P3 H
 refine gO C PC hm hfe ha (A5 hf) S hg H fun v u fs st1 W1 tk1 S1 r1 H1 later => ?_
 obtain ⟨g, hg, H2⟩ := y9 H1
 obtain ⟨k, hk, hg⟩ := c0 hg
 obtain ⟨n, hn, hg⟩ := c0 hg
 obtain ⟨ys, hl, hg⟩ := c0 hg
 obtain ⟨d, hd, rfl⟩ := m3 hg
 obtain ⟨t1, rfl⟩ := (E8 r1 hk).ii hn
 obtain ⟨f, h1, h2⟩ := jQ hl
 obtain ⟨t, P⟩ := later f h1
 obtain ⟨l, vs, rfl, h3, h4⟩ := P.list h2
 exact rK hi h3 h4 hd fun r hr => n7 H2 S1 hr
theorem PlAt.dct {et : List (List Int × PyData)} (P : PlAt cx st W v (.dct et) t p) : ∃ x, v = .ref x /\ W.t x = t /\ DctAt cx.T W x et := by
 cases p with
 | loc i => exact P.2.2.2
 | fld i j => obtain ⟨n, P⟩ := P; exact P.r
theorem nF {k : Addr} {m n : Int} (r : Rep W v (.tuple [.int m, .int n])) : ∃ k, v = .ref k /\ IsTupleKey (intKind cx.T.prog cx.T.w) W.h [m, n] k /\ ∃ o, W.z.get? k = some o := by
 obtain ⟨a, vs, rfl, ⟨o, g, hc, nn, hd⟩, ht, hr⟩ := r.inv
 refine ⟨a, rfl, ⟨o, vs, nn, g, hc, hd, ?_⟩, o, w5 ht g⟩
 obtain ⟨v1, vs1, e1, r1, r2⟩ := hr.inv
 obtain ⟨v2, vs2, rfl, r3, r4⟩ := r2.inv
 cases r4.inv0
 rw [e1]
 obtain ⟨_, rfl⟩ := r1.inv
 obtain ⟨_, rfl⟩ := r3.inv
 exact .cons (by simp [intKind, Value.isInt]) (.cons (by simp [intKind, Value.isInt]) .nil)
theorem PlAt.pgs {ks : List Nat} (P : PlAt cx st W v (.pgs ks) t p) : ∃ a vs, v = .ref a /\ W.h.PlainList a vs /\ RelAll (IsPg W) vs.toList ks := by
 cases p with
 | loc i => obtain ⟨a, vs, h1, h2, _, h3⟩ := P.2.2.2; exact ⟨a, vs, h1, h2, h3⟩
 | fld i j => obtain ⟨n, P⟩ := P; exact P.r.elim
theorem yP (C : cx.Ok cb) (PC : i0 p = true -> PgCls cx.T) (hp : F4 cx.nm cx.env.scope.names p .pgx e = some es) (hfe : i0 p = true -> g8 a = false) (ha : ∀ c', (c' = true -> cx.c = true) -> SL U cx c' a es) : SL U cx cb (.peek .pgx p a) [e] := fun hf st W S tk T E H => by
 obtain ⟨x, i, q, rfl, rfl, hi, hm⟩ := gJ hp
 obtain ⟨hg, H⟩ := P3 H
 refine gO C PC hm hfe ha (A5 hf) S hg H fun v u fs st1 W1 tk1 S1 r1 H1 later => ?_
 obtain ⟨g, hg, H2⟩ := y9 H1
 obtain ⟨k, hk, hg⟩ := c0 hg
 obtain ⟨n, hn, hg⟩ := c0 hg
 obtain ⟨f, h1, hg⟩ := c0 hg
 obtain ⟨ks, h2, hg⟩ := c0 hg
 obtain ⟨d, hd, rfl⟩ := m3 hg
 obtain ⟨t1, rfl⟩ := (E8 r1 hk).ii hn
 obtain ⟨t, P⟩ := later f h1
 cases f with
 | pgs ks' =>
  cases h2
  obtain ⟨l, vs, rfl, h3, h4⟩ := P.pgs
  obtain ⟨hz, j, hj, hx⟩ := X9 hd
  obtain ⟨r, hr, hpg⟩ := h4.get hx
  have hsz : vs.size = ks.length := h4.length
  exact tail_any (s := sh cx.T W1 tk1) (Heap.PlainList.isList h3).typeIs slot_list_getitem.lookup (tO (Heap.PlainList.isList h3) (by rw [hsz]; exact hj) (by rw [hsz]; exact hz) (by rw [<- Array.getElem?_toList]; exact hr) (z6 H2 Le.refl S1 hpg)) (P7 hi _ _)
 | _ => exact nos h2
theorem x0a (C : cx.Ok cb) (PC : i0 p = true -> PgCls cx.T) (hp : F4 cx.nm cx.env.scope.names p .key e = some es) (hfe : i0 p = true -> g8 a = false) (ha : ∀ c', (c' = true -> cx.c = true) -> SL U cx c' a es) : SL U cx cb (.peek .key p a) [e] := fun hf st W S tk T E H => by
 obtain ⟨x, i, q, rfl, rfl, hi, hm⟩ := gJ hp
 obtain ⟨hg, H⟩ := P3 H
 refine gO C PC hm hfe ha (A5 hf) S hg H fun v u fs st1 W1 tk1 S1 r1 H1 later => ?_
 obtain ⟨g, hg, H2⟩ := y9 H1
 obtain ⟨k, hk, hg⟩ := c0 hg
 obtain ⟨n, hn, hg⟩ := c0 hg
 obtain ⟨ys, hl, hg⟩ := c0 hg
 obtain ⟨d, hd, rfl⟩ := m3 hg
 obtain ⟨m1, m2, rfl, rfl⟩ := oR hn
 obtain ⟨ka, rfl, hkey, _⟩ := nF (cx := cx) (k := 0) (E8 r1 hk)
 obtain ⟨t, P⟩ := later _ (rF hl)
 obtain ⟨dx, rfl, _, hsys, xt, hdo, hrt⟩ := P.dct
 obtain ⟨kv, hkv, hr⟩ := (hrt.find (q := [m1, m2])).2 d hd
 refine tail_any (s := sh cx.T W1 tk1) hdo.typeIs slot_dict_getitem.lookup (wpAny_getItem_heap (knd := tupleKind (intKind cx.T.prog cx.T.w)) ?_ hkey hdo hkv (n7 H2 S1 hr)) (P7 hi _ _)
 exact tupleKind_room_in1 (knd := intKind cx.T.prog cx.T.w) (Nat.lt_of_le_of_lt (Nat.add_le_add_left (by decide : 1 <= 200) _) C.units)
theorem wE {M : Model} {A : Around} {s : Shared} {env : Env} (h : Q (.ref s.heap.objs.size) { s with heap := s.heap.push { cls := .type "list", data := .seq #[] } }) : wpAny M A (eval (.List [] pos) env) Q E s :=
 wpAny_List (wpAny_items_nil ⟨Nat.zero_le _, h⟩)
theorem x5C {ne : Bool} (C : cx.Ok cb) (PC : i0 p = true -> PgCls cx.T) (hm : j8 cx.nm cx.env.scope.names p x = true) : SC U cx cb (.cmpNil ne p) x (if ne then .NotEq else .Eq) (.List [] pos) := fun hf st W S tk Q E H => by
 replace H : Post cx (cx.d + 1) cb RV W Q E (oneO ((listAt st p).map fun xs => bV (if ne then !xs.isEmpty else xs.isEmpty)) st) := H
 cases hl : listAt st p with
 | none => rw [hl] at H; exact H.elim
 | some xs =>
  rw [hl] at H
  obtain ⟨f, h1, h2⟩ := jQ hl
  refine B3 C PC S hm h1 fun v t tk' P => wE ?_
  obtain ⟨l, vs, rfl, h3, h4⟩ := P.list h2
  obtain ⟨l1, S1, z1⟩ := S.new (b := cx.d + 1) (cb := cb) (o := { cls := .type "list", data := .seq #[] }) .junk rfl rfl
  have hq : Q (.bool (if ne then !xs.isEmpty else xs.isEmpty)) { (sh cx.T W tk') with heap := W.h.push { cls := .type "list", data := .seq #[] } } := H ⟨W.t.put W.h.objs.size .junk, W.h.push { cls := .type "list", data := .seq #[] }⟩ tk' _ l1 S1 ⟨_, rfl, rfl⟩
  have g1 : (W.h.push { cls := .type "list", data := .seq #[] }).IsList l vs := h3.at fun o e => Heap.get?_push_of_some _ e
  have g2 : (W.h.push { cls := .type "list", data := .seq #[] }).IsList W.h.objs.size #[] := ⟨_, Heap.get?_push_size _ rfl, rfl, _, rfl⟩
  have hu : cx.A.units < cLine := Nat.lt_of_le_of_lt (Nat.le_add_right _ _) C.units
  have hlen := h4.length
  cases xs with
  | nil =>
   cases Array.ext' (ys := #[]) (List.eq_nil_of_length_eq_zero hlen)
   cases ne with
   | false => exact SeqAt.RcAt.lists (items := #[]) (items2 := #[]) (e := fun _ => true) g1 g2 rfl hu (fun j j1 => absurd j1 (Nat.not_lt_zero j)) _ _ E Q hq
   | true => exact SeqAt.RcNeAt.lists (items := #[]) (items2 := #[]) (e := fun _ => true) g1 g2 rfl hu (fun j j1 => absurd j1 (Nat.not_lt_zero j)) _ _ E Q hq
  | cons d ds =>
   have hne : (vs.size != (#[] : Array Value).size) = true := by
    rw [show vs.size = ds.length + 1 from hlen]; rfl
   cases ne with
   | false => exact SeqAt.RcAt.lists_lengths g1 g2 hne hu _ _ E Q hq
   | true => exact SeqAt.RcNeAt.lists_lengths g1 g2 hne hu _ _ E Q hq
end
noncomputable def ownedNames : List String := ["enumerate", "zip", "dict_itemiterator", "dict_reverseitemiterator", "odict_iterator", "itertools.zip_longest", "itertools.pairwise"]
structure WalkI (cx : Cx) (W : Ws) (xs : List PyData) (I : Addr) (fp : List Addr) (P : Nat -> Value -> Prop) (St : Nat -> Heap -> Prop) : Prop where
 wk : ∀ A : Around, A.handled = cx.A.handled -> Walks cx.T.prog cx.T.w A I fp [I] xs.length P St
 rep : ∀ i v, P i v -> ∃ d, xs[i]? = some d /\ Rep W v d
 cover : ∀ b ∈ fp, b = I \/ ∃ o, W.get b = some o /\ (W.t b).lent cx.d cx.c = true
 typed : ∀ i h, St i h -> ∃ o n, h.get? I = some o /\ o.cls = .type n /\ ownedNames.contains n = false
 junk : W.t I = .junk
 start : St 0 W.h
 size : xs.length <= sizeLine
noncomputable def RI (cx : Cx) (W : Ws) (v : Value) (xs : List PyData) : Prop := ∃ I fp P St, v = .ref I /\ WalkI cx W xs I fp P St
noncomputable def SI (U : Nat -> Fn) (cx : Cx) (cb : Bool) (kd : Nat) (c : CE) (e : Expr) : Prop := (g8 c = true -> cb = true) -> ∀ st W, Sim cx st W -> ∀ tk Q E, Post cx (cx.d + 1) cb (RI cx) W Q E ((ev U c st).bind (itE kd)) ->
 d9 cx (eval e cx.env) (fun x s₁ => d9 cx (pyIter x) Q E s₁) E (sh cx.T W tk)
section
variable {U : Nat -> Fn} {cx : Cx} {cb : Bool} {T : List Value -> Shared -> Prop} {Q : VP} {E : VP} {st : St} {W W' : Ws} {b tk : Nat} {d : PyData} {v u : Value} {f g : F} {e x y z l r : Expr} {a c : CE} {fs : List F} {vs : Array Value} {xs : List PyData} {t : Tag} {i : Nat}
theorem R1 {fp : List Addr} {P : Nat -> Value -> Prop} {St : Nat -> Heap -> Prop} {o : Obj} (S : Sim cx st W) (hf : o.isFreed = false) (H : Post cx b cb (RI cx) W Q E (.ok xs st))
  (k : ∀ W', Fz W W' -> (∀ x o, W.get x = some o -> W'.get x = some o /\ W'.t x = W.t x) -> W'.h = W.h.push o -> W'.t W.h.objs.size = .junk -> WalkI cx W' xs W.h.objs.size fp P St) :
  Q (.ref W.h.objs.size) { (sh cx.T W tk) with heap := W.h.push o } := by
 obtain ⟨l, S', z⟩ := S.new (b := b) (cb := cb) (o := o) .junk hf rfl
 refine H ⟨W.t.put W.h.objs.size .junk, W.h.push o⟩ tk _ l S' ⟨_, fp, P, St, rfl, k _ z (fun x o e => ⟨Heap.get?_push_of_some _ e, Tags.put_ne (Nat.ne_of_lt (Heap.lt_size e))⟩) rfl (Tags.put_self ..)⟩
theorem qQ {a : Addr} (hn : cx.A.handled = none) (S : Sim cx st W) (hl : W.h.IsList a vs) (ht : (W.t a).lent cx.d cx.c = true) (hr : RepAll W vs.toList xs) (hz : okLen xs.length = true) (H : Post cx b cb (RI cx) W Q E (.ok xs st)) : d9 cx (pyIter (.ref a)) Q E (sh cx.T W tk) := by
 obtain ⟨o, ho, hc, n, hd⟩ := id hl
 have hne : a ≠ W.h.objs.size := Nat.ne_of_lt (Heap.lt_size ho)
 refine wpAny_pyIter_list (s := sh cx.T W tk) hl (R1 S rfl H fun W' z k hh hj => ⟨fun A hA => by rw [<- hr.size]; exact Walks.list (hA.trans hn) _ a hne vs, fun i v hv => (hr.mono z).get' (by rw [Array.getElem?_toList]; exact hv), fun b hb => ?_, ?_, hj, ?_, o9 hz⟩)
 . rcases List.mem_cons.mp hb with rfl | hb
   . exact .inl rfl
   . cases lsm hb; exact .inr ⟨o, (k _ o ho).1, by rw [(k _ o ho).2]; exact ht⟩
 . rintro i h ⟨⟨o, ho, hc, hd⟩, _⟩; exact ⟨o, _, ho, hc, by decide⟩
 . rw [hh]; exact ⟨⟨_, Heap.get?_push_size _ rfl, rfl, rfl⟩, hl.at fun o e => Heap.get?_push_of_some _ e⟩
theorem xC {a : Addr} (hn : cx.A.handled = none) (S : Sim cx st W) (hl : IsTup W.h a vs) (ht : W.t a = .fz) (hr : RepAll W vs.toList xs) (hz : okLen xs.length = true) (H : Post cx b cb (RI cx) W Q E (.ok xs st)) : d9 cx (pyIter (.ref a)) Q E (sh cx.T W tk) := by
 obtain ⟨o, ho, hc, n, hd⟩ := id hl
 have hne : a ≠ W.h.objs.size := Nat.ne_of_lt (Heap.lt_size ho)
 refine wpAny_pyIter_tuple (s := sh cx.T W tk) ⟨o, ho, hc, n, hd⟩ (R1 S rfl H fun W' z k hh hj => ⟨fun A hA => by rw [<- hr.size]; exact Walks.tuple (hA.trans hn) _ a hne vs, fun i v hv => (hr.mono z).get' (by rw [Array.getElem?_toList]; exact hv), fun b hb => ?_, ?_, hj, ?_, o9 hz⟩)
 . rcases List.mem_cons.mp hb with rfl | hb
   . exact .inl rfl
   . cases lsm hb; exact .inr ⟨o, (k _ o ho).1, by rw [(k _ o ho).2, ht]; rfl⟩
 . rintro i h ⟨⟨o, ho, hc, hd⟩, _⟩; exact ⟨o, _, ho, hc, by decide⟩
 . rw [hh]; exact ⟨⟨_, Heap.get?_push_size _ rfl, rfl, rfl⟩, o, Heap.get?_push_of_some _ ho, hc, n, hd⟩
theorem X2 {q : Str} {i : Nat} (h : SignAt q i v) : ∃ d, ((cs q).map sgn)[i]? = some d /\ Rep W v d := by
 obtain ⟨c, u, hc, rfl⟩ := h
 refine ⟨sgn c, ?_, .str⟩
 rw [List.getElem?_map, show (cs q)[i]? = some c from (Array.getElem?_toList).trans hc]; rfl
theorem xP {q : Str} {t : Tok} (hn : cx.A.handled = none) (S : Sim cx st W) (hz : okLen (cs q).length = true) (H : Post cx b cb (RI cx) W Q E (.ok ((cs q).map sgn) st)) : d9 cx (pyIter (.str q t)) Q E (sh cx.T W tk) := by
 have hlen : q.cps.size = ((cs q).map sgn).length := by rw [i7]; exact Array.length_toList.symm
 have hz' : ((cs q).map sgn).length <= sizeLine := by rw [i7]; exact o9 hz
 cases hasc : q.cps.all (· < 128) with
 | false =>
  refine wpAny_pyIter_wide hasc (R1 S rfl H fun W' z k hh hj => ⟨fun A hA => by rw [<- hlen]; exact Walks.strWide (hA.trans hn) _ q t, fun i v => X2, fun b hb => .inl (lsm hb), ?_, hj, ?_, hz'⟩)
  . rintro i h ⟨o, ho, hc, hd⟩; exact ⟨o, _, ho, hc, by decide⟩
  . rw [hh]; exact ⟨_, Heap.get?_push_size _ rfl, rfl, rfl⟩
 | true =>
  refine wpAny_pyIter_ascii hasc (R1 S rfl H fun W' z k hh hj => ⟨fun A hA => by rw [<- hlen]; exact Walks.strAscii (hA.trans hn) _ q t, fun i v => X2, fun b hb => .inl (lsm hb), ?_, hj, ?_, hz'⟩)
  . rintro i h ⟨o, ho, hc, hd⟩; exact ⟨o, _, ho, hc, by decide⟩
  . rw [hh]; exact ⟨_, Heap.get?_push_size _ rfl, rfl, rfl⟩
theorem x5e (hn : cx.A.handled = none) (S : Sim cx st W) (hv : Rep W v d) (h : itemsF d = some xs) (H : Post cx b cb (RI cx) W Q E (.ok xs st)) : d9 cx (pyIter v) Q E (sh cx.T W tk) := by
 rcases v7 h with h | h
 . rcases v7 h with h | h
   . obtain ⟨q, hq, h⟩ := c0 h
     obtain ⟨hz, rfl⟩ := i5 h
     obtain ⟨_, rfl⟩ := hv.ss hq
     exact xP hn S hz H
   . obtain ⟨q, hq, h⟩ := c0 h
     obtain ⟨hz, rfl⟩ := i5 h
     obtain ⟨a, vs, rfl, hl, ht, hr⟩ := hv.ll hq
     exact qQ hn S hl (by rw [ht]; rfl) hr hz H
 . obtain ⟨q, hq, h⟩ := c0 h
   obtain ⟨hz, rfl⟩ := i5 h
   obtain ⟨a, vs, rfl, hl, ht, hr⟩ := hv.tt hq
   exact xC hn S hl ht hr hz H
theorem nR {K : PyData -> Option (List PyData)} (b : Nat) (cb : Bool) (S : Sim cx st W) (r : RepA cx W v f) (hK : itF1 K st.v f = some xs) : ∃ t', Le cx.d b cb W ⟨t', W.h⟩ /\ Sim cx st ⟨t', W.h⟩ /\
  ((∃ a vs, v = .ref a /\ W.h.IsList a vs /\ (t' a).lent cx.d cx.c = true /\ RepAll ⟨t', W.h⟩ vs.toList xs /\ okLen xs.length = true) \/ ∃ d, Rep ⟨t', W.h⟩ v d /\ K d = some xs) := by
 cases f with
 | val d => exact ⟨W.t, Le.refl, S, .inr ⟨d, r, hK⟩⟩
 | own ys =>
  obtain ⟨hz, rfl⟩ := i5 (show gd (okLen ys.length) ys = some xs from hK)
  obtain ⟨t', l2, S2, r2, _⟩ := S.frz (c := cb) b r
  obtain ⟨a, vs, rfl, hl, ht, hr⟩ := Rep.inv (d := .list ys) r2
  exact ⟨t', l2, S2, .inl ⟨a, vs, rfl, hl, by rw [show t' a = .fz from ht]; rfl, hr, hz⟩⟩
 | lnd i =>
  obtain ⟨y, h1, h2, h3⟩ := r
  replace hK : gR K st.v i = some xs := hK
  unfold gR at hK
  cases hs : slot st.v i with
  | none => rw [hs] at hK; exact nos hK
  | some g =>
   rw [hs] at hK
   obtain ⟨u, hu, r⟩ := S.fr.vals i g y hs h1 h2
   cases h3.uniq hu
   refine ⟨W.t, Le.refl, S, ?_⟩
   cases g with
   | brw ys =>
    obtain ⟨hz, rfl⟩ := i5 (show gd (okLen ys.length) ys = some xs from hK)
    obtain ⟨a, vs, rfl, hl, ht, hr⟩ := r
    exact .inl ⟨a, vs, rfl, hl, ht, hr, hz⟩
   | val d => exact .inr ⟨d, r, hK⟩
   | _ => exact nos hK
 | _ => exact nos hK
theorem zE (hn : cx.A.handled = none) (S : Sim cx st W) (r : RepA cx W v f) (hK : itF1 itemsF st.v f = some xs) (H : Post cx b cb (RI cx) W Q E (.ok xs st)) : d9 cx (pyIter v) Q E (sh cx.T W tk) := by
 obtain ⟨t', l, S', h⟩ := nR b cb S r hK
 rcases h with ⟨a, vs, rfl, hl, ht, hr, hz⟩ | ⟨d, hr, hd⟩
 . exact qQ hn (W := ⟨t', W.h⟩) S' hl ht hr hz (H.to l)
 . exact x5e hn (W := ⟨t', W.h⟩) S' hr hd (H.to l)
theorem bT (r : RepL cx W [v] fs) (h : one fs = some f) : RepA cx W v f := by cases n0 h; exact r.1
theorem mK (hn : cx.A.handled = none) (ha : SL U cx cb a [e]) : SI U cx cb 0 a e := fun hf st W S tk Q E H =>
 ha hf st W S tk (r6 fun v s => d9 cx (pyIter v) Q E s) E (Post.bind' H fun x st1 W1 tk1 vs l1 S1 r1 H1 => by
  unfold itE at H1
  cases hi : itF 0 st1.v x with
  | none => rw [hi] at H1; exact H1.elim
  | some xs =>
   rw [hi] at H1
   obtain ⟨f, h1, h2⟩ := c0 (show (one x).bind (itF1 itemsF st1.v) = some xs from hi)
   match vs, r1 with
   | [v], r1 => exact zE hn S1 (bT r1 h1) h2 H1
   | [], _ => trivial
   | _ :: _ :: _, _ => trivial)
end
section
variable {prog : Program} {w : World} {A : Around} {E : VP} {s : Shared} {it : Addr} {x left step : Int} {Q : Option Value -> Shared -> Prop}
theorem x3y : entryFor table "proto.unchain" = some Builtin.«proto.unchain» := entryFor_of_tree (by kernel_rfl)
theorem x5E (hh : Hnd A.handled s.heap) (hit : IsRangeIter s.heap it x left step) (hleft : left <= 0) (hQ : ∀ h', Heap.ExtBut it s.heap h' -> Q none { s with heap := h' }) : wpAny (model prog w) A (pyNext (.ref it)) Q E s := by
 obtain ⟨e, oe, vs, hh, he, hd, h2⟩ := hh
 have hT : s.TypeIs (.ref it) "range_iterator" := ⟨_, hit, rfl⟩
 have hlt := Heap.lt_size he
 unfold pyNext
 refine wpAny_bind (wpAny_attempt (wpAny_callSpecial?_slot (name := Str.ofString "__next__") hT F.slot_range_iterator_next (wpAny_call_entry F.slot_range_iterator_next hT F.entry_range_iterator_next ?_ (F.args_range_iterator_next_1 _))))
 refine wpAny_bind (m := field (.ref it) 0) (wpAny_field hit rfl (x := rawInt x) rfl (wpAny_bind (m := field (.ref it) 1) (wpAny_field hit rfl (x := rawInt left) rfl (wpAny_bind (m := field (.ref it) 2) (wpAny_field hit rfl (x := rawInt step) rfl ?_)))))
 show wpAny _ _ (if left <= 0 then _ else _) _ _ s
 rw [if_pos hleft]
 refine wpAny_bind (wpAny_rule (wpAny_bind ?_))
 show wpAny _ _ (newExc (.type "StopIteration") [] >>= _) _ _ _
 refine wpAny_bind ?_
 simp only [newExc, newTuple]
 refine wpAny_bind (wpAny_newObj_type (wpAny_bind (m := firstArgMember _ _) (wpAny_of_eq (a := Value.none) (by first | rfl | (simp only [firstArgMember]; rfl)) (wpAny_newObj_type ?_ (by size_fits)))) (by size_fits))
 delta raiseNew
 refine wpAny_bind (wpAny_handled ?_)
 rw [show A.in1.handled = some (.ref e) from hh]
 generalize hH : (s.heap.push { cls := Value.type "tuple", data := Data.seq #[] }) = H
 have kH : ∀ b o, s.heap.get? b = some o -> H.get? b = some o := fun b o g => hH ▸ Heap.get?_push_of_some _ g
 generalize hX : ({ cls := Value.type "StopIteration", data := Data.fields (#[Value.ref s.heap.objs.size, Value.none, Value.none, Value.none, Value.bool false, Value.none] ++ ownMembersOf (Value.type "StopIteration") []) } : Obj) = X
 have ne : e ≠ H.objs.size := Nat.ne_of_lt (Heap.lt_size (kH _ _ he))
 have he' := Heap.get?_push_of_some X (kH _ _ he)
 have hf : X.isFreed = false := hX ▸ rfl
 show wpAny _ _ (if (Value.ref e != Value.ref H.objs.size) = true then _ else _) _ _ _
 rw [if_pos (by simpa using ne)]
 refine wpAny_bind (wpAny_holding (wpAny_runValue (codeAny_builtin x3y ?_)))
 refine wpAny_bind (m := field (.ref e) 2) (wpAny_field he' hd h2 ?_)
 show wpAny _ _ (ret .none) _ _ _
 refine wpAny_pure ?_
 show wpAny _ _ (setField (.ref H.objs.size) 2 (.ref e) >>= _) _ _ _
 have hX' : X.data = .fields #[Value.ref s.heap.objs.size, Value.none, Value.none, Value.none, Value.bool false, Value.none] := hX ▸ rfl
 have gX := Heap.get?_push_size H (o := X) hf
 refine wpAny_bind (wpAny_setField gX hX' (by show 2 < 6; decide) (wpAny_throw ?_))
 have gX' := Heap.get?_update_self (Obj.mapFields (·.setIfInBounds 2 (Value.ref e))) gX (Obj.isFreed_of_fields (Obj.data_mapFields hX' _))
 refine wpAny_bind (wpAny_isInstance (T := "StopIteration") (b := true) ⟨_, gX', (Obj.cls_mapFields _ _).trans (hX ▸ rfl)⟩ isSubtype_stop ?_)
 refine wpAny_pure (hQ _ fun b o hb g => ?_)
 have g1 := kH b o g
 exact (Heap.get?_update_other _ _ (Nat.ne_of_gt (Heap.lt_size g1))).trans (Heap.get?_push_of_some X g1)
noncomputable def hdA : Option Value -> List Addr
 | some (.ref e) => [e]
 | _ => []
theorem Hnd.keep {hd : Option Value} {h h' : Heap} (k : ∀ b ∈ hdA hd, ∀ o, h.get? b = some o -> h'.get? b = some o) (q : hd = none \/ Hnd hd h) : hd = none \/ Hnd hd h' :=
 q.imp id fun ⟨e, oe, vs, h1, h2, h3⟩ => ⟨e, oe, vs, h1, k e (by rw [h1]; exact .head _) oe h2, h3⟩
theorem x3v (A : Around) (I : Addr) (lo : Int) (n : Nat) : Walks prog w A I (I :: hdA A.handled) [I] n (fun i v => i < n /\ ∃ t, v = .int (lo + (i : Nat)) t) (fun i h => IsRangeIter h I (lo + (i : Nat)) ((n : Int) - (i : Nat)) 1 /\ (A.handled = none \/ Hnd A.handled h)) where
 sub := fun b hb => lsm hb ▸ .head _
 frame := fun _ _ _ st hk => ⟨hk I (.head _) _ st.1, Hnd.keep (fun b hb o g => hk b (.tail _ hb) o g) st.2⟩
 item := fun i s Q E hi st hQ => wpAny_pyNext_range_item st.1 (by lia) fun h' hit' hs' => by
  refine hQ _ h' _ ⟨hi, _, rfl⟩ ⟨?_, st.2.imp id fun ⟨e, oe, vs, h1, h2, h3, h4⟩ => ⟨e, oe, vs, h1, (hs'.2 e fun q => ?_).trans h2, h3, h4⟩⟩ fun b o hb e => hs'.extBut b o (fun h => hb (List.mem_singleton.mpr h)) e
  . have e1 : lo + ((i + 1 : Nat) : Int) = lo + (i : Int) + 1 := by lia
    have e2 : (n : Int) - ((i + 1 : Nat) : Int) = (n : Int) - (i : Int) - 1 := by lia
    rw [e1, e2]; exact hit'
  . subst q
    cases h2.symm.trans st.1
    cases h3
    cases h4
 done := fun s Q E st hQ => by
  have fin : ∀ h', Heap.ExtBut I s.heap h' -> Q none { s with heap := h' } := fun h' he' => hQ h' s.toks fun b o hb e => he' b o (fun h => hb (List.mem_singleton.mpr h)) e
  rcases st.2 with hh | hh
  . exact wpAny_pyNext_range_end hh st.1 (by lia) fin
  . exact x5E hh st.1 (by lia) fin
 self := fun _ _ _ _ st hQ => wpAny_pyIter_rangeiter st.1 hQ
end
section
variable {U : Nat -> Fn} {cx : Cx} {cb : Bool} {T : List Value -> Shared -> Prop} {Q : VP} {E : VP} {st : St} {W W' : Ws} {b tk : Nat} {d : PyData} {v : Value} {f : F} {e x z r : Expr} {es : List Expr} {a : CE} {vs : Array Value} {xs : List PyData} {t : Tag} {i : Nat} {lo hi : Int}
theorem yS (h : rangeF lo hi = some xs) : (-16777216 <= lo /\ lo <= 16777216) /\ (-16777216 <= hi /\ hi <= 16777216) /\ (hi - lo).toNat <= sizeLine /\ xs = (List.range (hi - lo).toNat).map fun (k : Nat) => PyData.int (lo + k) := by
 obtain ⟨h', rfl⟩ := i5 h
 obtain ⟨h', h3⟩ := and2 h'
 obtain ⟨h1, h2⟩ := and2 h'
 exact ⟨(cZ h1).symm, (cZ h2).symm, o9 h3, rfl⟩
theorem Sim.hd (C : cx.Ok cb) (S : Sim cx st W) : cx.A.handled = none \/ Hnd cx.A.handled W.z := by
 cases h : cx.h with
 | false => exact .inl (C.hand h)
 | true => exact .inr (S.fr.hnd h)
theorem x4x {R : Addr} {t1 t2 t3 : Tok} (hd : cx.A.handled = none \/ Hnd cx.A.handled W.z) (S : Sim cx st W) (hR : IsRange W.h R lo hi 1 t1 t2 t3) (h : rangeF lo hi = some xs) (H : Post cx b cb (RI cx) W Q E (.ok xs st)) : d9 cx (pyIter (.ref R)) Q E (sh cx.T W tk) := by
 obtain ⟨hlo, hhi, hz, rfl⟩ := yS h
 have hsz : Builtin.Range.rangeSize lo hi 1 = (((hi - lo).toNat : Nat) : Int) := by rw [rangeSize_one]; split <;> lia
 have hlen : ((List.range (hi - lo).toNat).map fun (k : Nat) => PyData.int (lo + k)).length = (hi - lo).toNat := by rw [i7, List.length_range]
 refine wpAny_pyIter_range (s := sh cx.T W tk) hR (small_one (by lia) (by lia) (by lia) (by lia)) (R1 (fp := W.h.objs.size :: hdA cx.A.handled) (P := fun i v => i < (hi - lo).toNat /\ ∃ t, v = .int (lo + (i : Nat)) t)
  (St := fun i h => IsRangeIter h W.h.objs.size (lo + (i : Nat)) (((hi - lo).toNat : Int) - (i : Nat)) 1 /\ (cx.A.handled = none \/ Hnd cx.A.handled h)) S rfl H fun W' z k hh hj => ⟨fun A' hA => by rw [hlen, <- hA]; exact x3v A' _ lo _, ?_, fun b hb => ?_, fun i h hi => ⟨_, _, hi.1, rfl, by decide⟩, hj, ⟨?_, hd.imp id fun q => ?_⟩, by rw [hlen]; exact hz⟩)
 . rintro i v ⟨hi', t, rfl⟩
   exact ⟨.int (lo + i), by rw [List.getElem?_map, List.getElem?_range hi']; rfl, .int⟩
 . rcases List.mem_cons.mp hb with rfl | hb
   . exact .inl rfl
   . rcases hd with hd | ⟨e, oe, vs, h1, h2, _⟩
     . rw [hd] at hb; cases hb
     . rw [h1] at hb
       cases lsm hb
       have := q9 (z _ _ h2)
       exact .inr ⟨oe, this.2, by rw [this.1]; rfl⟩
 . rw [hh, hsz, show ((0 : Nat) : Int) = 0 from rfl, Int.add_zero, Int.sub_zero]
   exact Heap.get?_push_size W.h (o := { cls := .type "range_iterator", data := .fields #[rawInt lo, rawInt (((hi - lo).toNat : Nat) : Int), rawInt 1] }) rfl
 . obtain ⟨e, oe, vs, h1, h2, h3⟩ := q
   exact ⟨e, oe, vs, h1, (q9 (z _ _ h2)).2, h3⟩
theorem qW (TO : cx.T.Ok) (C : cx.Ok cb) (hp : J5 cx.env.scope.names 1 e = some es) (ha : SL U cx cb a es) : SI U cx cb 1 a e := fun hf st W S tk Q E H => by
 refine S9 TO C S hp (fv := .type "range") (by decide +kernel) (.inr ⟨"range", rfl⟩) (ha hf st W S tk _ E (Post.bind' H fun x st1 W1 tk1 vs l1 S1 r1 H1 => ?_))
 unfold itE at H1
 cases hi : itF 1 st1.v x with
 | none => rw [hi] at H1; exact H1.elim
 | some xs =>
  rw [hi] at H1
  have go : ∀ {o : Obj} {lo hi : Int} {t1 t2 t3 tk2 : Nat}, o = { cls := .type "range", data := .fields #[.int lo t1, .int hi t2, .int 1 t3] } -> rangeF lo hi = some xs -> d9 cx (pyIter (.ref W1.h.objs.size)) Q E (sh cx.T ⟨W1.t, W1.h.push o⟩ tk2) := fun {o lo hi t1 t2 t3 tk2} ho h => by
   subst ho
   obtain ⟨l2, S2, z2⟩ := S1.new (b := cx.d + 1) (cb := cb) (o := { cls := .type "range", data := .fields #[.int lo t1, .int hi t2, .int 1 t3] }) .junk rfl rfl
   exact x4x (S2.hd C) (W := ⟨W1.t.put W1.h.objs.size .junk, W1.h.push { cls := .type "range", data := .fields #[.int lo t1, .int hi t2, .int 1 t3] }⟩) S2 (IsRange.new ..) h (H1.to l2)
  rcases v7 (show ((one x).bind fun f => (valOf f).bind fun d => (asI d).bind fun n => rangeF 0 n).or ((valsOf x).bind fun ds => (z8 ds).bind fun q => o8 asI q.1 q.2 rangeF) = some xs from hi) with hi | hi
  . obtain ⟨f, h1, hi1⟩ := c0 hi
    obtain ⟨d, h2, hi2⟩ := c0 hi1
    obtain ⟨n, h3, hi3⟩ := c0 hi2
    obtain ⟨d', hf', h4⟩ := eF (as := asI) (f := f) (t := n) (by rw [h2]; exact h3)
    cases n0 h1
    subst hf'
    obtain ⟨v, rfl, r⟩ := r1.one
    obtain ⟨t, rfl⟩ := Rep.ii h4 r
    exact call_range_1 (go rfl hi3)
  . obtain ⟨ds, hd, hi1⟩ := c0 hi
    obtain ⟨q, hq, hi2⟩ := c0 hi1
    obtain ⟨m, n, hm, hn, hi3⟩ := A1 hi2
    obtain ⟨v1, vs1, rfl, r2, r3⟩ := (D2 hq ▸ V7 r1 hd).inv
    obtain ⟨v2, vs2, rfl, r4, r5⟩ := r3.inv
    cases r5.inv0
    obtain ⟨_, rfl⟩ := r2.ii hm
    obtain ⟨_, rfl⟩ := r4.ii hn
    exact call_range_2 (go rfl hi3)
end
noncomputable def F.isRet : F -> Bool
 | .val _ => true
 | .own _ => true
 | _ => false
noncomputable def p9 (cx : Cx) (W : Ws) (fl : Flow) : Fl -> Prop
 | .next => fl = .next
 | .ret f => ∃ v, fl = .ret v /\ RepA cx W v f /\ f.isRet = true
noncomputable def SS (U : Nat -> Fn) (cx : Cx) (c : CS) (t : Stmt) : Prop := ∀ st W, Sim cx st W -> ∀ tk Q E, Post cx cx.d cx.c (p9 cx) W Q E (ex U c st) -> d9 cx (exec t cx.env) Q E (sh cx.T W tk)
noncomputable def y1 (U : Nat -> Fn) (cx : Cx) (c : CS) (ts : List Stmt) : Prop := ∀ st W, Sim cx st W -> ∀ tk Q E, Post cx cx.d cx.c (p9 cx) W Q E (ex U c st) -> d9 cx (execs ts cx.env) Q E (sh cx.T W tk)
section
variable {U : Nat -> Fn} {cx : Cx} {cb : Bool} {T : List Value -> Shared -> Prop} {Q : FP} {E : VP} {st st' : St} {W W' : Ws} {b tk : Nat} {d : PyData} {v u : Value} {f g : F} {pos pos' : Pos} {e x y z l r : Expr} {es : List Expr} {a c : CE} {s s' : CS} {t : Stmt} {ts ts' : List Stmt} {p : Pl} {vs ws : Array Value} {xs ys : List PyData} {tg : Tag} {i : Nat}
theorem X5 {v : Expr} {t : Option Expr} {n : Nat} {env : Env} (h : A4 v = true) : swapsWith v t n env = pure false := by cases v <;> first | rfl | cases h
theorem y6 (H : Post cx b cb (p9 cx) W Q E (.ok .next st)) (l : Le cx.d b cb W W') (S : Sim cx st W') : Q .next (sh cx.T W' tk) := H W' tk .next l S rfl
theorem D9 {o : Option St} (H : Post cx b cb (p9 cx) W Q E (nextO o)) : ∃ st, o = some st /\ Post cx b cb (p9 cx) W Q E (.ok .next st) := by
 cases o with
 | none => exact H.elim
 | some st => exact ⟨st, rfl, H⟩
theorem SL.inS {δ γ : Type} {Rl : Ws -> γ -> δ -> Prop} {Q : γ -> Shared -> Prop} {k : List F -> St -> R δ} (h : SL U cx cx.c c es) (hc : g8 c = true -> cx.c = true) (S : Sim cx st W) (H : Post cx cx.d cx.c Rl W Q E ((ev U c st).bind k))
  (q : ∀ x st1 W1 tk1 vs, Le cx.d (cx.d + 1) cx.c W W1 -> Sim cx st1 W1 -> RepL cx W1 vs x -> Post cx cx.d cx.c Rl W1 Q E (k x st1) -> T vs (sh cx.T W1 tk1)) : seqW cx E es T (sh cx.T W tk) :=
 h hc st W S tk T E (H.bind (Nat.le_succ _) id q)
theorem x3L : y1 U cx .nil [] := fun st W S tk Q E H => wpAny_execs_nil (y6 H Le.refl S)
theorem x2p (h1 : SS U cx s t) (h2 : y1 U cx s' ts) : y1 U cx (.seq s s') (t :: ts) := fun st W S tk Q E H => wpAny_execs_cons (h1 st W S tk _ E (Post.bind' H fun fl st1 W1 tk1 v l1 S1 r1 H1 => by
 cases fl with
 | next => cases show v = .next from r1; exact h2 st1 W1 S1 tk1 Q E H1
 | ret f => obtain ⟨u, rfl, r⟩ := r1; exact H1 W1 tk1 _ Le.refl S1 ⟨u, rfl, r⟩))
theorem eU {p : Pl} (h : storO f p = some g) : g = f /\ f.isLnd = false := by
 cases f with
 | val d => cases h; exact ⟨rfl, rfl⟩
 | own xs => cases h; exact ⟨rfl, rfl⟩
 | pg k => obtain ⟨_, rfl⟩ := i5 h; exact ⟨rfl, rfl⟩
 | _ => exact nos h
theorem wK (h : storO f (.fld 0 0) = some g) : g.isRet = true := by
 cases f with
 | val d => cases h; rfl
 | own xs => cases h; rfl
 | _ => exact nos h
theorem x0z (hc : g8 a = true -> cx.c = true) (ha : SL U cx cx.c a [x]) : SS U cx (.ret a) (.Return (some x) pos) := fun st W S tk Q E H =>
 wpAny_Return_some (ha.inS (T := r6 fun v s => Q (.ret v) s) hc S H fun y st1 W1 tk1 vs l1 S1 r1 H1 => by
  unfold P5 at H1
  cases hg : (one y).bind fun f => storO f (.fld 0 0) with
  | none => rw [hg] at H1; exact H1.elim
  | some g =>
   rw [hg] at H1
   obtain ⟨f, h1, h2⟩ := c0 hg
   have hr := wK h2
   obtain ⟨rfl, hf⟩ := eU h2
   match vs, r1 with
   | [v], r1 => exact H1 W1 tk1 _ Le.refl S1 ⟨v, rfl, bT r1 h1, hr⟩
   | [], _ => trivial
   | _ :: _ :: _, _ => trivial)
theorem x4D : SS U cx .retN (.Return none pos) := fun st W S tk Q E H => wpAny_Return_none (H W tk _ Le.refl S ⟨.none, rfl, show Rep W .none .none from .none, rfl⟩)
theorem x4Z (hc : g8 a = true -> cx.c = true) (ha : SB U cx cx.c a x) (h1 : y1 U cx s ts) (h2 : y1 U cx s' ts') : SS U cx (.iff a s s') (.If x ts ts' pos) := fun st W S tk Q E H =>
 wpAny_If (ha hc st W S tk _ E (H.bind (Nat.le_succ _) id fun t st1 W1 tk1 v l1 S1 r1 H1 => by
  cases show v = t from r1
  cases t with
  | true => exact h1 st1 W1 S1 tk1 Q E H1
  | false => exact h2 st1 W1 S1 tk1 Q E H1))
theorem PlAt.nt (P : PlAt cx st W v f tg p) : tg ≠ .fz /\ tg.isInst = false := by
 cases p with
 | loc i => rw [P.2.1]; exact ⟨Tag.noConfusion, rfl⟩
 | fld i j => obtain ⟨n, P⟩ := P; rw [P.tg]; exact ⟨Tag.noConfusion, rfl⟩
theorem Sim.changed {x : Addr} {h' : Heap} (S : Sim cx st W) (P : PlAt cx st W (.ref x) f tg p) (hx : W.t x = tg) (hcc : i0 p = true -> cx.c = true) (hcb : i0 p = true -> cb = true) (hs : ∀ b o, b ≠ x -> W.get b = some o -> h'.get? b = some o) (ho : ∃ o, h'.get? x = some o) (hr : Fz W ⟨W.t, h'⟩ -> RepF cx.T ⟨W.t, h'⟩ tg (.ref x) g) (hset : setP st (some g) p = some st') :
  Le cx.d b cb W ⟨W.t, h'⟩ /\ Sim cx st' ⟨W.t, h'⟩ := by
 have B : But x W ⟨W.t, h'⟩ := .keep hs
 obtain ⟨n1, n2⟩ := P.nt
 rw [<- hx] at n1 n2
 exact ⟨B.le (P.fr hx hcb) (R8 n2), S.putPl P hcc hx B ho (R8 n2) (fun f' e => by cases e; exact hr (B.fz n1)) hset⟩
theorem Sim.updPl {x : Addr} {h' : Heap} (S : Sim cx st W) (P : PlAt cx st W (.ref x) (.own xs) tg p) (hx : W.t x = tg) (hcc : i0 p = true -> cx.c = true) (hcb : i0 p = true -> cb = true) (hs : ∀ b o, b ≠ x -> W.get b = some o -> h'.get? b = some o) (hp : h'.PlainList x ws) (hr : RepAll W ws.toList ys) (hset : setP st (some (.own ys)) p = some st') :
  Le cx.d b cb W ⟨W.t, h'⟩ /\ Sim cx st' ⟨W.t, h'⟩ :=
 S.changed (g := .own ys) P hx hcc hcb hs (let ⟨n, g⟩ := hp; ⟨_, g⟩) (fun hz => ⟨x, ws, rfl, hp, hx, hr.mono hz⟩) hset
theorem eO (C : cx.Ok cb) : interactive cx.env = false := by unfold interactive; rw [C.kind]; rfl
theorem x2O (C : cx.Ok cx.c) (hc : g8 a = true -> cx.c = true) (ha : SL U cx cx.c a [x]) (hn : A4 x = true) : SS U cx (.drop a) (.Expr x pos) := fun st W S tk Q E H => by
 rw [exec_Expr cx.env x pos (eO C) (X5 hn)]
 exact wpAny_bind (wpAny_standAt (wpAny_bind (ha.inS (T := r6 fun v s => d9 cx (dropValue x pos v) Q E s) hc S H fun y st1 W1 tk1 vs l1 S1 r1 H1 => by
  match vs with
  | [v] => exact wpAny_dropValue (y6 H1 Le.refl S1)
  | [] => trivial
  | _ :: _ :: _ => trivial)))
theorem rR {n : Str} (C : cx.Ok cx.c) (Fu : cx.Full) (hn : isLoc cx.nm cx.env.scope.names i n = true) (hv : swapsWith x (some (.Name n pos')) pos.line cx.env = pure false) (hc : g8 a = true -> cx.c = true) (ha : SL U cx cx.c a [x]) : SS U cx (.assign (.loc i) a) (.Assign [.Name n pos'] x pos) := fun st W S tk Q E H =>
 wpAny_Assign_Name (ha.inS (T := r6 fun v s => d9 cx (storeName cx.env n v) (fun _ s => Q .next s) E s) hc S H fun y st1 W1 tk1 vs l1 S1 r1 H1 => by
  obtain ⟨st2, hs, H2⟩ := D9 H1
  obtain ⟨f, h1, hs1⟩ := c0 hs
  obtain ⟨g, h2, hs2⟩ := c0 hs1
  obtain ⟨rfl, hf⟩ := eU h2
  obtain ⟨hi, rfl⟩ := i5 hs2
  match vs, r1 with
  | [v], r1 => exact S1.store Fu C.kind (bT r1 h1) hf (E7 hn).1 (k6 hi) fun W' tk' l S' => y6 H2 l S'
  | [], _ => trivial
  | _ :: _ :: _, _ => trivial) hv
theorem cX {nm : List Str} {kd : Kd} {j : Nat} {is : List Nat} (h : mNames nm kd (j :: is) es = true) : ∃ z q r, es = .Name z q :: r /\ isLoc nm kd j z = true /\ mNames nm kd is r = true := by
 cases es with
 | nil => cases h
 | cons e es =>
  obtain ⟨h1, h2⟩ := and2 (show (onS (asName e) (isLoc nm kd j) && mNames nm kd is es) = true from h)
  obtain ⟨z, h3, h1⟩ := f9 h1
  obtain ⟨q, rfl⟩ := v9 h3
  exact ⟨z, q, es, rfl, h1, h2⟩
theorem nQ {nm : List Str} {kd : Kd} (h : mNames nm kd [] es = true) : es = [] := u7 h
theorem xL {nm : List Str} {kd : Kd} {env : Env} {is : List Nat} (h : mNames nm kd is es = true) : (assignEach es env).findIdx? (·.1) = none /\ (assignEach es env).length = is.length := by
 induction is generalizing es with
 | nil => rw [nQ h]; exact ⟨rfl, rfl⟩
 | cons j is ih =>
  obtain ⟨z, q, r, rfl, _, h2⟩ := cX h
  obtain ⟨i1, i2⟩ := ih h2
  refine ⟨?_, congrArg (· + 1) i2⟩
  show ((false, assign (.Name z q) env) :: assignEach r env).findIdx? (·.1) = none
  rw [List.findIdx?_cons, i1]; rfl
theorem wQ {is : List Nat} {ds : List PyData} {vv vv' : Slots} (h : setAll is ds vv = some vv') : is.length = ds.length := by
 induction is generalizing ds vv with
 | nil => rw [u7 (i5 h).1]; rfl
 | cons j is ih => cases ds with
  | nil => exact nos h
  | cons d ds => exact congrArg (· + 1) (ih (D0 h).2)
theorem xV {QU : UP} {is : List Nat} {ds : List PyData} {vl : List Value} {vv' : Slots} (C : cx.Ok cx.c) (Fu : cx.Full) (hm : mNames cx.nm cx.env.scope.names is es = true) (hr : RepAll W vl ds) (hs : setAll is ds st.v = some vv') (S : Sim cx st W)
  (hq : ∀ W' tk', Le cx.d cx.d cx.c W W' -> Sim cx { st with v := vv' } W' -> QU () (sh cx.T W' tk')) : d9 cx (assignInOrder ((assignEach es cx.env).map (·.2)) vl) QU E (sh cx.T W tk) := by
 induction is generalizing es ds vl st W tk with
 | nil =>
  rw [nQ hm]
  obtain ⟨h1, rfl⟩ := i5 hs
  rw [u7 h1] at hr
  cases hr.inv0
  exact wpAny_pure (hq W tk Le.refl S)
 | cons j is ih =>
  obtain ⟨z, q, r, rfl, h1, h2⟩ := cX hm
  cases ds with
  | nil => exact nos hs
  | cons d ds =>
   obtain ⟨hi, hs⟩ := D0 hs
   obtain ⟨v, vl, rfl, r1, r2⟩ := hr.inv
   show wpAny _ _ (do holding vl (assign (.Name z q) cx.env v); assignInOrder ((assignEach r cx.env).map (·.2)) vl) QU E _
   refine wpAny_bind (wpAny_holding (wpAny_assign_Name (S.store (cb := cx.c) (f := .val d) Fu C.kind r1 rfl (E7 h1).1 (k6 hi) fun W' tk' l S' => ?_)))
   exact ih h2 (r2.mono l.fz) hs S' fun W2 tk2 l2 S2 => hq W2 tk2 (l.trans l2) S2
theorem x4P {QU : UP} {is : List Nat} {ds : List PyData} {k : Nat} {vv' : Slots} (h0 : cx.h = false) (C : cx.Ok cx.c) (Fu : cx.Full) (hm : mNames cx.nm cx.env.scope.names is es = true) (hr : Rep W v (.tuple ds)) (hs : setAll is ds st.v = some vv') (S : Sim cx st W)
  (hq : ∀ W' tk', Le cx.d cx.d cx.c W W' -> Sim cx { st with v := vv' } W' -> QU () (sh cx.T W' tk')) : d9 cx (assign (.Tuple es k pos) cx.env v) QU E (sh cx.T W tk) := by
 obtain ⟨a, vs, rfl, ht, _, hr'⟩ := hr.inv
 obtain ⟨n1, n2⟩ := xL (env := cx.env) hm
 refine wpAny_assign_Tuple (s := sh cx.T W tk) (C.hand h0) ht (by rw [n2, wQ hs, hr'.size]) n1 fun h' he => ?_
 obtain ⟨l1, S1⟩ := S.grow (b := cx.d) (cb := cx.c) fun b o e => he b o (Nat.ne_of_lt (Heap.lt_size e)) e
 exact xV (W := ⟨W.t, h'⟩) C Fu hm (hr'.mono l1.fz) hs S1 fun W' tk' l2 S2 => hq W' tk' (l1.trans l2) S2
theorem vP {QU : UP} {many : Bool} {is : List Nat} (h0 : cx.h = false) (C : cx.Ok cx.c) (Fu : cx.Full) (hm : mT cx.nm cx.env.scope.names many is x = true) (hb : bindT many is d st = some st') (hr : Rep W v d) (S : Sim cx st W)
  (hq : ∀ W' tk', Le cx.d cx.d cx.c W W' -> Sim cx st' W' -> QU () (sh cx.T W' tk')) : d9 cx (assign x cx.env v) QU E (sh cx.T W tk) := by
 obtain ⟨vv, h1, rfl⟩ := m3 hb
 cases many with
 | true =>
  obtain ⟨ds, h2, h1⟩ := c0 h1
  obtain ⟨l, h3, hm⟩ := f9 hm
  obtain ⟨k, q, rfl⟩ := Y8 h3
  exact x4P h0 C Fu hm (iK h2 ▸ hr) h1 S hq
 | false =>
  obtain ⟨z, q, r, e1, h2, h3⟩ := cX (es := [x]) (is := is.tail) (j := is.headD 0) (by
   cases is with
   | nil => cases hm
   | cons j is => exact hm)
  cases e1
  cases is with
  | nil => cases hm
  | cons j is =>
   replace h1 : setAll (j :: is) [d] st.v = some vv := h1
   obtain ⟨hi, h1⟩ := D0 h1
   cases is with
   | cons _ _ => exact nos h1
   | nil =>
    obtain ⟨_, rfl⟩ := i5 h1
    exact wpAny_assign_Name (S.store (cb := cx.c) (f := .val d) Fu C.kind hr rfl (E7 h2).1 (k6 hi) hq)
theorem x0u {is : List Nat} {k : Nat} {tpos : Pos} (h0 : cx.h = false) (C : cx.Ok cx.c) (Fu : cx.Full) (hm : mNames cx.nm cx.env.scope.names is es = true) (hw : swapsWithSole [.Tuple es k tpos] x pos.line cx.env = pure false) (hw' : swappedStores [.Tuple es k tpos] x cx.env = pure none) (hc : g8 a = true -> cx.c = true) (ha : SL U cx cx.c a [x]) :
  SS U cx (.unpack is a) (.Assign [.Tuple es k tpos] x pos) := fun st W S tk Q E H =>
 Assign_Tuple (ha.inS (T := r6 fun v s => d9 cx (assign (.Tuple es k tpos) cx.env v) (fun _ => Q .next) E s) hc S H fun y st1 W1 tk1 vs l1 S1 r1 H1 => by
  obtain ⟨st2, hs, H2⟩ := D9 H1
  obtain ⟨d, h1, hs1⟩ := c0 hs
  match vs, r1 with
  | [v], r1 => exact vP (many := true) h0 C Fu (by show onS (asTup (.Tuple es k tpos)) _ = true; exact hm) hs1 (E8 r1 h1) S1 fun W' tk' l S' => y6 H2 l S'
  | [], _ => trivial
  | _ :: _ :: _, _ => trivial) hw hw'
end
section
variable {U : Nat -> Fn} {cx : Cx} {cb : Bool} {T : List Value -> Shared -> Prop} {Q : FP} {E : VP} {st : St} {W : Ws} {b tk : Nat} {d : PyData} {v u : Value} {f g : F} {pos apos cpos : Pos} {e x y l r : Expr} {es : List Expr} {a c : CE} {p : Pl} {fs : List F} {vs ws : Array Value} {xs ys : List PyData} {tg : Tag} {i : Nat}
theorem jE {n : Str} (hm : j8 cx.nm cx.env.scope.names p x = true) : attributeBase x n cx.env (eval x cx.env) = eval x cx.env := by
 cases p with
 | loc i =>
  obtain ⟨_, h3, _⟩ := f9 (show onS (asName x) _ = true from hm)
  obtain ⟨q, rfl⟩ := v9 h3
  rfl
 | fld i j =>
  obtain ⟨w, h3, _⟩ := f9 (show onS (asAttr x) _ = true from hm)
  rw [cI h3]; rfl
theorem x7a (C : cx.Ok cb) (PC : i0 p = true -> PgCls cx.T) (hp : F4 cx.nm cx.env.scope.names p .pop e = some es) (hpl : i0 p = false) (ha : SL U cx cb a es) : SL U cx cb (.peek .pop p a) [e] := fun hf st W S tk T E H => by
 obtain ⟨⟨r, l⟩, h1, hp⟩ := c0 hp
 obtain ⟨h2, rfl⟩ := i5 hp
 obtain ⟨hm, h2⟩ := and2 h2
 cases u7 h2
 obtain ⟨ap, p', rfl, hline, _⟩ := J4 h1
 obtain ⟨_, H⟩ := P3 H
 have no : i0 p = true -> ∀ {P : Prop}, P := fun q => by rw [hpl] at q; cases q
 refine ha (A5 hf) st W S tk (fun _ s => d9 cx (eval (.Call (.Attribute r "pop" ap) [] [] p') cx.env) (fun v s => T [v] s) E s) E (Post.bind' H fun x st1 W1 tk1 vs l1 S1 r1 H1 => ?_)
 replace H1 : Post cx (cx.d + 1) cb (RepL cx) W1 T E (match G8 p x st1 with | some q => .ok [.val q.1] q.2 | none => .stuck) := H1
 cases hpe : G8 p x st1 with
 | none => rw [hpe] at H1; exact H1.elim
 | some q =>
  rw [hpe] at H1
  obtain ⟨ys, hl, hg⟩ := c0 (D0 hpe).2
  obtain ⟨d, hd, hg⟩ := c0 hg
  obtain ⟨hz, hg⟩ := D0 hg
  obtain ⟨st2, hs, rfl⟩ := m3 hg
  refine Call_method0 (jE hm) hline (B3 C (fun q => no q) S1 hm (S4 hl) fun v t tk' PP => ?_)
  obtain ⟨xa, vs, rfl, ⟨n, ho⟩, hx, hr⟩ := PP.own
  have hsz := hr.size
  rw [List.getLast?_eq_getElem?] at hd
  obtain ⟨v, hv', hrv⟩ := hr.get hd
  refine ⟨"list", _, PySem.F.plainAttrs_list, PySem.F.slot_list_pop, PySem.F.type_list_pop, ⟨_, ho, rfl⟩, (fun a e => by cases e; exact ⟨_, ho, rfl⟩), ?_⟩
  refine P.pop_list (y := v) ho (by rw [hsz, <- Array.getElem?_toList]; exact hv') ?_ (by rw [hsz]; exact o9 hz)
  have hpl : (W1.h.update xa (Obj.mapSeq fun xs => xs.eraseIdxIfInBounds (vs.size - 1))).PlainList xa (vs.eraseIdxIfInBounds (vs.size - 1)) := ⟨_, Heap.get?_update_self _ ho rfl⟩
  have hdr : (vs.eraseIdxIfInBounds (vs.size - 1)).toList = vs.toList.take (vs.size - 1) := by
   rw [Array.toList_eraseIdxIfInBounds, List.eraseIdx_eq_take_drop_succ, List.drop_eq_nil_of_le (by rw [Array.length_toList]; lia), List.append_nil]
  obtain ⟨l3, S3⟩ := S1.updPl (b := cx.d + 1) (cb := cb) PP hx (fun q => no q) (fun q => no q) (fun b o n e => (Heap.SameBut.update _ _ _).2 b n |>.trans e) hpl (by rw [hdr, List.dropLast_eq_take, <- hsz]; exact hr.take _) hs
  exact z6 H1 l3 S3 (Rep.mono l3.fz hrv)
theorem uJ {δ γ : Type} {Rl : Ws -> γ -> δ -> Prop} {Q : γ -> Shared -> Prop} {K : List F -> St -> R δ} {QQ : VP} (C : cx.Ok cx.c) (PC : i0 p = true -> PgCls cx.T) (hm : j8 cx.nm cx.env.scope.names p x = true) (hfe : i0 p = true -> g8 a = false) (ha : ∀ c', (c' = true -> cx.c = true) -> SL U cx c' a es) (hf : g8 a = true -> cx.c = true) (S : Sim cx st W) (hg : getP st p = some g)
  (H : Post cx cx.d cx.c Rl W Q E ((ev U a st).bind K))
  (k : ∀ v tg tk', PlAt cx st W v g tg p -> (∀ {T : List Value -> Shared -> Prop}, (∀ fs st1 W1 tk1 vs, Fz W W1 -> Sim cx st1 W1 -> RepL cx W1 vs fs -> Post cx cx.d cx.c Rl W1 Q E (K fs st1) -> (∀ f, getP st1 p = some f -> ∃ t, PlAt cx st1 W1 v f t p) -> T vs (sh cx.T W1 tk1)) -> seqW cx E es T (sh cx.T W tk')) -> QQ v (sh cx.T W tk')) :
  d9 cx (eval x cx.env) QQ E (sh cx.T W tk) := by
 have hcb : (cx.c && !i0 p) = true -> cx.c = true := fun h => (and2 h).1
 refine B3 C PC S hm hg fun v t tk' P => k v t tk' P fun {T} q => ha (cx.c && !i0 p) hcb (fun h => ?_) st W S tk' T E (Post.bind (Nat.le_succ _) hcb H fun fs st1 W1 tk1 us l1 S1 r1 H1 => q fs st1 W1 tk1 us l1.fz S1 r1 H1 fun f hf => P.later S.fr S1 l1 (fun q => by rw [q]; exact Bool.and_false _) hf)
 cases hp : i0 p with
 | true => rw [hfe hp] at h; cases h
 | false => rw [hf h]; rfl
theorem dA {δ γ α : Type} {Rl : Ws -> γ -> δ -> Prop} {Q : γ -> Shared -> Prop} {o : Option α} {r : R δ} (H : Post cx b cb Rl W Q E (if o.isSome then r else .stuck)) : (∃ x, o = some x) /\ Post cx b cb Rl W Q E r := by
 cases o with
 | none => exact H.elim
 | some x => exact ⟨⟨x, rfl⟩, H⟩
theorem zV (C : cx.Ok cx.c) (PC : i0 p = true -> PgCls cx.T) (hm : j8 cx.nm cx.env.scope.names p x = true) (hcc : i0 p = true -> cx.c = true) (hs : m7 y = true) (hline : (apos.endLine == cpos.line) = true) (hfe : i0 p = true -> g8 a = false) (ha : ∀ c', (c' = true -> cx.c = true) -> SL U cx c' a [y]) (hf : g8 a = true -> cx.c = true) :
  SS U cx (.append p a) (.Expr (.Call (.Attribute x "append" apos) [y] [] cpos) pos) := fun st W S tk Q E H => by
 obtain ⟨⟨xs, hg⟩, H⟩ := dA H
 refine wpAny_Expr ?_ (eO C) rfl
 refine Call_method1 (jE hm) (N6 hs) hline (uJ C PC hm hfe ha hf S (S4 hg) H fun v tg tk' P k => ?_)
 obtain ⟨xa, vs, rfl, ⟨n, ho⟩, _, _⟩ := P.own
 refine ⟨"list", _, PySem.F.plainAttrs_list, PySem.F.slot_list_append, PySem.F.type_list_append, ⟨_, ho, rfl⟩, (fun a e => by cases e; exact ⟨_, ho, rfl⟩), ?_⟩
 refine callWith_builtin rfl (evalArgs_plain (spliced_cons (k (T := r6 fun v s => d9 cx (spliced []) (fun vs s => d9 cx (call (.builtin "list.append") ([.ref xa] ++ (v :: vs))) (fun v s' => match v with | .ref _ => False | _ => Q .next s') E s) E s) fun fs st1 W1 tk1 us _ S1 r1 H1 later => ?_)))
 match us, r1 with
 | [], _ => trivial
 | _ :: _ :: _, _ => trivial
 | [u], r1 =>
 refine spliced_nil ?_
 obtain ⟨st2, hs, H2⟩ := D9 H1
 obtain ⟨d, h1, hs⟩ := c0 hs
 obtain ⟨ys, h2, hs⟩ := c0 hs
 obtain ⟨hz, hs⟩ := D0 hs
 obtain ⟨t1, P1⟩ := later _ (S4 h2)
 obtain ⟨xb, ws, e1, hpl, hx, hr⟩ := P1.own
 cases e1
 refine wpAny_list_append_plain (s := sh cx.T W1 tk1) hpl (fun h' hpl' sb => ?_) (by rw [hr.size]; exact o9 hz)
 obtain ⟨l3, S3⟩ := S1.updPl (b := cx.d) P1 hx hcc hcc (fun b o n e => (sb.2 b n).trans e) hpl' (by rw [Array.toList_push]; exact hr.append (.cons (E8 r1 h1) .nil)) hs
 exact y6 H2 l3 S3
theorem x6q (C : cx.Ok cx.c) (PC : i0 p = true -> PgCls cx.T) (hm : j8 cx.nm cx.env.scope.names p x = true) (hcc : i0 p = true -> cx.c = true) (hline : (apos.endLine == cpos.line) = true) : SS U cx (.clear p) (.Expr (.Call (.Attribute x "clear" apos) [] [] cpos) pos) := fun st W S tk Q E H => by
 obtain ⟨st2, hs, H2⟩ := D9 H
 obtain ⟨xs, h2, hs⟩ := c0 hs
 obtain ⟨hz, hs⟩ := D0 hs
 refine wpAny_Expr ?_ (eO C) rfl
 refine Call_method0 (jE hm) hline (B3 C PC S hm (S4 h2) fun v tg tk' PP => ?_)
 obtain ⟨xa, vs, rfl, ⟨n, ho⟩, hx, hr⟩ := PP.own
 refine ⟨"list", _, PySem.F.plainAttrs_list, PySem.F.slot_list_clear, PySem.F.type_list_clear, ⟨_, ho, rfl⟩, (fun a e => by cases e; exact ⟨_, ho, rfl⟩), ?_⟩
 refine P.clear_list ho ?_ (by rw [hr.size]; exact o9 hz)
 obtain ⟨l3, S3⟩ := S.updPl (b := cx.d) (ws := #[]) (ys := []) PP hx hcc hcc (fun b o n e => ((Heap.SameBut.update W.h xa (Obj.mapSeq fun _ => #[])).2 b n).trans e) ⟨_, Heap.get?_update_self _ ho rfl⟩ .nil hs
 exact y6 H2 l3 S3
end
end Mine.Internal
end
section
namespace Mine.Internal
open PySem.W (findIn clsIn plainOver takerIn InstAt typeIn findObj lookIn handedIn)
section
variable {prog : Program} {w : World} {A : Around} {E : VP} {s : Shared}
theorem wT {prog : Program} {w : World} {A : Around} {l : Addr} {items : Array Value} {n : Nat} {k : Int} {t : Tok} {v : Value} {Q : UP} (ho : s.heap.get? l = some { cls := .type "list", data := .seq items n }) (h0 : 0 <= k) (hfit : k < 2 ^ 63) (hn : k < items.size)
  (hQ : Q () { s with heap := s.heap.update l (Obj.mapSeq (·.setIfInBounds k.toNat v)) }) : wpAny (model prog w) A (setItem (.ref l) (.int k t) v) Q E s := by
 have hT : s.TypeIs (.ref l) "list" := ⟨_, ho, rfl⟩
 unfold setItem
 try with_reducible refine wpAny_holding ?_
 refine wpAny_bind (wpAny_sequenceKey hT (by decide) ?_)
 refine wpAny_bind (wpAny_callSpecial?_slot (name := Str.ofString "__setitem__") hT slot_list_setitem (wpAny_call_entry slot_list_setitem hT entry_list_setitem ?_ (args_list_setitem _ _ _)))
 show wpAny _ _ (Builtin.List.listSubscript? (.int k t) >>= _) _ _ s
 refine wpAny_bind (wpAny_listSubscript_int (fitsIndex_of h0 hfit) ?_)
 clear hfit
 obtain ⟨j, rfl⟩ := Int.eq_ofNat_of_zero_le h0
 have hj : items[j]? = some (items[j]'(by lia)) := Array.getElem?_eq_getElem (by lia)
 show wpAny _ _ ((seqItemAt l j >>= fun r => pure (r.map (j, ·))) >>= _) _ _ s
 refine wpAny_bind (wpAny_bind (wpAny_seqItemAt ho rfl (wpAny_pure ?_)))
 rw [hj]
 show wpAny _ _ (setSeqItemAt l j v >>= _) _ _ s
 refine wpAny_bind (wpAny_setSeqItemAt ho rfl ?_)
 first | exact wpAny_bind (wpAny_pure (wpAny_pure ⟨.none, rfl, wpAny_pure hQ⟩)) | exact wpAny_pure ⟨.none, rfl, wpAny_pure hQ⟩
end
section
variable {U : Nat -> Fn} {cx : Cx} {T : List Value -> Shared -> Prop} {Q : FP} {E : VP} {st : St} {W : Ws} {b tk : Nat} {d : PyData} {v u : Value} {f g : F} {pos spos : Pos} {e x y z : Expr} {a c : CE} {p : Pl} {fs : List F} {vs ws : Array Value} {xs : List PyData} {tg : Tag}
theorem sL {K : List F -> List F -> St -> R Fl} (C : cx.Ok cx.c) (PC : i0 p = true -> PgCls cx.T) (hm : j8 cx.nm cx.env.scope.names p x = true) (hfe : i0 p = true -> g8 c = false) (ha : SL U cx cx.c a [y]) (hfa : g8 a = true -> cx.c = true) (hk : ∀ c', (c' = true -> cx.c = true) -> SL U cx c' c [z]) (hfk : g8 c = true -> cx.c = true) (hw : A4 y = true) (S : Sim cx st W)
  (H : Post cx cx.d cx.c (p9 cx) W Q E ((ev U a st).bind fun x st => if (oneV x).isSome then if (getP st p).isSome then (ev U c st).bind fun y st => K x y st else .stuck else .stuck))
  (k : ∀ v u ov d fs ks st1 W1 tk1, Sim cx st1 W1 -> oneV fs = some d -> Rep W1 v d -> RepL cx W1 [u] ks -> Post cx cx.d cx.c (p9 cx) W1 Q E (K fs ks st1) -> (∀ f, getP st1 p = some f -> ∃ t, PlAt cx st1 W1 ov f t p) -> d9 cx (setItem ov u v) (fun _ => Q .next) E (sh cx.T W1 tk1)) :
  d9 cx (exec (.Assign [.Subscript x z spos] y pos) cx.env) Q E (sh cx.T W tk) := by
 refine wpAny_Assign_Subscript (ha.inS (T := r6 fun v s₁ => d9 cx (eval x cx.env) (fun ov s₂ => d9 cx (eval z cx.env) (fun iv s₃ => d9 cx (setItem ov iv v) (fun _ => Q .next) E s₃) E s₂) E s₁) hfa S H fun fs st1 W1 tk1 vs l1 S1 r1 H1 => ?_) (X5 hw)
 match vs, r1 with
 | [], _ => trivial
 | _ :: _ :: _, _ => trivial
 | [v], r1 =>
 obtain ⟨⟨d, hd⟩, H1⟩ := dA H1
 obtain ⟨⟨g, hg⟩, H1⟩ := dA H1
 refine uJ C PC hm hfe hk hfk S1 hg H1 fun ov tg tk' P q => q (T := r6 fun iv s₃ => d9 cx (setItem ov iv v) (fun _ => Q .next) E s₃) fun ks st2 W2 tk2 us z2 S2 r2 H2 later => ?_
 match us, r2 with
 | [], _ => trivial
 | _ :: _ :: _, _ => trivial
 | [u], r2 => exact k v u ov d fs ks st2 W2 tk2 S2 hd ((E8 r1 hd).mono z2) r2 H2 later
theorem x6Q (C : cx.Ok cx.c) (PC : i0 p = true -> PgCls cx.T) (hm : j8 cx.nm cx.env.scope.names p x = true) (hcc : i0 p = true -> cx.c = true) (hfe : i0 p = true -> g8 c = false) (ha : SL U cx cx.c a [y]) (hfa : g8 a = true -> cx.c = true) (hk : ∀ c', (c' = true -> cx.c = true) -> SL U cx c' c [z]) (hfk : g8 c = true -> cx.c = true) (hw : A4 y = true) :
  SS U cx (.setidx p c a) (.Assign [.Subscript x z spos] y pos) := fun st W S tk Q E H =>
 sL C PC hm hfe ha hfa hk hfk hw S H fun v u ov d fs ks st1 W1 tk1 S1 hd rv ru H1 later => by
  obtain ⟨st2, hs, H2⟩ := D9 H1
  obtain ⟨d', h1, hs⟩ := c0 hs
  cases hd.symm.trans h1
  obtain ⟨kd, h2, hs⟩ := c0 hs
  obtain ⟨n, h3, hs⟩ := c0 hs
  obtain ⟨xs, h4, hs⟩ := c0 hs
  obtain ⟨hz, hs9⟩ := D0 hs
  obtain ⟨hz, hn⟩ := and2 hz
  cases aH h3
  obtain ⟨t, rfl⟩ := Rep.inv (d := .int n) (E8 ru h2)
  obtain ⟨tg, P⟩ := later _ (S4 h4)
  obtain ⟨xa, ws, rfl, ⟨m, ho⟩, hx, hr⟩ := P.own
  obtain ⟨hn, hlt⟩ := k6 hn
  have hz := o9 hz
  have hsz := hr.size
  refine wT (s := sh cx.T W1 tk1) ho hn (Int.lt_trans hlt (by unfold sizeLine at hz; lia)) (by rw [hsz]; exact hlt) ?_
  obtain ⟨l3, S3⟩ := S1.updPl (b := cx.d) (ws := ws.setIfInBounds n.toNat v) P hx hcc hcc (fun b o n' e => ((Heap.SameBut.update W1.h xa (Obj.mapSeq (·.setIfInBounds n.toNat v))).2 b n').trans e) ⟨_, Heap.get?_update_self _ ho rfl⟩ (by rw [Array.toList_setIfInBounds]; exact hr.set rv _) hs9
  exact y6 H2 l3 S3
theorem RepTab.put {xt : List (List Int × Addr × Value)} {et : List (List Int × PyData)} {q : List Int} {k : Addr} (h : RepTab W xt et) (hk : ∃ o, W.z.get? k = some o) (hv : Rep W v d) : RepTab W (storedH xt q k v) (putF et q d) := by
 unfold storedH putF
 rw [h.find.1]
 cases (keyF et q).isSome with
 | true =>
  rw [if_pos rfl, if_pos rfl]
  induction xt generalizing et with
  | nil => cases et <;> exact h
  | cons x xt ih =>
   cases et with
   | nil => exact h.elim
   | cons e et =>
    refine ⟨?_, ih h.2⟩
    unfold putAt
    dsimp only
    rw [<- h.1.1]
    by_cases e : x.1 = q
    . rw [if_pos e, if_pos e]; exact ⟨rfl, h.1.2.1, hv⟩
    . rw [if_neg e, if_neg e]; exact h.1
 | false =>
  rw [if_neg Bool.false_ne_true, if_neg Bool.false_ne_true]
  induction xt generalizing et with
  | nil => cases et with
   | nil => exact ⟨⟨rfl, hk, hv⟩, trivial⟩
   | cons _ _ => exact h.elim
  | cons x xt ih =>
   cases et with
   | nil => exact h.elim
   | cons e et => exact ⟨h.1, ih h.2⟩
theorem RepTab.length {xt : List (List Int × Addr × Value)} {et : List (List Int × PyData)} (h : RepTab W xt et) : xt.length = et.length := by
 induction xt generalizing et with
 | nil => cases et with
  | nil => rfl
  | cons _ _ => exact h.elim
 | cons x xt ih => cases et with
  | nil => exact h.elim
  | cons e et => exact congrArg (· + 1) (ih h.2)
theorem zS (C : cx.Ok cx.c) (PC : i0 p = true -> PgCls cx.T) (hm : j8 cx.nm cx.env.scope.names p x = true) (hcc : i0 p = true -> cx.c = true) (hfe : i0 p = true -> g8 c = false) (ha : SL U cx cx.c a [y]) (hfa : g8 a = true -> cx.c = true) (hk : ∀ c', (c' = true -> cx.c = true) -> SL U cx c' c [z]) (hfk : g8 c = true -> cx.c = true) (hw : A4 y = true) :
  SS U cx (.setkey p c a) (.Assign [.Subscript x z spos] y pos) := fun st W S tk Q E H =>
 sL C PC hm hfe ha hfa hk hfk hw S H fun v u ov d fs ks st1 W1 tk1 S1 hd rv ru H1 later => by
  obtain ⟨st2, hs, H2⟩ := D9 H1
  obtain ⟨d', h1, hs⟩ := c0 hs
  cases hd.symm.trans h1
  obtain ⟨kd, h2, hs⟩ := c0 hs
  obtain ⟨n, h3, hs⟩ := c0 hs
  obtain ⟨et, h4, hs⟩ := c0 hs
  obtain ⟨hz, hs⟩ := D0 hs
  obtain ⟨m1, m2, rfl, rfl⟩ := oR h3
  obtain ⟨ka, rfl, hkey, hko⟩ := nF (cx := cx) (k := 0) (E8 ru h2)
  obtain ⟨tg, P⟩ := later _ (rF h4)
  obtain ⟨dx, rfl, hx, hsys, xt, hdo, hrt⟩ := P.dct
  refine wpAny_setItem_heap (s := sh cx.T W1 tk1) (knd := tupleKind (intKind cx.T.prog cx.T.w)) (tupleKind_room_in1 (knd := intKind cx.T.prog cx.T.w) (Nat.lt_of_le_of_lt (Nat.add_le_add_left (by decide : 1 <= 200) _) C.units)) hkey hdo (fun h' hm' hs' => ?_) (by rw [hrt.length]; exact o9 hz)
  obtain ⟨l3, S3⟩ := S1.changed (g := .dct (putF et [m1, m2] d)) (b := cx.d) P hx hcc hcc (fun b o n e => (hs'.2 b n).trans e) (let ⟨o, _, _, g, _⟩ := hm'; ⟨o, g⟩) (fun z => ⟨dx, rfl, hx, hsys, _, hm', (hrt.put hko rv).mono z⟩) hs
  exact y6 H2 l3 S3
end
end Mine.Internal
end
section
namespace Mine.Internal
open PySem.W (findIn clsIn plainOver takerIn InstAt typeIn findObj lookIn handedIn)
section
variable {U : Nat -> Fn} {cx : Cx} {Q : FP} {E : VP} {st st' : St} {W W' : Ws} {b tk : Nat} {d : PyData} {v u : Value} {f g : F} {pos pos' apos cpos : Pos} {x y : Expr} {a c : CE} {i j : Nat}
theorem PgAt.store {T : Tp} {A : Around} {k : Nat} {fl : Slots} {n : PI} {QU : UP} (PC : PgCls T) (P : PgAt T W k fl n) (K : PySem.W.Frag.In T.pk W.h) (hj : j < 6)
  (h : ∀ h' tk, h'.Ns1 n.da (fun y => if y = m9 j then some v else n.m y) -> Heap.SameBut n.da W.h h' -> QU () (sh T ⟨W.t, h'⟩ tk)) :
  wpAny (model T.prog T.w) A (setAttr (.ref n.a) (m9 j) v) QU E (sh T W tk) := by
 obtain ⟨od, g, hl⟩ := eP P.ns
 have I : InstAt W.h n.a (N8 T.pc n.da) T.pc (some od) := ⟨P.inst, rfl, rfl, g⟩
 obtain ⟨cd, hc, hd⟩ := PySem.W.any_some PC.dict
 refine PySem.W.set_plain (s := sh T W tk) K I PC.set ?_
 refine PySem.W.osa_open (s := sh T W (tk + 1)) K I PC.over (r := none) (by unfold takerIn; rw [PC.fld j hj]; rfl) fun b => ?_
 refine wpAny_bind (wpAny_pure (wpAny_bind (wpAny_bind (wpAny_loadPart P.inst (wpAny_bind ((PySem.W.looks_clsIn K hc).here ?_))))))
 rw [hd]
 refine wpAny_pure (a := some n.da) (wpAny_bind (wpAny_pure (wpAny_bind ?_)))
 refine wpAny_nsSet1 (s := sh T W (tk + 1)) P.ns fun h' hn' hs => ?_
 have hw : Within (fun y => if y = m9 j then some v else n.m y) (List.map m9 [0, 1, 2, 3, 4, 5]) := by
  intro y hy
  by_cases hin : ∃ i, i < 6 /\ y = m9 i
  . obtain ⟨i, hi, rfl⟩ := hin
    exact List.mem_map.mpr ⟨i, (by decide : ∀ i, i < 6 -> i ∈ [0, 1, 2, 3, 4, 5]) i hi, rfl⟩
  . have hne : ∀ i, i < 6 -> y ≠ m9 i := fun i hi e => hin ⟨i, hi, e⟩
    exact absurd ((if_neg (hne j hj)).trans (P.oth y hne)) hy
 obtain ⟨oD, esD, epD, hoD, hdD, hcD⟩ := hn'.count hw
 refine wpAny_bind (wpAny_lookBehind hoD (by rw [hdD]; exact pastItsLine_dict (nlt hcD (by decide))) ?_)
 exact wpAny_pure (h h' _ hn' hs)
theorem Sim.setFld {z : Str} (PC : PgCls cx.T) (C : cx.Ok cx.c) (hcc : cx.c = true) (S : Sim cx st W) (hn : isLoc cx.nm cx.env.scope.names i z = true) (hj : j < 6) (r : ∀ k, pgAt st i = some k -> RepF cx.T W (.pgf k j) v f) (hs : setP st (some f) (.fld i j) = some st')
  (h : ∀ W' tk', Le cx.d cx.d cx.c W W' -> Sim cx st' W' -> Q .next (sh cx.T W' tk')) :
  d9 cx (eval (.Name z pos) cx.env) (fun ov s₂ => d9 cx (setAttr ov (m9 j) v) (fun _ => Q .next) E s₂) E (sh cx.T W tk) := by
 obtain ⟨k, hk, h1⟩ := c0 hs
 obtain ⟨fl, hfl, h1⟩ := c0 h1
 obtain ⟨hlt, rfl⟩ := i5 h1
 obtain ⟨n, hd⟩ := E7 hn
 obtain ⟨u, hu, a', o, rfl, g, q⟩ := S.fr.vals i _ z (eD hk) n.1 n.2
 obtain ⟨n', P, rfl⟩ := S.ok.inst_at hfl g q
 refine jP C.kind hu hd (P.store PC (PC.kin.keeps S.keeps) hj fun h' tk' hns hsb => ?_)
 have B : But n'.da W ⟨W.t, h'⟩ := .keep fun b o ne e => (hsb.2 b ne).trans e
 have ni : NI ⟨W.t, h'⟩ n'.da := R8 (by rw [show Ws.t _ _ = _ from P.dt]; rfl)
 have hz := B.fz fun e => by rw [P.dt] at e; cases e
 have ne : ∀ {b}, W.t b ≠ .pgd k -> b ≠ n'.da := fun h q => h (q ▸ P.dt)
 have na : n'.a ≠ n'.da := ne fun e => by rw [P.it] at e; cases e
 have keep : ∀ i b o, W.t b = .pgf k i -> W.get b = some o -> (Ws.mk W.t h').get b = some o /\ W.t b = .pgf k i := fun i b o q g => ⟨B.gt b o (ne fun e => by rw [q] at e; cases e) g, q⟩
 refine h ⟨W.t, h'⟩ tk' (B.le (.of (by rw [P.dt]; exact hcc)) ni) ⟨S.ok.fld B hfl (by rw [P.dt]; exact beq_self_eq_true _) (let ⟨o, _, _, g, _⟩ := hns; ⟨o, g⟩) ni (P.set (q' := ⟨n'.a, n'.da, fun y => if y = m9 j then some v else n'.m y⟩) (k6 hlt) hz ⟨rfl, rfl⟩ ⟨B.gt _ _ na P.inst, P.it⟩ P.dt hns (fun y hy => if_neg hy) (fun i _ => keep i)
   (fun f' e => ⟨v, if_pos rfl, (by cases e; exact (r k hk).keep hz fun _ => keep j)⟩) (fun i hi e => tJ hi hj e) hj), S.fr.but B (by rw [P.dt]; exact hcc) fun i' g z h2 h3 h4 => .inl ⟨h2, fun e => by rw [P.dt] at e; cases e⟩⟩
theorem uU {v x : Expr} {a : Str} {n : Nat} {env : Env} : swapsWith v (some (.Attribute x a pos)) n env = pure false := by cases v <;> rfl
theorem wB {z : Str} (PC : PgCls cx.T) (C : cx.Ok cx.c) (hcc : cx.c = true) (hn : isLoc cx.nm cx.env.scope.names i z = true) (hj : j < 6) (ha : SL U cx cx.c a [y]) : SS U cx (.assign (.fld i j) a) (.Assign [.Attribute (.Name z pos') (m9 j) apos] y pos) := fun st W S tk Q E H =>
 plainObj_wpAny_Assign_Attribute (ha.inS (T := r6 fun v s₁ => d9 cx (eval (.Name z pos') cx.env) (fun ov s₂ => d9 cx (setAttr ov (m9 j) v) (fun _ => Q .next) E s₂) E s₁) (fun _ => hcc) S H fun fs st1 W1 tk1 vs l1 S1 r1 H1 => by
  obtain ⟨st2, hs, H2⟩ := D9 H1
  obtain ⟨f, h1, hs1⟩ := c0 hs
  obtain ⟨g, h2, hs2⟩ := c0 hs1
  match vs, r1 with
  | [], _ => trivial
  | _ :: _ :: _, _ => trivial
  | [v], r1 =>
  obtain ⟨k, hk, _⟩ := c0 hs2
  obtain ⟨t', l2, S2, r2⟩ := S1.claim cx.d cx.c (bT r1 h1) (eU h2).2 (.pgf k j) rfl
  refine Sim.setFld (W := ⟨t', W1.h⟩) PC C hcc S2 hn hj (fun k' e => ?_) hs2 fun W' tk' l S' => y6 H2 (l2.trans l) S'
  cases hk.symm.trans e
  cases f with
  | val d => cases h2; exact r2
  | own xs => cases h2; exact r2
  | pg k => exact nos h2
  | _ => exact nos h2) uU
theorem x0n {z : Str} (TO : cx.T.Ok) (PC : PgCls cx.T) (C : cx.Ok cx.c) (hcc : cx.c = true) (hn : isLoc cx.nm cx.env.scope.names i z = true) (hj : j < 6) : SS U cx (.setd (.fld i j)) (.Assign [.Attribute (.Name z pos') (m9 j) apos] (.Dict [] [] cpos) pos) := fun st W S tk Q E H => by
 obtain ⟨st2, hs, H2⟩ := D9 H
 obtain ⟨k, hk, _⟩ := c0 hs
 refine plainObj_wpAny_Assign_Attribute (wpAny_Dict_empty ?_) uU
 have g := B7 W.h (Nat.le_refl W.h.objs.size)
 have B := But.push W { cls := .type "dict", data := .dict #[] } (.pgf k j)
 have q := S.ok.dead _ g
 have l2 : Le cx.d cx.d cx.c W _ := B.le (.dead g) (o7 rfl)
 refine Sim.setFld PC C hcc (S.but B (by rw [q]; rfl) (by rw [q]; rfl) (fun i => by rw [q]; intro e; cases e) (fun e => ?_) (o7 rfl)) hn hj (fun k' e => ?_) hs fun W' tk' l S' => y6 H2 (l2.trans l) S'
 . exact nomatch (Heap.get?_push_size W.h rfl).symm.trans e
 . cases hk.symm.trans e
   refine ⟨_, rfl, Tags.put_self .., ?_, [], Heap.DictOfH.new W.h, trivial⟩
   obtain ⟨o, go⟩ := TO.sys
   have := S.keeps _ _ go
   cases he : (W.h.objs.size == sysModules) with
   | false => rfl
   | true => rw [<- eq_of_beq he, g] at this; cases this
end
end Mine.Internal
end
section
namespace Mine.Internal
noncomputable def Tag.jh : Tag -> Bool
 | .junk => true
 | .hold => true
 | _ => false
structure Nx (X : Addr -> Prop) (W W' : Ws) : Prop where
 kp : ∀ b o, ¬ X b -> W.get b = some o -> W'.get b = some o
 tg : ∀ b, W'.t b = W.t b \/ ((X b \/ W.get b = none) /\ (W'.t b).isInst = false)
 jh : ∀ b, X b -> (W.t b).jh = true
 dd : (∀ b, W.get b = none -> W.t b = .junk) -> ∀ b, W'.get b = none -> W'.t b = .junk
section
variable {X : Addr -> Prop} {T : Tp} {W W' W0 : Ws} {a b : Nat} {c : Bool} {cx : Cx} {st : St} {p : List Slots} {vs : Slots}
theorem Nx.at (N : Nx X W W') {x : Addr} {o : Obj} (h : (W.t x).jh = false) (e : W.get x = some o) : W'.get x = some o /\ W'.t x = W.t x := by
 have n : ¬ X x := fun q => by rw [N.jh x q] at h; cases h
 refine ⟨N.kp x o n e, (N.tg x).elim id fun q => ?_⟩
 rcases q.1 with q | q
 . exact (n q).elim
 . rw [e] at q; cases q
theorem Nx.fz (N : Nx X W W') : Fz W W' := fun b o h => by
 obtain ⟨t, e⟩ := q9 h
 obtain ⟨e', t'⟩ := N.at (by rw [t]; rfl) e
 exact w5 (t'.trans t) e'
theorem Nx.back (N : Nx X W W') (hd : ∀ b, W.get b = none -> W.t b = .junk) {x : Addr} {k : Nat} (h : W'.t x = .inst k) : W.t x = .inst k := by
 rcases N.tg x with q | q
 . exact q ▸ h
 . rw [h] at q; cases q.2
theorem Nx.ok (N : Nx X W W') (K : Wok T c p W) : Wok T c p W' := by
 have back : ∀ {x k}, W'.t x = .inst k -> W.t x = .inst k := fun h => N.back K.dead h
 refine ⟨N.dd K.dead, fun b o e => ?_, fun k fl e => ?_, fun x y k h h' => K.uq x y k (back h) (back h'), fun hc x k h => K.cnt hc x k (back h), fun b o d t e => ?_⟩
 . obtain ⟨e1, t1⟩ := K.top b o e
   obtain ⟨e', t'⟩ := N.at (by rw [t1]; rfl) e1
   exact ⟨e', t'.trans t1⟩
 . obtain ⟨q, P⟩ := K.pgs k fl e
   exact ⟨q, P.keep N.fz fun a o h g => N.at (by generalize W.t a = t at h; cases t <;> first | rfl | cases h) g⟩
 . rcases N.tg b with q | q
   . rw [q] at t
     cases g : W.get b with
     | none => cases (K.dead b g).symm.trans t
     | some o' => cases (N.at (by rw [t]; rfl) g).1.symm.trans e; exact K.lf b o d t g
   . rw [t] at q; cases q.2
theorem Nx.fr (N : Nx X W W') (F : Frm cx vs W) : Frm cx vs W' := by
 have hL : ∀ o, W.get cx.env.locals = some o -> W'.get cx.env.locals = some o /\ W'.t cx.env.locals = .loc cx.d := fun o e => by
  obtain ⟨e', t'⟩ := N.at (by rw [F.nst]; rfl) e
  exact ⟨e', t'.trans F.nst⟩
 have hC : ∀ y e o, (y, e) ∈ cx.env.cells -> W.get e = some o -> W'.get e = some o /\ W'.t e = W.t e := fun y e o hy g => by
  obtain ⟨_, d', q, _⟩ := F.cells y e hy
  exact N.at (by rw [q]; rfl) g
 have keep : ∀ {y u}, Holds cx.env W.h y u -> Holds cx.env W'.h y u := fun {y u} q =>
  q.keep (fun m ⟨o, es, ep, g, r⟩ => ⟨o, es, ep, (hL o g).1, r⟩) fun y e v hy ⟨o, g, r⟩ => ⟨o, (hC y e o hy g).1, r⟩
 obtain ⟨m, o, es, ep, g, r⟩ := F.ns
 refine ⟨⟨m, o, es, ep, (hL o g).1, r⟩, (hL o g).2, fun y e hy => ?_, fun i f y h1 h2 h3 => ?_, let ⟨l', h1, h2⟩ := F.frs; ⟨l', h1, h2.keep (Nat.le_refl _) fun L d' o hd t g => ?_⟩, fun q => (F.hnd q).mono N.fz⟩
 . obtain ⟨⟨v, o, g, r⟩, d', q, q'⟩ := F.cells y e hy
   exact ⟨⟨v, o, (hC y e o hy g).1, r⟩, d', (hC y e o hy g).2.trans q, q'⟩
 . obtain ⟨u, hu, r⟩ := F.vals i f y h1 h2 h3
   refine ⟨u, keep hu, r.keep N.fz (fun _ a o q g => ?_) (fun a o q g => ?_) fun a o k q g => ?_⟩
   . have := N.at (by rw [q]; rfl) g; exact ⟨this.1, this.2.trans q⟩
   . exact N.at (by generalize W.t a = t at q; cases t <;> first | rfl | cases q) g
   . have := N.at (by rw [q]; rfl) g; exact ⟨this.1, this.2.trans q⟩
 . have := N.at (by rw [t]; rfl) g; exact ⟨this.2.trans t, o, this.1⟩
theorem Nx.sim (N : Nx X W W') (S : Sim cx st W) : Sim cx st W' := ⟨N.ok S.ok, N.fr S.fr⟩
theorem Nx.le (N : Nx X W W') (hX : ∀ x, X x -> Fr a b c W0 x) (l : Le a b c W0 W) : Le a b c W0 W' := by
 refine ⟨fun x o e k => ?_, fun hc x k e => l.ins hc x k ?_⟩
 . have n : ¬ X x := fun q => by rw [hX x q o e] at k; cases k
   obtain ⟨t1, sl, e1, f1⟩ := l.at_ x o e k
   refine ⟨(N.tg x).elim (fun q => q.trans t1) fun q => ?_, sl, N.kp x _ n e1, f1⟩
   rcases q.1 with q | q
   . exact (n q).elim
   . rw [e1] at q; cases q
 . rcases N.tg x with q | q
   . exact q ▸ e
   . rw [e] at q; cases q.2
end
noncomputable def Stp (W0 W W' : Ws) : Prop := ∃ X, Nx X W W' /\ ∀ x, X x -> W0.t x = .junk
noncomputable abbrev Go := Around -> Value -> (Unit -> Shared -> Prop) -> (Value -> Shared -> Prop) -> Shared -> Prop
noncomputable def Stand (T : Tp) (d : Nat) (c : Bool) (hd : Option Value) (go : Go) (it : Value) (W0 : Ws) : List PyData -> Ws -> Prop
 | [], W => ∀ W1 tk A Q E, A.handled = hd -> Le d d c W W1 -> (∀ W' tk', Stp W0 W1 W' -> Q none (sh T W' tk')) -> wpAny (model T.prog T.w) A (pyNext it) Q E (sh T W1 tk)
 | x :: xs, W => ∀ W1 tk A (Q : VP) E, A.handled = hd -> Le d d c W W1 -> (∀ W' tk' v, Stp W0 W1 W' -> Rep W' v x -> Stand T d c hd go it W0 xs W' -> Q v (sh T W' tk')) ->
  wpAny (model T.prog T.w) A (pyNext it) (fun r s₁ => match r with | none => False | some v => go A v (fun _ s₂ => Q v s₂) E s₁) E (sh T W1 tk)
section
variable {cx : Cx} {W W0 : Ws} {xs ys : List PyData} {I : Addr} {fp : List Addr} {P : Nat -> Value -> Prop} {St : Nat -> Heap -> Prop} {go : Go} {E : VP}
theorem Nx.one {h' : Heap} {t' : Tag} (hI : (W.t I).jh = true) (hk : ∀ b o, b ∉ [I] -> W.get b = some o -> h'.get? b = some o) (ht : t'.isInst = false) (hd : h'.get? I = none -> t' = .junk) : Nx (· = I) W ⟨W.t.put I t', h'⟩ := by
 refine ⟨fun b o n e => hk b o (fun q => n (lsm q)) e, fun b => ?_, fun b e => e ▸ hI, fun dd b e => ?_⟩
 . by_cases q : b = I
   . exact .inr ⟨.inl q, by rw [q]; exact (congrArg Tag.isInst (Tags.put_self ..)).trans ht⟩
   . exact .inl (Tags.put_ne q)
 . by_cases q : b = I
   . rw [q] at e ⊢; exact (Tags.put_self ..).trans (hd e)
   . refine (Tags.put_ne q).trans (dd b ?_)
     cases g : W.get b with
     | none => rfl
     | some o => rw [show Ws.get _ b = some o from hk b o (fun m => q (lsm m)) g] at e; cases e
theorem WalkI.go_on (K : WalkI cx W0 xs I fp P St) (hgo : ∀ A v Q E (s : Shared), (∃ o n, s.heap.get? I = some o /\ o.cls = .type n /\ ownedNames.contains n = false) -> Q () s -> go A v Q E s)
  {i : Nat} (hx : xs.drop i = ys) (hi : i <= xs.length) (hI : W.t I = .hold) (hz : Fz W0 W) (hc : ∀ b ∈ fp, b = I \/ ∃ o, W.get b = some o /\ (W.t b).lent cx.d cx.c = true) (hs : St i W.h) : Stand cx.T cx.d cx.c cx.A.handled go (.ref I) W0 ys W := by
 have to1 : ∀ {W1 : Ws} {i : Nat} {W : Ws}, W.t I = .hold -> (∀ b ∈ fp, b = I \/ ∃ o, W.get b = some o /\ (W.t b).lent cx.d cx.c = true) -> St i W.h -> ∀ A : Around, A.handled = cx.A.handled -> Le cx.d cx.d cx.c W W1 -> St i W1.h /\ W1.t I = .hold /\ (∀ b ∈ fp, b = I \/ ∃ o, W1.get b = some o /\ (W1.t b).lent cx.d cx.c = true) := fun {W1 i W} hI hc hs A hA l => by
  obtain ⟨oI, nI, eI, _⟩ := K.typed i _ hs
  have hI1 := l.fix eI (by rw [hI]; rfl) (by rw [hI]; rfl)
  refine ⟨(K.wk A hA).frame _ _ _ hs fun b hb o e => ?_, hI1.2.trans hI, fun b hb => (hc b hb).imp id fun ⟨o, e, t⟩ => ?_⟩
  . rcases hc b hb with rfl | ⟨o', e', t⟩
    . exact (l.fix e (by rw [hI]; rfl) (by rw [hI]; rfl)).1
    . obtain ⟨k1, k2⟩ := T7 (b := cx.d) t id; exact (l.fix e k1 k2).1
  . obtain ⟨k1, k2⟩ := T7 (b := cx.d) t id
    obtain ⟨e1, t1⟩ := l.fix e k1 k2
    exact ⟨o, e1, by rw [t1]; exact t⟩
 induction ys generalizing i W with
 | nil =>
  have hi' : i = xs.length := Nat.le_antisymm hi (List.drop_eq_nil_iff.mp hx)
  subst hi'
  intro W1 tk A Q E hA l hQ
  obtain ⟨s1, t1, _⟩ := to1 hI hc hs A hA l
  exact (K.wk A hA).done (sh cx.T W1 tk) Q E s1 fun h' tk' hk => hQ ⟨W1.t.put I .junk, h'⟩ tk' ⟨_, Nx.one (by rw [t1]; rfl) hk rfl fun _ => rfl, fun x e => e ▸ K.junk⟩
 | cons y ys ih =>
  have hlt : i < xs.length := by
   rcases Nat.lt_or_ge i xs.length with q | q
   . exact q
   . rw [List.drop_eq_nil_of_le q] at hx; cases hx
  intro W1 tk A Q E hA l hQ
  obtain ⟨s1, t1, c1⟩ := to1 hI hc hs A hA l
  have hy : xs[i]? = some y /\ xs.drop (i + 1) = ys := by rw [List.drop_eq_getElem_cons hlt] at hx; injection hx with h1 h2; exact ⟨by rw [<- h1]; exact geg hlt, h2⟩
  refine (K.wk A hA).item i (sh cx.T W1 tk) _ E hlt s1 fun v h' tk' hp hs' hk => hgo A v _ E _ (K.typed _ _ hs') ?_
  obtain ⟨oI, _, eI, _⟩ := K.typed _ _ hs'
  obtain ⟨d, hd, hr⟩ := K.rep i v hp
  cases hd.symm.trans hy.1
  have N := Nx.one (t' := .hold) (by rw [t1]; rfl) hk rfl fun e => by rw [eI] at e; cases e
  have hz1 : Fz W0 ⟨W1.t.put I .hold, h'⟩ := fun b o e => N.fz b o (l.fz b o (hz b o e))
  refine hQ ⟨W1.t.put I .hold, h'⟩ tk' v ⟨_, N, fun x e => e ▸ K.junk⟩ (hr.mono hz1) (ih hy.2 hlt (Tags.put_self ..) hz1 (fun b hb => (c1 b hb).imp id fun ⟨o, e, t⟩ => ?_) hs')
  have ne : b ≠ I := fun q => by rw [q, t1] at t; cases t
  exact ⟨o, hk b o (fun m => ne (lsm m)) e, by rw [show (Ws.mk (W1.t.put I .hold) h').t b = W1.t b from Tags.put_ne ne]; exact t⟩
theorem WalkI.stand (K : WalkI cx W xs I fp P St) (hgo : ∀ A v Q E (s : Shared), (∃ o n, s.heap.get? I = some o /\ o.cls = .type n /\ ownedNames.contains n = false) -> Q () s -> go A v Q E s) :
  Stp W W ⟨W.t.put I .hold, W.h⟩ /\ Stand cx.T cx.d cx.c cx.A.handled go (.ref I) W xs ⟨W.t.put I .hold, W.h⟩ := by
 obtain ⟨o, n, g, _⟩ := K.typed 0 _ K.start
 have N : Nx (· = I) W ⟨W.t.put I .hold, W.h⟩ := Nx.one (by rw [K.junk]; rfl) (fun _ _ _ e => e) rfl fun e => nomatch g.symm.trans e
 refine ⟨⟨_, N, fun x e => e ▸ K.junk⟩, K.go_on hgo (i := 0) List.drop_zero (Nat.zero_le _) (Tags.put_self ..) N.fz (fun b hb => (K.cover b hb).imp id fun ⟨o, e, t⟩ => ⟨o, e, ?_⟩) K.start⟩
 have ne : b ≠ I := fun q => by rw [q, K.junk] at t; cases t
 rw [show (Ws.mk (W.t.put I .hold) W.h).t b = W.t b from Tags.put_ne ne]; exact t
theorem x5c {M : Model} {A : Around} {s : Shared} {tg : Expr} {v : Value} {Q : UP} (h : ∃ o n, s.heap.get? I = some o /\ o.cls = .type n /\ ownedNames.contains n = false) (hq : Q () s) :
  wpAny M A (letOwnedTupleGo tg (.ref I) v) Q E s := by
 obtain ⟨o, n, ho, hc, hn⟩ := h
 have key : wpAny M A (letOwnedTupleGo (.List [] default) (.ref I) v) Q E s := by
  cases v with
  | ref a =>
   refine wpAny_bind (wpAny_load ho ?_)
   rw [hc]
   cases o.data with
   | fields vs =>
    dsimp only
    rw [show (["enumerate", "zip", "dict_itemiterator", "dict_reverseitemiterator", "odict_iterator", "itertools.zip_longest", "itertools.pairwise"].contains n) = false from hn]
    exact wpAny_pure hq
   | _ => exact wpAny_pure hq
  | _ => exact wpAny_pure hq
 cases tg <;> first | exact wpAny_pure hq | exact key
end
noncomputable def bO (cx : Cx) (tg : Expr) (it : Value) : Go := fun A v Q E s => wpAny (model cx.T.prog cx.T.w) A (letOwnedTupleGo tg it v) Q E s
noncomputable def RW (cx : Cx) (tg : Expr) (W : Ws) (it : Value) (xs : List PyData) : Prop := ∃ t', Stp W W ⟨t', W.h⟩ /\ Stand cx.T cx.d cx.c cx.A.handled (bO cx tg it) it W xs ⟨t', W.h⟩
noncomputable def SF (U : Nat -> Fn) (cx : Cx) (kd : Nat) (c : CE) (e tg : Expr) : Prop := ∀ st W, Sim cx st W -> ∀ tk Q E, Post cx (cx.d + 1) cx.c (RW cx tg) W Q E ((ev U c st).bind (itE kd)) ->
 d9 cx (eval e cx.env) (fun x s₁ => d9 cx (pyIter x) Q E s₁) E (sh cx.T W tk)
section
variable {U : Nat -> Fn} {cx : Cx} {Q : FP} {E : VP} {st st' : St} {W W' W0 : Ws} {b tk kd : Nat} {d : PyData} {v it : Value} {pos : Pos} {e tg : Expr} {a c : CE} {xs : List PyData} {many : Bool} {is : List Nat} {body : CS} {bd : List Stmt}
theorem Stp.le {a b : Nat} {c : Bool} (h : Stp W0 W W') (l : Le a b c W0 W) : Le a b c W0 W' := let ⟨X, N, hX⟩ := h; N.le (fun x q => .of (by rw [hX x q]; rfl)) l
theorem Stp.sim (h : Stp W0 W W') (S : Sim cx st W) : Sim cx st W' := let ⟨X, N, hX⟩ := h; N.sim S
theorem SI.sf (h : SI U cx cx.c kd c e) (hc : g8 c = true -> cx.c = true) (tg : Expr) : SF U cx kd c e tg := fun st W S tk Q E H => h hc st W S tk Q E (by
 cases hr : (ev U c st).bind (itE kd) with
 | ok x st' =>
  rw [hr] at H
  rintro W' tk' v l S' ⟨I, fp, P, St, rfl, K⟩
  exact H W' tk' _ l S' ⟨_, K.stand fun A v Q E s h hq => x5c h hq⟩
 | exc k st' => rw [hr] at H; exact H
 | stuck => rw [hr] at H; exact H)
theorem Stand.later {T : Tp} {d : Nat} {c : Bool} {hd : Option Value} {go : Go} (K : Stand T d c hd go it W0 xs W) (l : Le d d c W W') : Stand T d c hd go it W0 xs W' := by
 cases xs with
 | nil => exact fun W1 tk A Q E hA l' => K W1 tk A Q E hA (l.trans l')
 | cons x xs => exact fun W1 tk A Q E hA l' => K W1 tk A Q E hA (l.trans l')
noncomputable def stepB (U : Nat -> Fn) (many : Bool) (is : List Nat) (body : CS) : PyData -> St -> R Fl := fun x st => match bindT many is x st with | some st' => ex U body st' | none => .stuck
inductive FoI (U : Nat -> Fn) (cx : Cx) (tg : Expr) (it : Value) (W0 : Ws) (many : Bool) (is : List Nat) (body : CS) (Q : FP) (E : VP) : Nat -> Shared -> Prop
 | mk (xs : List PyData) (st : St) (W : Ws) (tk : Nat) (S : Sim cx st W) (l : Le cx.d cx.d cx.c W0 W) (K : Stand cx.T cx.d cx.c cx.A.handled (bO cx tg it) it W0 xs W) (H : Post cx cx.d cx.c (p9 cx) W0 Q E (forL (stepB U many is body) xs st)) : FoI U cx tg it W0 many is body Q E xs.length (sh cx.T W tk)
theorem x3C {Er : VP} (h0 : cx.h = false) (C : cx.Ok cx.c) (Fu : cx.Full) (hm : mT cx.nm cx.env.scope.names many is tg = true) (hb : y1 U cx body bd) (S : Sim cx st W) (l : Le cx.d cx.d cx.c W0 W) (K : Stand cx.T cx.d cx.c cx.A.handled (bO cx tg it) it W0 xs W) (H : Post cx cx.d cx.c (p9 cx) W0 Q E (forL (stepB U many is body) xs st)) :
  codeAny (model cx.T.prog cx.T.w) cx.A (.forLoop tg it bd [] cx.env) (fun r s' => match r with | .ok f => Q f s' | .error e => Er e s') (sh cx.T W tk) := by
 refine codeAny_forLoop_any (FoI U cx tg it W0 many is body Q E) ?_ xs.length (.mk xs st W tk S l K H)
 rintro n s ⟨xs, st, W, tk, S, l, K, H⟩
 cases xs with
 | nil => exact K W tk cx.A _ _ rfl Le.refl fun W' tk' h => wpAny_execs_nil (y6 H (h.le l) (h.sim S))
 | cons x xs =>
  refine wpAny_mono (K W tk cx.A (fun v s₁' => d9 cx (assign tg cx.env v) (fun _ s₂ => d9 cx (execs bd cx.env) (fun f s₃ => match f with
      | .next | .cont => ∃ m, m < (x :: xs).length /\ FoI U cx tg it W0 many is body Q E m s₃
      | .brk => Q .next s₃
      | .ret v => Q (.ret v) s₃) (notedBy (model cx.T.prog cx.T.w) cx.A cx.env fun e s' => Er e s') s₂) (notedBy (model cx.T.prog cx.T.w) cx.A cx.env fun e s' => Er e s') s₁') _ rfl Le.refl fun W' tk' v h r K' => ?_) (fun r s₁ h => ?_) fun _ _ h => h
  . have l' := h.le l
    have S' := h.sim S
    replace H : Post cx cx.d cx.c (p9 cx) W0 Q E (match (match bindT many is x st with | some st' => ex U body st' | none => .stuck) with | .ok .next st => forL (stepB U many is body) xs st | .ok (.ret f) st => .ok (.ret f) st | _ => .stuck) := H
    cases hbt : bindT many is x st with
    | none => rw [hbt] at H; exact H.elim
    | some st1 =>
     rw [hbt] at H
     refine vP h0 C Fu hm hbt r S' fun W2 tk2 l2 S2 => hb st1 W2 S2 tk2 _ _ ?_
     dsimp only at H
     cases hr : ex U body st1 with
     | stuck => rw [hr] at H; exact H.elim
     | exc k st2 => rw [hr] at H; exact H.elim
     | ok fl st2 =>
      rw [hr] at H
      intro W3 tk3 f l3 S3 r3
      have l5 := l'.trans (l2.trans l3)
      cases fl with
      | next =>
       cases show f = .next from r3
       exact ⟨xs.length, Nat.lt_succ_self _, .mk xs st2 W3 tk3 S3 l5 (K'.later (l2.trans l3)) H⟩
      | ret g =>
       obtain ⟨v', rfl, r4⟩ := r3
       exact H W3 tk3 _ l5 S3 ⟨v', rfl, r4⟩
  . cases r with
    | none => exact h.elim
    | some v => exact h
theorem x3V (h0 : cx.h = false) (C : cx.Ok cx.c) (Fu : cx.Full) (hm : mT cx.nm cx.env.scope.names many is tg = true) (hs : ∀ v, foldedSetIterable e cx.env v = pure v) (hi : SF U cx kd a e tg) (hb : y1 U cx body bd) : SS U cx (.loop many is kd a body) (.For tg e bd [] pos) := fun st W S tk Q E H => by
 refine wpAny_For (hi st W S tk _ E (H.bind (Nat.le_succ _) id fun xs st1 W1 tk1 it l1 S1 r1 H1 => ?_)) hs
 obtain ⟨t', h, K⟩ := r1
 exact x3C (W := ⟨t', W1.h⟩) h0 C Fu hm hb (h.sim S1) (h.le Le.refl) K H1
end
structure EnumI (cx : Cx) (W : Ws) (xs : List PyData) (e it : Addr) (fp : List Addr) (P : Nat -> Value -> Prop) (St : Nat -> Heap -> Prop) : Prop where
 dr : ∀ A : Around, A.handled = cx.A.handled -> Draws cx.T.prog cx.T.w A it fp xs.length P St
 rep : ∀ i v, P i v -> ∃ d, xs[i]? = some d /\ Rep W v d
 cover : ∀ b ∈ fp, b = it \/ ∃ o, W.get b = some o /\ (W.t b).lent cx.d cx.c = true
 hei : e ≠ it
 hef : e ∉ fp
 hif : it ∈ fp
 je : W.t e = .junk
 ji : W.t it = .junk
 start : (∃ old, IsEnum W.h e it 0 old) /\ St 0 W.h
section
variable {U : Nat -> Fn} {cx : Cx} {cb : Bool} {Q : VP} {E : VP} {st : St} {W W0 : Ws} {b tk k : Nat} {d : PyData} {v : Value} {p : Pos} {x : Expr} {elts : List Expr} {a c : CE} {xs ys : List PyData} {e it : Addr} {fp : List Addr} {P : Nat -> Value -> Prop} {St : Nat -> Heap -> Prop}
theorem K8 {a b x : Addr} (h : x ∈ [a, b]) : x = a \/ x = b := by simpa using h
theorem EnumI.go_on (K : EnumI cx W0 xs e it fp P St) {i : Nat} (hx : xs.drop i = ys) (hi : i <= xs.length) (hE : W.t e = .hold) (hI : W.t it = .hold) (hz : Fz W0 W) (hc : ∀ b ∈ fp, b = it \/ ∃ o, W.get b = some o /\ (W.t b).lent cx.d cx.c = true) (hs : (∃ old, IsEnum W.h e it i old) /\ St i W.h) :
  Stand cx.T cx.d cx.c cx.A.handled (bO cx (.Tuple elts k p) (.ref e)) (.ref e) W0 (enumFrom i ys) W := by
 have wt := fun (A : Around) (hA : A.handled = cx.A.handled) => WalksT.enumerateD (A := A) (K.dr A.in1 hA) e K.hei K.hef K.hif
 have to1 : ∀ {W1 : Ws} {i : Nat} {W : Ws}, W.t e = .hold -> W.t it = .hold -> (∀ b ∈ fp, b = it \/ ∃ o, W.get b = some o /\ (W.t b).lent cx.d cx.c = true) -> ((∃ old, IsEnum W.h e it i old) /\ St i W.h) -> ∀ A : Around, A.handled = cx.A.handled -> Le cx.d cx.d cx.c W W1 ->
   ((∃ old, IsEnum W1.h e it i old) /\ St i W1.h) /\ W1.t e = .hold /\ W1.t it = .hold /\ (∀ b ∈ fp, b = it \/ ∃ o, W1.get b = some o /\ (W1.t b).lent cx.d cx.c = true) := fun {W1 i W} hE hI hc hs A hA l => by
  obtain ⟨oI, eI⟩ := (K.dr A hA).live _ _ hs.2
  obtain ⟨_, eE⟩ := hs.1
  have fh : ∀ {b o}, W.t b = .hold -> W.get b = some o -> W1.get b = some o /\ W1.t b = W.t b := fun {b o} h g => l.fix g (by rw [h]; rfl) (by rw [h]; rfl)
  refine ⟨(wt A hA).frame _ _ _ hs fun b hb o g => ?_, (fh hE eE).2.trans hE, (fh hI eI).2.trans hI, fun b hb => (hc b hb).imp id fun ⟨o, g, t⟩ => ?_⟩
  . rcases List.mem_cons.mp hb with rfl | hb
    . exact (fh hE g).1
    . rcases hc b hb with rfl | ⟨o', e', t⟩
      . exact (fh hI g).1
      . obtain ⟨k1, k2⟩ := T7 (b := cx.d) t id; exact (l.fix g k1 k2).1
  . obtain ⟨k1, k2⟩ := T7 (b := cx.d) t id
    obtain ⟨e1, t1⟩ := l.fix g k1 k2
    exact ⟨o, e1, by rw [t1]; exact t⟩
 have hX : ∀ b, b ∈ [e, it] -> W0.t b = .junk := fun b hb => (K8 hb).elim (fun q => q ▸ K.je) fun q => q ▸ K.ji
 induction ys generalizing i W with
 | nil =>
  have hi' : i = xs.length := Nat.le_antisymm hi (List.drop_eq_nil_iff.mp hx)
  subst hi'
  intro W1 tk A Q E hA l hQ
  obtain ⟨s1, tE, tI, _⟩ := to1 hE hI hc hs A hA l
  refine (wt A hA).done (sh cx.T W1 tk) Q E s1 fun h' tk' hk => hQ ⟨fun b => if b ∈ [e, it] then .junk else W1.t b, h'⟩ tk' ⟨(· ∈ [e, it]), ⟨hk, fun b => ?_, fun b q => (K8 q).elim (fun q => by rw [q, tE]; rfl) fun q => by rw [q, tI]; rfl, fun dd b g => ?_⟩, hX⟩
  . by_cases q : b ∈ [e, it]
    . exact .inr ⟨.inl q, by rw [show Ws.t _ b = _ from if_pos q]; rfl⟩
    . exact .inl (if_neg q)
  . by_cases q : b ∈ [e, it]
    . exact if_pos q
    . refine (if_neg q).trans (dd b ?_)
      cases g' : W1.get b with
      | none => rfl
      | some o => rw [show Ws.get _ b = some o from hk b o q g'] at g; cases g
 | cons y ys ih =>
  have hlt : i < xs.length := by
   rcases Nat.lt_or_ge i xs.length with q | q
   . exact q
   . rw [List.drop_eq_nil_of_le q] at hx; cases hx
  intro W1 tk A Q E hA l hQ
  obtain ⟨s1, tE, tI, c1⟩ := to1 hE hI hc hs A hA l
  have hy : xs[i]? = some y /\ xs.drop (i + 1) = ys := by rw [List.drop_eq_getElem_cons hlt] at hx; injection hx with h1 h2; exact ⟨by rw [<- h1]; exact geg hlt, h2⟩
  refine (wt A hA).item i (sh cx.T W1 tk) _ E hlt s1 fun T vals h' tk' hp hT hTup hmid hk => (wt A hA).go elts k p i T _ _ E hmid fun h'' hs'' hk'' => ?_
  have hTw : T ∉ [e, it] := (wt A hA).apart i T _ hmid
  obtain ⟨t, v, hpv, rfl⟩ := hp
  obtain ⟨d, hd, hr⟩ := K.rep i v hpv
  cases hd.symm.trans hy.1
  have gT : W1.get T = none := B7 W1.h hT
  have al : ∀ {b o}, W1.get b = some o -> b ≠ T := fun g q => by rw [q, gT] at g; cases g
  have kp : ∀ b o, b ∉ [e, it] -> W1.get b = some o -> h''.get? b = some o := fun b o q g => hk'' b o q (hk b o q g)
  obtain ⟨oI, eI⟩ := (K.dr A hA).live _ _ hs''.2
  have N : Nx (· ∈ [e, it]) W1 ⟨W1.t.put T .fz, h''⟩ := by
   refine ⟨kp, fun b => ?_, fun b q => (K8 q).elim (fun q => by rw [q, tE]; rfl) fun q => by rw [q, tI]; rfl, fun dd b g => ?_⟩
   . by_cases q : b = T
     . exact .inr ⟨.inr (q ▸ gT), by rw [q]; exact congrArg Tag.isInst (Tags.put_self ..)⟩
     . exact .inl (Tags.put_ne q)
   . obtain ⟨oT, eT, _⟩ := hTup
     have nT : b ≠ T := fun q => by rw [q] at g; cases (hk'' T oT hTw eT).symm.trans g
     refine (Tags.put_ne nT).trans (dd b ?_)
     cases g' : W1.get b with
     | none => rfl
     | some o =>
      by_cases q : b ∈ [e, it]
      . rcases K8 q with rfl | rfl
        . obtain ⟨_, he⟩ := hs''.1; cases he.symm.trans g
        . cases eI.symm.trans g
      . rw [show Ws.get _ b = some o from kp b o q g'] at g; cases g
  have hz1 : Fz W0 ⟨W1.t.put T .fz, h''⟩ := fun b o e => N.fz b o (l.fz b o (hz b o e))
  obtain ⟨oE, eE⟩ := s1.1
  obtain ⟨oI1, eI1⟩ := (K.dr A hA).live _ _ s1.2
  refine hQ ⟨W1.t.put T .fz, h''⟩ tk' (.ref T) ⟨_, N, hX⟩ (Rep.tuple (let ⟨o, ho, r⟩ := hTup; ⟨o, hk'' T o hTw ho, r⟩) (Tags.put_self ..) (.cons .int (.cons (hr.mono hz1) .nil))) (ih hy.2 hlt ((Tags.put_ne (al eE)).trans tE) ((Tags.put_ne (al eI1)).trans tI) hz1 (fun b hb => (c1 b hb).imp id fun ⟨o, g, t⟩ => ?_) hs'')
  have ne : b ∉ [e, it] := fun q => by
   rcases K8 q with q | q <;> rw [q] at t
   . rw [tE] at t; cases t
   . rw [tI] at t; cases t
  exact ⟨o, kp b o ne g, by rw [show Ws.t _ b = W1.t b from Tags.put_ne (al g)]; exact t⟩
theorem EnumI.rw (K : EnumI cx W xs e it fp P St) : RW cx (.Tuple elts k p) W (.ref e) (enumFrom 0 xs) := by
 obtain ⟨_, gE⟩ := K.start.1
 obtain ⟨oI, gI⟩ := (K.dr cx.A rfl).live _ _ K.start.2
 have N : Nx (· ∈ [e, it]) W ⟨(W.t.put e .hold).put it .hold, W.h⟩ := by
  refine ⟨fun _ _ _ g => g, fun b => ?_, fun b q => (K8 q).elim (fun q => by rw [q, K.je]; rfl) fun q => by rw [q, K.ji]; rfl, fun dd b g => ?_⟩
  . by_cases q : b = it
    . exact .inr ⟨.inl (by simp [q]), by rw [q]; exact congrArg Tag.isInst (Tags.put_self ..)⟩
    . by_cases q' : b = e
      . exact .inr ⟨.inl (by simp [q']), by rw [q']; exact congrArg Tag.isInst ((Tags.put_ne K.hei).trans (Tags.put_self ..))⟩
      . exact .inl ((Tags.put_ne q).trans (Tags.put_ne q'))
  . have n1 : b ≠ it := fun q => by rw [q] at g; cases gI.symm.trans g
    have n2 : b ≠ e := fun q => by rw [q] at g; cases gE.symm.trans g
    exact (Tags.put_ne n1).trans ((Tags.put_ne n2).trans (dd b g))
 refine ⟨_, ⟨_, N, fun b hb => (K8 hb).elim (fun q => q ▸ K.je) fun q => q ▸ K.ji⟩, K.go_on (i := 0) List.drop_zero (Nat.zero_le _) ((Tags.put_ne K.hei).trans (Tags.put_self ..)) (Tags.put_self ..) N.fz (fun b hb => (K.cover b hb).imp id fun ⟨o, g, t⟩ => ?_) K.start⟩
 obtain ⟨g', t'⟩ := N.at (by generalize W.t b = t0 at t; cases t0 <;> first | rfl | cases t) g
 exact ⟨o, g', by rw [t']; exact t⟩
theorem eY {h' : Heap} (S : Sim cx st W) (H : Post cx b cb (RW cx (.Tuple elts k p)) W Q E (.ok (enumFrom 0 xs) st)) (he : IsEnum h' (W.h.objs.size + 1) W.h.objs.size 0 .none) (hk : ∀ b o, W.h.get? b = some o -> h'.get? b = some o)
  (dr : ∀ A : Around, A.handled = cx.A.handled -> Draws cx.T.prog cx.T.w A W.h.objs.size fp xs.length P St) (hr : ∀ i v, P i v -> ∃ d, xs[i]? = some d /\ Rep W v d) (hc : ∀ b ∈ fp, b = W.h.objs.size \/ ∃ o, W.get b = some o /\ (W.t b).lent cx.d cx.c = true) (hif : W.h.objs.size ∈ fp) (hs : St 0 h') :
  d9 cx (pyIter (.ref (W.h.objs.size + 1))) Q E (sh cx.T ⟨W.t, h'⟩ tk) := by
 obtain ⟨l, S'⟩ := S.grow (b := b) (cb := cb) hk
 have K : EnumI cx ⟨W.t, h'⟩ xs (W.h.objs.size + 1) W.h.objs.size fp P St := by
  refine ⟨dr, fun i v h => let ⟨d, h1, h2⟩ := hr i v h; ⟨d, h1, h2.mono l.fz⟩, fun b hb => (hc b hb).imp id fun ⟨o, g, t⟩ => ⟨o, hk b o g, t⟩, Nat.succ_ne_self _, fun hb => ?_, hif, S.ok.dead _ (B7 W.h (Nat.le_succ _)), S.ok.dead _ (B7 W.h (Nat.le_refl _)), ⟨⟨_, he⟩, hs⟩⟩
  rcases hc _ hb with q | ⟨o, g, _⟩
  . exact Nat.succ_ne_self _ q
  . exact Nat.lt_irrefl _ (Nat.lt_of_succ_lt (Heap.lt_size g))
 exact wpAny_pyIter_enum (s := sh cx.T ⟨W.t, h'⟩ tk) he (H _ tk _ l S' K.rw)
theorem tK {a : Addr} {vs : Array Value} (hn : cx.A.handled = none) (S : Sim cx st W) (hl : W.h.IsList a vs) (ht : (W.t a).lent cx.d cx.c = true) (hr : RepAll W vs.toList xs) (H : Post cx b cb (RW cx (.Tuple elts k p)) W Q E (.ok (enumFrom 0 xs) st)) :
  d9 cx (call (.type "enumerate") [.ref a]) (fun r s => d9 cx (pyIter r) Q E s) E (sh cx.T W tk) := by
 obtain ⟨o, ho, hc, n, hd⟩ := id hl
 refine call_enumerate_list (s := sh cx.T W tk) hl fun h' he hit hsz hk => eY (P := fun i v => vs[i]? = some v) (St := fun i h => h.IsListIter W.h.objs.size a i /\ h.IsList a vs) S H he hk (fun A hA => by rw [<- hr.size]; exact Draws.list (hA.trans hn) _ a (Nat.ne_of_lt (Heap.lt_size ho)) vs) (fun i v hv => hr.get' (by rw [Array.getElem?_toList]; exact hv)) (fun b hb => ?_) (List.mem_cons_self ..) ⟨hit, hl.at fun o e => hk _ o e⟩
 rcases List.mem_cons.mp hb with rfl | hb
 . exact .inl rfl
 . cases lsm hb; exact .inr ⟨o, ho, ht⟩
theorem x4I {q : Str} {t : Tok} (hn : cx.A.handled = none) (S : Sim cx st W) (H : Post cx b cb (RW cx (.Tuple elts k p)) W Q E (.ok (enumFrom 0 ((cs q).map sgn)) st)) :
  d9 cx (call (.type "enumerate") [.str q t]) (fun r s => d9 cx (pyIter r) Q E s) E (sh cx.T W tk) := by
 have hlen : q.cps.size = ((cs q).map sgn).length := by rw [i7]; exact Array.length_toList.symm
 refine call_enumerate_str (s := sh cx.T W tk) fun h' he hit hsz hk => ?_
 cases hasc : q.cps.all (· < 128) with
 | true =>
  rw [show strIterType q = "str_ascii_iterator" by unfold strIterType; rw [hasc]; rfl] at hit
  exact eY S H he hk (fun A hA => by rw [<- hlen]; exact Draws.strAscii (hA.trans hn) _ q t) (fun i v h => X2 h) (fun b hb => .inl (lsm hb)) (List.mem_cons_self ..) hit
 | false =>
  rw [show strIterType q = "str_iterator" by unfold strIterType; rw [hasc]; rfl] at hit
  exact eY S H he hk (fun A hA => by rw [<- hlen]; exact Draws.strWide (hA.trans hn) _ q t) (fun i v h => X2 h) (fun b hb => .inl (lsm hb)) (List.mem_cons_self ..) hit
theorem xI {es : List Expr} (h0 : cx.h = false) (TO : cx.T.Ok) (C : cx.Ok cx.c) (hp : J5 cx.env.scope.names 2 x = some es) (hf : g8 a = true -> cx.c = true) (ha : SL U cx cx.c a es) : SF U cx 2 a x (.Tuple elts k p) := fun st W S tk Q E H => by
 refine S9 TO C S hp (fv := .type "enumerate") (by decide +kernel) (.inr ⟨"enumerate", rfl⟩) (ha hf st W S tk _ E (Post.bind' H fun y st1 W1 tk1 vs l1 S1 r1 H1 => ?_))
 unfold itE at H1
 cases hi : itF 2 st1.v y with
 | none => rw [hi] at H1; exact H1.elim
 | some xs =>
  rw [hi] at H1
  obtain ⟨zs, h1, rfl⟩ := m3 (show ((one y).bind (itF1 itemsS st1.v)).map (enumFrom 0) = some xs from hi)
  obtain ⟨f, h2, h1⟩ := c0 h1
  cases n0 h2
  obtain ⟨v, rfl, r⟩ := r1.one
  obtain ⟨t', l, S', h⟩ := nR (cx.d + 1) cx.c S1 r h1
  rcases h with ⟨a, vs, rfl, hl, ht, hr, hz⟩ | ⟨d, hr, hd⟩
  . exact tK (C.hand h0) (W := ⟨t', W1.h⟩) S' hl ht hr (H1.to l)
  . rcases v7 hd with h | h
    . obtain ⟨q, hq, h⟩ := c0 h
      obtain ⟨hz, rfl⟩ := i5 h
      obtain ⟨_, rfl⟩ := hr.ss hq
      exact x4I (C.hand h0) (W := ⟨t', W1.h⟩) S' (H1.to l)
    . obtain ⟨q, hq, h⟩ := c0 h
      obtain ⟨hz, rfl⟩ := i5 h
      obtain ⟨a, vs, rfl, hl, ht, hr⟩ := hr.ll hq
      exact tK (C.hand h0) (W := ⟨t', W1.h⟩) S' hl (by rw [ht]; rfl) hr (H1.to l)
end
noncomputable def r7 (cells : List (Str × Addr)) : Kd -> List (Str × Addr) -> List (Str × Addr)
 | [], acc => acc
 | y :: r, acc => r7 cells r (if y.2 == .free then (match cells.lookup y.1 with | some c => (y.1, c) :: acc | none => acc) else acc)
section
variable {cells : List (Str × Addr)} {names : Kd} {acc : List (Str × Addr)} {y : Str} {c : Addr}
theorem kP (h : (y, c) ∈ r7 cells names acc) : (y, c) ∈ acc \/ cells.lookup y = some c := by
 induction names generalizing acc with
 | nil => exact .inl h
 | cons z r ih =>
  rcases ih h with h | h
  . cases hz : z.2 == .free with
    | false => rw [hz] at h; exact .inl h
    | true =>
     rw [hz] at h
     cases hc : cells.lookup z.1 with
     | none => rw [hc] at h; exact .inl h
     | some c' =>
      rw [hc] at h
      rcases List.mem_cons.mp h with e | h
      . cases e; exact .inr hc
      . exact .inl h
  . exact .inr h
theorem x4n {q : Str × Addr} (h : q ∈ acc) : q ∈ r7 cells names acc := by
 induction names generalizing acc with
 | nil => exact h
 | cons z r ih =>
  refine ih ?_
  cases z.2 == .free with
  | false => exact h
  | true =>
   cases cells.lookup z.1 with
   | none => exact h
   | some c' => exact .tail _ h
theorem x2S (h : (y, NameKind.free) ∈ names) (hc : cells.lookup y = some c) : (y, c) ∈ r7 cells names acc := by
 induction names generalizing acc with
 | nil => cases h
 | cons z r ih =>
  rcases List.mem_cons.mp h with e | h
  . subst e
    show (y, c) ∈ r7 cells r (match cells.lookup y with | some c => (y, c) :: acc | none => acc)
    rw [hc]; exact x4n (.head _)
  . exact ih h
theorem x5j {l : List (Str × Addr)} (h : (y, c) ∈ l) (hu : ∀ c', (y, c') ∈ l -> c' = c) : l.lookup y = some c := by
 induction l with
 | nil => cases h
 | cons p r ih =>
  rw [List.lookup_cons]
  cases e : y == p.1 with
  | true =>
   have e := eq_of_beq e
   exact congrArg some (hu p.2 (by rw [e]; exact .head _))
  | false =>
   rcases List.mem_cons.mp h with q | q
   . rw [<- q] at e; exact absurd rfl (ne_of_beq_false e)
   . exact ih q fun c' h' => hu c' (.tail _ h')
theorem x3u (h : (y, NameKind.free) ∈ names) (hc : cells.lookup y = some c) : (r7 cells names []).lookup y = some c :=
 x5j (x2S h hc) fun c' h' => by
  rcases kP h' with q | q
  . cases q
  . cases hc.symm.trans q; rfl
theorem xE {env : Env} (h : ∀ x ∈ names, x.2 = .free -> ∃ c, env.cells.lookup x.1 = some c) :
  (forIn names acc fun (x : Str × NameKind) r => (match x with | (name, kind) => if (kind == .free) = true then do let a <- cellOf env name; pure (ForInStep.yield ((name, a) :: r)) else pure (ForInStep.yield r)) : Sem (List (Str × Addr))) = pure (r7 env.cells names acc) := by
 induction names generalizing acc with
 | nil => rfl
 | cons z r ih =>
  rw [List.forIn_cons]
  have ih := fun acc => ih (acc := acc) fun x hx => h x (.tail _ hx)
  obtain ⟨n, k⟩ := z
  cases hk : k == NameKind.free with
  | true =>
   obtain ⟨c, hc⟩ := h _ (.head _) (eq_of_beq hk)
   dsimp only at hc
   simp only [cellOf, hc, hk, if_true, pure_bind]
   refine (ih _).trans ?_
   show _ = pure (r7 env.cells r (if k == .free then (match env.cells.lookup n with | some c => (n, c) :: acc | none => acc) else acc))
   rw [hk, hc]; rfl
  | false =>
   simp only [hk, Bool.false_eq_true, if_false, pure_bind]
   refine (ih _).trans ?_
   show _ = pure (r7 env.cells r (if k == .free then (match env.cells.lookup n with | some c => (n, c) :: acc | none => acc) else acc))
   rw [hk]; rfl
theorem x4b {scope : Scope} {env : Env} (h : ∀ x ∈ scope.names, x.2 = .free -> ∃ c, env.cells.lookup x.1 = some c) : closureFor scope env = pure (r7 env.cells scope.names []) := by
 unfold closureFor
 have := xE (env := env) (names := scope.names) (acc := []) h
 simp only [bind_pure]
 exact this
end
structure CompOk (cx : Cx) (scope : Scope) (x : Str) : Prop where
 kind : scope.kind = .function
 cell : ∀ y ∈ scope.names, y.2 ≠ .cell
 loc : ∀ y ∈ scope.names, y.2 = .local -> scope.names.lookup y.1 = some .local
 free : ∀ y ∈ scope.names, y.2 = .free -> cx.env.scope.names.lookup y.1 = some .cell
 hx : scope.names.lookup x = some .local
 mask : ∀ y ∈ maskN x cx.nm, (u5 scope.names cx.env.scope.names).lookup y ≠ some .local
 nil : (u5 scope.names cx.env.scope.names).lookup ("" : Str) = none
noncomputable def Cx.inner (cx : Cx) (scope : Scope) (x : Str) (Cc : Addr) : Cx :=
 { T := cx.T, A := cx.A, env := compEnvC scope (r7 cx.env.cells scope.names []) Cc cx.env, nm := maskN x cx.nm ++ [x], d := cx.d + 2, c := cx.c, full := false, h := cx.h }
theorem nA {scope : Scope} {env : Env} (hk : env.scope.kind = .function) : (relabel scope env).names = u5 scope.names env.scope.names := by
 unfold relabel u5
 simp only [hk, Env.kindOf]
 rfl
theorem x5M {names kd : Kd} {y : Str} (hc : ∀ z ∈ names, z.2 ≠ .cell) (h : (u5 names kd).lookup y = some .cell) : (y, NameKind.free) ∈ names := by
 have hm := mem_of_lookup h
 unfold u5 at hm
 obtain ⟨⟨n, k⟩, h1, h2⟩ := List.mem_map.mp hm
 dsimp only at h2
 split at h2
 . rename_i q
   simp only [Bool.and_eq_true, beq_iff_eq] at q
   cases h2
   rw [<- q.1.1]; exact h1
 . cases h2; exact absurd rfl (hc _ h1)
section
variable {cx : Cx} {st st' : St} {W W' : Ws} {x : Str} {scope : Scope} {Cc : Addr} {v u : Value} {d : PyData} {f : F} {t : Tag} {i : Nat} {m : Str -> Option Value} {y : Str}
theorem wH {cb : Bool} (C : cx.Ok cb) (CO : CompOk cx scope x) : (cx.inner scope x Cc).Ok cb := ⟨C.cb, CO.kind, C.glob, C.bltn, C.hand, C.units, C.depth⟩
theorem yT {cb : Bool} (C : cx.Ok cb) : (cx.inner scope x Cc).env.scope.names = u5 scope.names cx.env.scope.names := nA C.kind
theorem jW {o : Option F} (h : seen o = some f) : ∃ g, o = some g := by
 cases o with
 | none => cases h
 | some g => exact ⟨g, rfl⟩
theorem uB {o : Option F} (h : seen o = some f) : f.tmp = false := by
 cases o with
 | none => cases h
 | some g => cases g <;> first | (cases h; rfl) | cases h
theorem x1U {d d' : Nat} {c : Bool} (hd : d <= d') (h : t.lent d c = true) : t.lent d' c = true := by
 cases t with
 | own e i => exact dtt (Nat.lt_of_lt_of_le (k6 h) hd)
 | _ => exact h
theorem RepS.seen {cx' : Cx} {g : F} {t' : Tag} (hT : cx'.T = cx.T) (hd : cx.d < cx'.d) (hc : cx'.c = true -> cx.c = true) (r : RepS cx W (.own cx.d (i + 1)) v g) (h : seen (some g) = some f) : RepS cx' W t' v f := by
 have lc : ∀ {t : Tag}, t.lent cx'.d cx.c = true -> t.lent cx'.d cx'.c = true := fun {t} h => by
  cases t with
  | pgf k j => cases hq : cx'.c with
   | false => rfl
   | true => rw [hc hq] at h; cases h
  | _ => exact h
 cases g with
 | val d => cases h; exact r
 | own xs => cases h; obtain ⟨a, vs, e, ⟨n, q⟩, ht, hr⟩ := r; exact ⟨a, vs, e, ⟨_, q, rfl, n, rfl⟩, by rw [ht]; exact dtt hd, hr⟩
 | brw xs => cases h; obtain ⟨a, vs, e, q, ht, hr⟩ := r; exact ⟨a, vs, e, q, lc (x1U (Nat.le_of_lt hd) ht), hr⟩
 | pg k => cases h; exact r
 | dct es => cases h
 | pgs ks => cases h
 | ex k => cases h
 | lnd j => cases h
theorem x5W (h : slot (inV st.v d) i = some f) : (i < st.v.length /\ seen (slot st.v i) = some f) \/ (i = st.v.length /\ f = .val d) := by
 unfold slot inV at h
 have hl : (st.v.map seen).length = st.v.length := i7 ..
 rcases Nat.lt_trichotomy i st.v.length with q | q | q
 . refine .inl ⟨q, ?_⟩
   rw [List.getElem?_append_left (by rw [hl]; exact q), List.getElem?_map] at h
   unfold slot
   rw [geg q] at h ⊢
   exact h
 . refine .inr ⟨q, ?_⟩
   rw [List.getElem?_append_right (by rw [hl, q]; exact Nat.le_refl _), q, hl, Nat.sub_self] at h
   cases h; rfl
 . rw [List.getElem?_eq_none (by rw [lap, hl]; exact q)] at h
   cases h
theorem x2N (hi : i < cx.nm.length) (h : (maskN x cx.nm ++ [x])[i]? = some y) : y ∈ maskN x cx.nm /\ (cx.nm[i]? = some y \/ y = ("" : Str)) := by
 have hml : (maskN x cx.nm).length = cx.nm.length := i7 ..
 rw [List.getElem?_append_left (by rw [hml]; exact hi)] at h
 refine ⟨mog h, ?_⟩
 unfold maskN at h
 rw [List.getElem?_map, geg hi] at h
 rw [geg hi]
 replace h : (if cx.nm[i] == x then ("" : Str) else cx.nm[i]) = y := Option.some.inj h
 cases e : cx.nm[i] == x with
 | true => rw [e] at h; exact .inr h.symm
 | false => rw [e] at h; exact .inl (congrArg some h)
theorem uK {cb : Bool} (C : cx.Ok cb) (CO : CompOk cx scope x) (F : Frm cx st.v W) (hlen : st.v.length = cx.nm.length) (hn : W.h.Ns Cc m) (ht : W.t Cc = .loc (cx.d + 2)) (hm : m x = some v) (hr : Rep W v d) : Frm (cx.inner scope x Cc) (inV st.v d) W := by
 have kx : (cx.inner scope x Cc).env.kindOf x = some .local := lookup_relabel_local CO.hx
 refine ⟨⟨m, hn⟩, ht, fun y c hc => ?_, fun i f y h1 h2 h3 => ?_, let ⟨l', h1, h2⟩ := F.frs; ⟨l', h1, h2.keep (Nat.le_add_right _ 2) fun L d' o hd t g => ⟨t, o, g⟩⟩, F.hnd⟩
 . rcases kP hc with q | q
   . cases q
   . obtain ⟨e, d', t, l, _⟩ := F.cells y c (mem_of_lookup q)
     exact ⟨e, d', t, nlt l (Nat.le_add_right ..), fun q => nomatch q⟩
 . rcases x5W h1 with ⟨hi, hs⟩ | ⟨rfl, rfl⟩
   . obtain ⟨hmem, hny⟩ := x2N (hlen ▸ hi) h2
     have hkd : (cx.inner scope x Cc).env.kindOf y = (u5 scope.names cx.env.scope.names).lookup y := by
      show (relabel scope cx.env).names.lookup y = _
      rw [nA C.kind]
     rcases h3 with h3 | h3
     . rw [hkd] at h3; exact absurd h3 (CO.mask y hmem)
     . rw [hkd] at h3
       have hfree := x5M CO.cell h3
       have hout : cx.env.kindOf y = some .cell := CO.free _ hfree rfl
       rcases hny with hny | rfl
       . obtain ⟨g, hg⟩ := jW hs
         obtain ⟨u, hu, r⟩ := F.vals i g y hg hny (.inr hout)
         refine ⟨u, ?_, RepS.seen (cx := cx) (cx' := cx.inner scope x Cc) rfl (Nat.lt_add_of_pos_right (k := 2) (by decide)) id r (hg ▸ hs)⟩
         rcases hu with ⟨k, _⟩ | ⟨k, c, hc, hv'⟩
         . cases hout.symm.trans k
         . exact .inr ⟨by rw [hkd]; exact h3, c, x3u hfree hc, hv'⟩
       . rw [CO.nil] at h3; cases h3
   . have : y = x := by
      have h2' : (maskN x cx.nm ++ [x])[st.v.length]? = some y := h2
      rw [List.getElem?_append_right (by rw [hlen]; exact Nat.le_of_eq (i7 ..)), hlen, show (maskN x cx.nm).length = cx.nm.length from i7 .., Nat.sub_self] at h2'
      cases h2'; rfl
     subst this
     exact ⟨v, .inl ⟨kx, m, hn, hm⟩, hr⟩
theorem x4G {c : Bool} {st1 : St} (S : Sim cx st W) (l : Le (cx.d + 2) (cx.d + 3) c W W') (hc : c = true -> cx.c = true) (S' : Sim (cx.inner scope x Cc) st' W') (h1 : st1.v = st.v) (h2 : st1.p = st'.p) : Sim cx st1 W' :=
 ⟨h2 ▸ S'.ok, h1 ▸ S.fr.le l (Nat.lt_add_of_pos_right (by decide)) (Nat.lt_add_of_pos_right (by decide)) hc⟩
end
theorem R.bind_ok {α β : Type} {r : R α} {f : α -> St -> R β} {a : β} {st : St} (h : r.bind f = .ok a st) : ∃ x st1, r = .ok x st1 /\ f x st1 = .ok a st := by
 cases r with
 | ok x st1 => exact ⟨x, st1, rfl, h⟩
 | exc k st1 => cases h
 | stuck => cases h
noncomputable def G4 {δ : Type} (pk : List F -> Option δ) (U : Nat -> Fn) (elt cond : CE) (v : Slots) : PyData -> List Slots -> R (List δ) := fun d p =>
 (cndE (cond.ctorIdx == 0) (ev U cond ⟨inV v d, p, 0⟩) ⟨inV v d, p, 0⟩).bind fun b st' => if b then (ev U elt ⟨inV v d, st'.p, 0⟩).bind (C2 pk) else .ok [] st'
noncomputable abbrev stepC (U : Nat -> Fn) (elt cond : CE) (v : Slots) : PyData -> List Slots -> R (List PyData) := G4 oneV U elt cond v
structure RlOk {δ : Type} (cx : Cx) (Rl : Ws -> Value -> δ -> Prop) (pk : List F -> Option δ) : Prop where
 mono : ∀ W W' v d, Fz W W' -> Ik W W' -> Rl W v d -> Rl W' v d
 pick : ∀ scope x Cc W u fs y, RepL (cx.inner scope x Cc) W [u] fs -> pk fs = some y -> Rl W u y
theorem fP {cx : Cx} : RlOk cx Rep oneV := ⟨fun _ _ _ _ z _ r => r.mono z, fun _ _ _ _ _ _ _ r h => E8 r h⟩
theorem aD {cx : Cx} : RlOk cx IsPg onePg := ⟨fun _ _ _ _ _ i r => r.mono i, fun _ _ _ _ u fs y r h => by
 match fs, h, r with
 | [.pg k], h, r => cases h; exact r.1⟩
theorem qC {W : Ws} : ∀ {vs : List Value} {ds : List PyData}, RelAll (Rep W) vs ds -> RepAll W vs ds
 | [], [], _ => .nil
 | _ :: _, _ :: _, r => .cons r.1 (qC r.2)
 | [], _ :: _, r => r.elim
 | _ :: _, [], r => r.elim
theorem Le.ik {W W' : Ws} {a b : Nat} {c : Bool} (l : Le a b c W W') : Ik W W' := fun x o k t g => let q := l.fix g (by rw [t]; rfl) (by rw [t]; rfl); ⟨q.1, q.2.trans t⟩
theorem But.ik {W W' : Ws} {x : Addr} (B : But x W W') (h : ∀ k, W.t x ≠ .inst k) : Ik W W' := fun y o k t g => have n : y ≠ x := fun q => h k (q ▸ t); ⟨B.gt y o n g, (B.tg y n).trans t⟩
theorem Nx.ik {X : Addr -> Prop} {W W' : Ws} (N : Nx X W W') : Ik W W' := fun x o k t g => let q := N.at (by rw [t]; rfl) g; ⟨q.1, q.2.trans t⟩
noncomputable def iY (U : Nat -> Fn) (cx : Cx) (cb : Bool) (c : CE) (ifs : List Expr) : Prop := (c.ctorIdx = 0 /\ ifs = []) \/ (c.ctorIdx ≠ 0 /\ ∃ e, ifs = [e] /\ SB U cx cb c e)
structure CL {δ : Type} (Rl : Ws -> Value -> δ -> Prop) (cx : Cx) (cb : Bool) (D Cc : Addr) (W2 W : Ws) (st : St) (ds : List δ) (ys : Array Value) : Prop where
 sim : Sim cx st W
 le : Le cx.d (cx.d + 1) cb W2 W
 lst : W.h.PlainList D ys
 dt : W.t D = .own (cx.d + 1) 0
 rep : RelAll (Rl W) ys.toList ds
 ns : ∃ m, W.h.Ns Cc m
 ct : W.t Cc = .loc (cx.d + 2)
structure InOk (U : Nat -> Fn) (cx : Cx) (cb : Bool) (scope : Scope) (x : Str) (elt cond : CE) (ex : Expr) (ifs : List Expr) : Prop where
 el : ∀ Cc, SL U (cx.inner scope x Cc) cb elt [ex]
 cn : ∀ Cc, iY U (cx.inner scope x Cc) cb cond ifs
 fe : g8 elt = true -> cb = true
 fc : g8 cond = true -> cb = true
section
variable {U : Nat -> Fn} {cx : Cx} {cb : Bool} {E : VP} {st st' : St} {W W' W2 : Ws} {tk n : Nat} {d : PyData} {v u : Value} {pos px : Pos} {ex iter : Expr} {ifs : List Expr} {elt cond : CE} {xs : List PyData} {δ : Type} {Rl : Ws -> Value -> δ -> Prop} {pk : List F -> Option δ} {ys out ds : List δ} {vs : Array Value} {D Cc I : Addr} {x : Str} {scope : Scope} {vv : Slots} {p pout : List Slots} {b : Bool}
theorem x6u (h : G4 pk U elt cond vv d p = .ok ys st') : ∃ b st1, cndE (cond.ctorIdx == 0) (ev U cond ⟨inV vv d, p, 0⟩) ⟨inV vv d, p, 0⟩ = .ok b st1 /\
  ((b = false /\ ys = [] /\ st' = st1) \/ (b = true /\ ∃ fs y, ev U elt ⟨inV vv d, st1.p, 0⟩ = .ok fs st' /\ pk fs = some y /\ ys = [y])) := by
 obtain ⟨b, st1, h1, h2⟩ := R.bind_ok h
 refine ⟨b, st1, h1, ?_⟩
 cases b with
 | false => cases h2; exact .inl ⟨rfl, rfl, rfl⟩
 | true =>
  obtain ⟨fs, st2, h3, h4⟩ := R.bind_ok (show (ev U elt ⟨inV vv d, st1.p, 0⟩).bind (C2 pk) = .ok ys st' from h2)
  unfold C2 at h4
  cases ho : pk fs with
  | none => rw [ho] at h4; cases h4
  | some y => rw [ho] at h4; cases h4; exact .inr ⟨rfl, fs, y, h3, ho, rfl⟩
theorem x2D {Q : Bool -> Shared -> Prop} (h : iY U cx cb cond ifs) (hf : g8 cond = true -> cb = true) (S : Sim cx st W) (hev : cndE (cond.ctorIdx == 0) (ev U cond st) st = .ok b st') (hq : ∀ W' tk', Le cx.d (cx.d + 1) cb W W' -> Sim cx st' W' -> Q b (sh cx.T W' tk')) :
  d9 cx (forIn ifs true fun c r => if r = true then do let ok <- isTrue c cx.env (eval c cx.env); pure (ForInStep.yield ok) else pure (ForInStep.yield r)) Q E (sh cx.T W tk) := by
 rcases h with ⟨h, rfl⟩ | ⟨h, e, rfl, h2⟩
 . rw [h] at hev
   cases hev
   exact wpAny_pure (hq W tk Le.refl S)
 . rw [show (cond.ctorIdx == 0) = false from w2 fun q => h (eq_of_beq q)] at hev
   rw [List.forIn_cons]
   refine wpAny_bind (wpAny_bind (h2 hf st W S tk _ E ?_))
   rw [show toB (ev U cond st) = .ok b st' from hev]
   intro W' tk' t l S' r
   cases show t = b from r
   exact wpAny_pure (wpAny_pure (hq W' tk' l S'))
theorem x5k {f : PyData -> List Slots -> R (List δ)} {z : PyData} {q : List δ × List Slots} (h : mapR f (z :: xs) p = some q) : ∃ ys st' r, f z p = .ok ys st' /\ mapR f xs st'.p = some r /\ q = (ys ++ r.1, r.2) := by
 replace h : (match f z p with | .ok ys st => (mapR f xs st.p).map fun q => (ys ++ q.1, q.2) | _ => none) = some q := h
 cases h1 : f z p with
 | ok ys st' =>
  rw [h1] at h
  obtain ⟨r, h2, rfl⟩ := m3 h
  exact ⟨ys, st', r, rfl, h2, rfl⟩
 | exc k st' => rw [h1] at h; cases h
 | stuck => rw [h1] at h; cases h
theorem CL.but {x : Addr} {ds' : List δ} {ys' : Array Value} (L : CL Rl cx cb D Cc W2 W st ds vs) (hcb : cb = true -> cx.c = true) (B : But x W W') (hx : W.t x = .own (cx.d + 1) 0 \/ W.t x = .loc (cx.d + 2)) (ht : W'.t x = W.t x) (ha : ∃ o, W'.get x = some o /\ Nf o) (hl : W'.h.PlainList D ys') (hr : RelAll (Rl W') ys'.toList ds') (hn : ∃ m, W'.h.Ns Cc m) :
  CL Rl cx cb D Cc W2 W' st ds' ys' /\ Le (cx.d + 1) (cx.d + 2) cb W W' := by
 have ni : NI W' x := ⟨fun k e => (by rw [ht] at e; rcases hx with q | q <;> rw [q] at e <;> cases e), fun d o _ e => by obtain ⟨o', g, n⟩ := ha; cases g.symm.trans e; exact n⟩
 have fr : ∀ a b, a <= cx.d + 1 -> b <= cx.d + 2 -> Fr a b cb W x := fun a b ha hb => .of (by rcases hx with q | q <;> rw [q]; exact dtt ha; exact dtt hb)
 have l := B.le (fr cx.d (cx.d + 1) (Nat.le_succ _) (Nat.le_succ _)) ni
 have tg : ∀ {b t}, W.t b = t -> W'.t b = t := fun {b t} q => by
  by_cases e : b = x
  . rw [e, ht, <- e]; exact q
  . exact (B.tg b e).trans q
 exact ⟨⟨⟨L.sim.ok.but B (by rcases hx with q | q <;> rw [q] <;> rfl) (fun e => let ⟨o, g, _⟩ := ha; nomatch g.symm.trans e) ni, L.sim.fr.le (B.le (fr (cx.d + 1) (cx.d + 1) (Nat.le_refl _) (Nat.le_succ _)) ni) (Nat.lt_succ_self _) (Nat.lt_succ_self _) hcb⟩, L.le.trans l, hl, tg L.dt, hr, hn, tg L.ct⟩, B.le (fr (cx.d + 1) (cx.d + 2) (Nat.le_refl _) (Nat.le_refl _)) ni⟩
theorem mW {d : Nat} (h : W.t D = .own d 0) (h' : W.t Cc = .loc (d + 1)) : D ≠ Cc := fun q => by rw [q, h'] at h; cases h
theorem CL.stp (RO : RlOk cx Rl pk) (L : CL Rl cx cb D Cc W2 W st ds vs) (h : Stp W2 W W') : CL Rl cx cb D Cc W2 W' st ds vs := by
 obtain ⟨X, N, hX⟩ := id h
 obtain ⟨nn, g⟩ := L.lst
 obtain ⟨m, o, es, ep, g', r⟩ := L.ns
 have hd := N.at (by rw [L.dt]; rfl) g
 have hc := N.at (by rw [L.ct]; rfl) g'
 exact ⟨h.sim L.sim, h.le L.le, ⟨nn, hd.1⟩, hd.2.trans L.dt, L.rep.imp fun _ _ => RO.mono _ _ _ _ N.fz N.ik, ⟨m, o, es, ep, hc.1, r⟩, hc.2.trans L.ct⟩
theorem CL.inner {st2 : St} (RO : RlOk cx Rl pk) (L : CL Rl cx cb D Cc W2 W ⟨vv, p, n⟩ ds vs) (hcb : cb = true -> cx.c = true) (l : Le (cx.d + 2) (cx.d + 3) cb W W') (N : Sim (cx.inner scope x Cc) st2 W') : CL Rl cx cb D Cc W2 W' ⟨vv, st2.p, n⟩ ds vs /\ Le (cx.d + 1) (cx.d + 2) cb W W' := by
 obtain ⟨nn, g⟩ := L.lst
 obtain ⟨m, hm⟩ := L.ns
 have l' : Le cx.d (cx.d + 1) cb W W' := l.mono (Nat.le_add_right _ 2) (Nat.le_add_right (cx.d + 1) 2) id
 have hd := l.fix g (by rw [L.dt]; exact dff (Nat.not_le.mpr (Nat.lt_succ_self _))) (by rw [L.dt]; rfl)
 have kc : (W.t Cc).ch (cx.d + 2) (cx.d + 3) cb = false := by rw [L.ct]; exact dff (Nat.not_le.mpr (Nat.lt_succ_self _))
 refine ⟨⟨x4G L.sim l hcb N rfl rfl, L.le.trans l', ⟨nn, hd.1⟩, hd.2.trans L.dt, L.rep.imp fun _ _ => RO.mono _ _ _ _ l.fz l.ik, ⟨m, l.ns kc hm⟩, ?_⟩, l.mono (Nat.le_succ _) (Nat.le_succ _) id⟩
 obtain ⟨o, _, _, g', _⟩ := hm
 exact (l.loct g' kc).trans L.ct
noncomputable def U1 : Go := fun _ _ Q _ s => Q () s
theorem Stand.next {T : Tp} {d : Nat} {c : Bool} {it : Value} {W0 : Ws} {z : PyData} {A : Around} {R : Option Value -> Shared -> Prop} {hd : Option Value} (K : Stand T d c hd U1 it W0 (z :: xs) W) (hA : A.handled = hd) (h : ∀ W' tk' v, Stp W0 W W' -> Rep W' v z -> Stand T d c hd U1 it W0 xs W' -> R (some v) (sh T W' tk')) :
  wpAny (model T.prog T.w) A (pyNext it) R E (sh T W tk) := wpAny_mono (K W tk A (fun v s => R (some v) s) E hA Le.refl h) (fun r s h => by
 cases r with
 | none => exact h.elim
 | some v => exact h) fun _ _ h => h
inductive CI {δ : Type} (Rl : Ws -> Value -> δ -> Prop) (pk : List F -> Option δ) (U : Nat -> Fn) (cx : Cx) (cb : Bool) (D Cc I : Addr) (W2 : Ws) (vv : Slots) (n : Nat) (elt cond : CE) (out : List δ) (pout : List Slots) : Nat -> Shared -> Prop
 | mk (xs : List PyData) (ds : List δ) (p : List Slots) (W : Ws) (tk : Nat) (ys : Array Value) (rest : List δ × List Slots) (K : Stand cx.T (cx.d + 1) cx.c cx.A.handled U1 (.ref I) W2 xs W) (L : CL Rl cx cb D Cc W2 W ⟨vv, p, n⟩ ds ys) (hz : ds.length + xs.length <= sizeLine) (hm : mapR (G4 pk U elt cond vv) xs p = some rest) (ho : out = ds ++ rest.1) (hp : pout = rest.2) : CI Rl pk U cx cb D Cc I W2 vv n elt cond out pout xs.length (sh cx.T W tk)
theorem x0F {Rr : Result -> Shared -> Prop} (RO : RlOk cx Rl pk) (C : cx.Ok cb) (CO : CompOk cx scope x) (IO : InOk U cx cb scope x elt cond ex ifs) (hlen : vv.length = cx.nm.length) (K : Stand cx.T (cx.d + 1) cx.c cx.A.handled U1 (.ref I) W2 xs W) (L : CL Rl cx cb D Cc W2 W ⟨vv, p, n⟩ [] #[]) (hz : xs.length <= sizeLine) (hm : mapR (G4 pk U elt cond vv) xs p = some (out, pout))
  (hR : ∀ W' tk' ys, CL Rl cx cb D Cc W2 W' ⟨vv, pout, n⟩ out ys -> Rr (.ok .next) (sh cx.T W' tk')) :
  codeAny (model cx.T.prog cx.T.w) cx.A (.compLoop (.ListComp ex [⟨.Name x px, iter, ifs, 0⟩] scope pos) 0 (.ref I) (.ref D) (compEnvC scope (r7 cx.env.cells scope.names []) Cc cx.env)) Rr (sh cx.T W tk) := by
 have kx : (compEnvC scope (r7 cx.env.cells scope.names []) Cc cx.env).kindOf x = some .local := lookup_relabel_local CO.hx
 have hp : ((compEnvC scope (r7 cx.env.cells scope.names []) Cc cx.env).scope.kind == .class || ((compEnvC scope (r7 cx.env.cells scope.names []) Cc cx.env).scope.kind == .module && (compEnvC scope (r7 cx.env.cells scope.names []) Cc cx.env).locals != (compEnvC scope (r7 cx.env.cells scope.names []) Cc cx.env).globals)) = false := by
  show (scope.kind == .class || (scope.kind == .module && _)) = false
  rw [CO.kind]; rfl
 refine codeAny_compLoop_tests (CI Rl pk U cx cb D Cc I W2 vv n elt cond out pout) ?_ xs.length (.mk xs [] p W tk #[] _ K L (by rw [List.length_nil, Nat.zero_add]; exact hz) hm rfl rfl)
 rintro k s ⟨xs, ds, p, W, tk, ys, rest, K, L, hz, hm, rfl, rfl⟩
 cases xs with
 | nil =>
  cases hm
  refine K W tk cx.A _ _ rfl Le.refl fun W' tk' h => hR W' tk' ys ?_
  rw [List.append_nil]
  exact L.stp RO h
 | cons z xs =>
  obtain ⟨y₁, st1, r, h1, h2, rfl⟩ := x5k hm
  obtain ⟨b, st2, hb, h1⟩ := x6u h1
  refine K.next rfl fun W' tk' v h rv K' => ?_
  show wpAny _ _ _ _ _ _
  have L1 := L.stp RO h
  obtain ⟨m, hn⟩ := L1.ns
  refine wpAny_assign_Name (wpAny_storeName_local (s := sh cx.T W' tk') kx hn (fun h₂ hn₂ hs₂ => ?_) hp)
  have B : But Cc W' ⟨W'.t, h₂⟩ := .keep fun b o n e => (hs₂.2 b n).trans e
  have nD : D ≠ Cc := mW L1.dt L1.ct
  have hz2 := B.fz fun e => by rw [L1.ct] at e; cases e
  obtain ⟨L2, l2⟩ := L1.but (ds' := ds) (ys' := ys) C.cb B (.inr L1.ct) rfl (let ⟨o, _, _, g, hd, _⟩ := hn₂; ⟨o, g, fun vs e => by cases hd.symm.trans e⟩) (zM L1.lst fun o e => B.gt _ o nD e) (L1.rep.imp fun _ _ => RO.mono _ _ _ _ hz2 (B.ik fun k e => by rw [L1.ct] at e; cases e)) ⟨_, hn₂⟩
  have N2 : Sim (cx.inner scope x Cc) ⟨inV vv z, p, 0⟩ ⟨W'.t, h₂⟩ := ⟨L2.sim.ok, uK C CO L2.sim.fr hlen hn₂ L2.ct (if_pos rfl) (rv.mono hz2)⟩
  refine x2D (cx := cx.inner scope x Cc) (IO.cn Cc) IO.fc N2 hb fun W3 tk3 l3 N3 => ?_
  have fz3 := l3.fz
  have go3 : CL Rl cx cb D Cc W2 W3 ⟨vv, st2.p, n⟩ ds ys /\ Le (cx.d + 1) (cx.d + 2) cb ⟨W'.t, h₂⟩ W3 := L2.inner RO C.cb l3 N3
  rcases h1 with ⟨rfl, rfl, rfl⟩ | ⟨rfl, fs, y, he, ho, rfl⟩
  . exact ⟨xs.length, Nat.lt_succ_self _, .mk xs ds _ W3 tk3 ys r (K'.later ((l2.trans go3.2).mono (Nat.le_refl _) (Nat.le_succ _) C.cb)) go3.1 (nlt (Nat.add_le_add_left (Nat.le_succ _) _) hz) h2 rfl rfl⟩
  . have L3 := go3.1
    have kc : (Ws.mk W'.t h₂).t Cc = .loc (cx.d + 2) := L2.ct
    have kc : ((Ws.mk W'.t h₂).t Cc).ch (cx.d + 2) (cx.d + 3) cb = false := by rw [kc]; exact dff (Nat.not_le.mpr (Nat.lt_succ_self _))
    have hn3 := l3.ns kc hn₂
    have N3' : Sim (cx.inner scope x Cc) ⟨inV vv z, st2.p, 0⟩ W3 := ⟨L3.sim.ok, uK C CO L3.sim.fr hlen hn3 L3.ct (if_pos rfl) ((rv.mono hz2).mono fz3)⟩
    refine IO.el Cc IO.fe _ W3 N3' tk3 (r6 fun v s => d9 cx (call (.builtin "list.append") [.ref D, v]) _ _ s) _ ?_
    rw [he]
    intro W4 tk4 us l4 N4 r4
    match us, r4 with
    | [], _ => trivial
    | _ :: _ :: _, _ => trivial
    | [u], r4 =>
    obtain ⟨L4, l4'⟩ := L3.inner RO C.cb l4 N4
    have ry := RO.pick _ _ _ _ _ _ _ r4 ho
    have hsz : ys.size <= sizeLine := by rw [show ys.size = ds.length from L4.rep.length]; exact nlt (Nat.le_add_right ..) hz
    refine wpAny_list_append_plain (s := sh cx.T W4 tk4) L4.lst (fun h₅ hl₅ hs₅ => ?_) hsz
    have B5 : But D W4 ⟨W4.t, h₅⟩ := .keep fun b o n e => (hs₅.2 b n).trans e
    have hz5 := B5.fz fun e => by rw [L4.dt] at e; cases e
    have ik5 := B5.ik fun k e => by rw [L4.dt] at e; cases e
    obtain ⟨m4, o4, e4, p4, g4, r4'⟩ := L4.ns
    obtain ⟨L5, l5⟩ := L4.but (ds' := ds ++ [y]) (ys' := ys.push u) C.cb B5 (.inl L4.dt) rfl (let ⟨n, g⟩ := hl₅; ⟨_, g, fun vs e => by cases e⟩) hl₅ (by rw [Array.toList_push]; exact (L4.rep.imp fun _ _ => RO.mono _ _ _ _ hz5 ik5).snoc (RO.mono _ _ _ _ hz5 ik5 ry)) ⟨m4, o4, e4, p4, B5.gt _ _ nD.symm g4, r4'⟩
    exact ⟨xs.length, Nat.lt_succ_self _, .mk xs (ds ++ [y]) _ _ tk4 _ r (K'.later ((l2.trans (go3.2.trans (l4'.trans l5))).mono (Nat.le_refl _) (Nat.le_succ _) C.cb)) L5 (by rw [lap]; exact nlt (Nat.le_of_eq (by show ds.length + 1 + xs.length = ds.length + (xs.length + 1); lia)) hz) h2 (by rw [List.append_assoc]) rfl⟩
end
section
variable {U : Nat -> Fn} {cx : Cx} {cb : Bool} {E : VP} {st : St} {W W' : Ws} {tk n nn kd i : Nat} {d : PyData} {v : Value} {pos pos' apos px : Pos} {ex iter : Expr} {ifs : List Expr} {src elt cond : CE} {xs : List PyData} {δ : Type} {Rl : Ws -> Value -> δ -> Prop} {pk : List F -> Option δ} {ys out : List δ} {vs : Array Value} {D Cc I : Addr} {x : Str} {scope : Scope} {vv : Slots} {p pout : List Slots} {b : Bool} {fp : List Addr} {P : Nat -> Value -> Prop} {St : Nat -> Heap -> Prop}
theorem R.bind_assoc {α β γ : Type} {r : R α} {f : α -> Mine.Internal.St -> R β} {g : β -> Mine.Internal.St -> R γ} : (r.bind f).bind g = r.bind fun x st => (f x st).bind g := by cases r <;> rfl
theorem R.bind_pure {α : Type} (r : R α) : r.bind (fun x st => .ok x st) = r := by cases r <;> rfl
noncomputable abbrev Cx.deep (cx : Cx) : Cx := { cx with d := cx.d + 1 }
theorem WalkI.deep (K : WalkI cx W xs I fp P St) : WalkI cx.deep W xs I fp P St := ⟨K.wk, K.rep, fun b hb => (K.cover b hb).imp id fun ⟨o, e, t⟩ => ⟨o, e, by
 show (W.t b).lent (cx.d + 1) cx.c = true
 generalize W.t b = q at t ⊢
 cases q with
 | own d i => exact dtt (Nat.lt_succ_of_lt (k6 t))
 | _ => exact t⟩, K.typed, K.junk, K.start, K.size⟩
theorem cL {RR : Value -> Addr -> Result -> Shared -> Prop} (RO : RlOk cx Rl pk) (C : cx.Ok cb) (CO : CompOk cx scope x) (IO : InOk U cx cb scope x elt cond ex ifs) (hlen : vv.length = cx.nm.length) (K : WalkI cx.deep W xs I fp P St) (S : Sim cx ⟨vv, p, n⟩ W) (hm : mapR (G4 pk U elt cond vv) xs p = some (out, pout))
  (hR : ∀ D Cc W' tk' ys, W.get Cc = none -> CL Rl cx cb D Cc W W' ⟨vv, pout, n⟩ out ys -> RR (.ref D) Cc (.ok .next) (sh cx.T W' tk')) :
  d9 cx (newList []) (fun acc s₃ => d9 cx (newFunctionEnv scope cx.env.globals (r7 cx.env.cells scope.names []) [] cx.env.qual none .none (some cx.env)) (fun cenv s₄ =>
   codeAny (model cx.T.prog cx.T.w) cx.A (.compStart (.ListComp ex [⟨.Name x px, iter, ifs, 0⟩] scope pos) 0 (.ref I) acc { cenv with scope := relabel scope cx.env }) (RR acc cenv.locals) s₄) E s₃) E (sh cx.T W tk) := by
 refine wpAny_newObj_type (wpAny_newFunctionEnv CO.cell (fun y hy => nomatch hy) (fun h₁ hns₁ hsb₁ => ?_) CO.kind)
 obtain ⟨hst, K0⟩ := K.stand (go := U1) fun A v Q E s _ hq => hq
 obtain ⟨l1, S1, z1⟩ := (hst.sim S).new (b := cx.d + 1) (cb := cb) (o := { cls := .type "list", dict := none, data := .seq ([] : List Value).toArray }) (.own (cx.d + 1) 0) rfl rfl
 generalize hH : (sh cx.T W tk).heap.push { cls := .type "list", dict := none, data := .seq ([] : List Value).toArray } = H2 at hns₁ hsb₁ ⊢
 have gD : H2.get? W.h.objs.size = some { cls := .type "list", dict := none, data := .seq ([] : List Value).toArray } := hH ▸ Heap.get?_push_size W.h rfl
 have hz : H2.objs.size = W.h.objs.size + 1 := by rw [<- hH, Heap.size_push]
 have nD : W.h.objs.size ≠ H2.objs.size := by rw [hz]; exact Nat.ne_of_lt (Nat.lt_succ_self _)
 have gC : H2.get? H2.objs.size = none := B7 H2 (Nat.le_refl _)
 have old : ∀ b o, W.get b = some o -> H2.get? b = some o := fun b o e => hH ▸ Heap.get?_push_of_some _ e
 have kp : ∀ b o, b ≠ H2.objs.size -> H2.get? b = some o -> h₁.get? b = some o := fun b o n e => hsb₁.extBut b o n (Heap.get?_push_of_some _ e)
 let Wa : Ws := ⟨(W.t.put I .hold).put W.h.objs.size (.own (cx.d + 1) 0), H2⟩
 have S1 : Sim cx ⟨vv, p, n⟩ Wa := by have := S1; rw [show W.h.push _ = H2 from hH] at this; exact this
 have l1' : Le (cx.d + 1) (cx.d + 2) cb ⟨W.t.put I .hold, W.h⟩ Wa := by
  have := (But.push ⟨W.t.put I .hold, W.h⟩ { cls := .type "list", dict := none, data := .seq ([] : List Value).toArray } (.own (cx.d + 1) 0)).le (a := cx.d + 1) (b := cx.d + 2) (c := cb) (.dead (B7 W.h (Nat.le_refl _))) (o7 rfl)
  rw [show Heap.push _ _ = H2 from hH] at this; exact this
 have l1 : Le cx.d (cx.d + 1) cb ⟨W.t.put I .hold, W.h⟩ Wa := by have := l1; rw [show W.h.push _ = H2 from hH] at this; exact this
 have B : But H2.objs.size Wa ⟨Wa.t.put H2.objs.size (.loc (cx.d + 2)), h₁⟩ := .same kp _
 have hj : Wa.t H2.objs.size = .junk := S1.ok.dead _ gC
 obtain ⟨oC, esC, epC, gC1, rC⟩ := id hns₁
 have ni : NI ⟨Wa.t.put H2.objs.size (.loc (cx.d + 2)), h₁⟩ H2.objs.size := ⟨fun k e => (by cases (Tags.put_self ..).symm.trans e), fun d o _ e => by cases gC1.symm.trans e; exact fun vs q => by cases rC.1.symm.trans q⟩
 have l2 : Le cx.d (cx.d + 1) cb Wa _ := B.le (.dead gC) ni
 have S2 := S1.but B (by rw [hj]; rfl) (by rw [hj]; rfl) (fun i => by rw [hj]; exact Tag.noConfusion) (fun e => nomatch gC1.symm.trans e) ni
 have L : CL Rl cx cb W.h.objs.size H2.objs.size W ⟨Wa.t.put H2.objs.size (.loc (cx.d + 2)), h₁⟩ ⟨vv, p, n⟩ [] #[] :=
  ⟨S2, (hst.le Le.refl).trans (l1.trans l2), ⟨_, kp _ _ nD gD⟩, (Tags.put_ne nD).trans (Tags.put_self ..), trivial, ⟨_, hns₁⟩, Tags.put_self ..⟩
 have loop : codeAny (model cx.T.prog cx.T.w) cx.A (.compLoop (.ListComp ex [⟨.Name x px, iter, ifs, 0⟩] scope pos) 0 (.ref I) (.ref W.h.objs.size) (compEnvC scope (r7 cx.env.cells scope.names []) H2.objs.size cx.env)) (RR (.ref W.h.objs.size) H2.objs.size) (sh cx.T ⟨Wa.t.put H2.objs.size (.loc (cx.d + 2)), h₁⟩ tk) :=
  x0F RO C CO IO hlen (K0.later ((l1'.trans (B.le (.dead gC) ni)).mono (Nat.le_refl _) (Nat.le_succ _) C.cb)) L K.size hm fun W' tk' ys L' => hR _ _ W' tk' ys (B7 W.h (by rw [hz]; exact Nat.le_succ _)) L'
 have K1 := K.wk cx.A rfl
 exact codeAny_compStart_list loop (K1.self 0 _ _ _ (K1.frame _ _ _ K.start fun b _ o e => kp b o (fun q => by rw [q] at e; cases (old _ o e).symm.trans gC) (old b o e)) loop)
theorem vJ {δ γ : Type} {Rl : Ws -> γ -> δ -> Prop} {xs : List PyData} {Q : γ -> Shared -> Prop} {bb : Nat} {step : PyData -> List Slots -> R (List PyData)} {f : List F -> Mine.Internal.St -> R δ} (H : Post cx bb cb Rl W Q E ((E1 n step xs st).bind f)) : ∃ out pout, mapR step xs st.p = some (out, pout) /\ st.v.length = n /\ Post cx bb cb Rl W Q E (f [.own out] { st with p := pout }) := by
 unfold E1 at H
 cases hm : mapR step xs st.p with
 | none => rw [hm] at H; exact H.elim
 | some q =>
  rw [hm] at H
  cases hz : okLen xs.length && st.v.length == n with
  | false => dsimp only at H; rw [hz] at H; exact H.elim
  | true => dsimp only at H; rw [hz] at H; exact ⟨q.1, q.2, rfl, eq_of_beq (and2 hz).2, H⟩
theorem CL.finG {out : List δ} {ys : Array Value} {t' td : Tag} {h' : Heap} (RO : RlOk cx Rl pk) (L : CL Rl cx cb D Cc W W' st out ys) (hcb : cb = true -> cx.c = true) (kp : ∀ b o, b ≠ Cc -> W'.get b = some o -> h'.get? b = some o) (ht : t'.jh = true) (ha : h'.get? Cc = none -> t' = .junk) (hd : td.isInst = false) :
  Le cx.d (cx.d + 1) cb W ⟨(W'.t.put Cc t').put D td, h'⟩ /\ Sim cx st ⟨(W'.t.put Cc t').put D td, h'⟩ /\ h'.PlainList D ys /\ RelAll (Rl ⟨(W'.t.put Cc t').put D td, h'⟩) ys.toList out /\ D ≠ Cc := by
 have nD : D ≠ Cc := mW L.dt L.ct
 have hi : t'.isInst = false := by cases t' <;> first | rfl | cases ht
 have B : But Cc W' ⟨W'.t.put Cc t', h'⟩ := .same kp _
 have fr : ∀ a b, b <= cx.d + 2 -> Fr a b cb W' Cc := fun a b hb => .of (by rw [L.ct]; exact dtt hb)
 have l1 := B.le (fr cx.d (cx.d + 1) (Nat.le_succ _)) (o7 hi)
 have S1 : Sim cx st ⟨W'.t.put Cc t', h'⟩ := ⟨L.sim.ok.but B (by rw [L.ct]; rfl) (fun e => (Tags.put_self ..).trans (ha e)) (o7 hi), L.sim.fr.le (B.le (fr (cx.d + 1) (cx.d + 1) (Nat.le_succ _)) (o7 hi)) (Nat.lt_succ_self _) (Nat.lt_succ_self _) hcb⟩
 obtain ⟨nn, g⟩ := L.lst
 have g1 := kp D _ nD g
 have q : (W'.t.put Cc t') D = .own (cx.d + 1) 0 := (Tags.put_ne nD).trans L.dt
 have B2 := But.tag ⟨W'.t.put Cc t', h'⟩ D td
 have z1 := B.fz fun e => by rw [L.ct] at e; cases e
 have z2 := B2.fz fun e => by rw [show Ws.t _ D = _ from q] at e; cases e
 have i1 := B.ik fun k e => by rw [L.ct] at e; cases e
 have i2 := B2.ik fun k e => by rw [show Ws.t _ D = _ from q] at e; cases e
 refine ⟨L.le.trans (l1.trans (B2.le (.of (by rw [show Ws.t _ D = _ from q]; exact dtt (Nat.le_succ _))) (o7 hd))), S1.but B2 (by rw [show Ws.t _ D = _ from q]; exact dtt (Nat.le_succ _)) (by rw [show Ws.t _ D = _ from q]; rfl) (fun i e => ?_) (fun e => nomatch g1.symm.trans e) (o7 hd), ⟨nn, g1⟩, L.rep.imp fun _ _ r => RO.mono _ _ _ _ z2 i2 (RO.mono _ _ _ _ z1 i1 r), nD⟩
 exact nomatch (Tag.own.inj (q.symm.trans e)).2
theorem CL.fin {out : List PyData} {ys : Array Value} {t' : Tag} {h' : Heap} (L : CL Rep cx cb D Cc W W' st out ys) (hcb : cb = true -> cx.c = true) (kp : ∀ b o, b ≠ Cc -> W'.get b = some o -> h'.get? b = some o) (ht : t'.jh = true) (ha : h'.get? Cc = none -> t' = .junk) :
  Le cx.d (cx.d + 1) cb W ⟨(W'.t.put Cc t').put D (.own cx.d 0), h'⟩ /\ Sim cx st ⟨(W'.t.put Cc t').put D (.own cx.d 0), h'⟩ /\ RepA cx ⟨(W'.t.put Cc t').put D (.own cx.d 0), h'⟩ (.ref D) (.own out) /\ D ≠ Cc :=
 let ⟨h1, h2, h3, h4, h5⟩ := L.finG (td := .own cx.d 0) fP hcb kp ht ha rfl
 ⟨h1, h2, ⟨D, ys, rfl, h3, Tags.put_self .., qC h4⟩, h5⟩
theorem wX {a b c : Bool} {P : Prop} (h : (a || b || c) = true) (h1 : a = true -> P) (h2 : b = true -> P) (h3 : c = true -> P) : P := by
 cases a with
 | true => exact h1 rfl
 | false => cases b with
  | true => exact h2 rfl
  | false => exact h3 h
theorem bI (Fu : cx.Full) (CO : CompOk cx scope x) : closureFor scope cx.env = pure (r7 cx.env.cells scope.names []) := x4b fun y hy hf => Fu.has y.1 (CO.free y hy hf)
theorem uM (C : cx.Ok cb) (Fu : cx.Full) (CO : CompOk cx scope x) (IO : InOk U cx cb scope x elt cond ex ifs) (hnl : nn = cx.nm.length) (hi : SI U cx cb kd src iter) (hs : ∀ v, foldedSetIterable iter cx.env v = pure v) (hfs : g8 src = true -> cb = true) :
  SL U cx cb (.comp nn kd src elt cond) [.ListComp ex [⟨.Name x px, iter, ifs, 0⟩] scope pos] := fun hf st W S tk T E H => by
 show wpAny _ _ _ _ _ _
 rw [eval_ListComp]
 refine wpAny_comprehension_free (use := none) rfl hs (bI Fu CO) CO.kind CO.loc (hi hfs st W S tk _ E (Post.bind' H fun xs st1 W1 tk1 v l1 S1 r1 H1 => ?_))
 obtain ⟨I, fp, P, St, rfl, K⟩ := r1
 rw [<- R.bind_pure (E1 nn _ xs st1)] at H1
 obtain ⟨out, pout, hm, hlen, H1⟩ := vJ (step := stepC U elt cond st1.v) H1
 obtain ⟨vv, p, n⟩ := st1
 refine cL (RR := fun acc Cc => compPost (model cx.T.prog cx.T.w) cx.A E none (fun v s => T [v] s) acc Cc) fP C CO IO (hlen.trans hnl) K.deep S1 hm fun D Cc W' tk' ys hC L => ?_
 obtain ⟨m, hn⟩ := L.ns
 refine ⟨m, hn, fun h' hs' => ?_⟩
 obtain ⟨l2, S2, r2, _⟩ := L.fin (t' := .junk) C.cb (fun b o n e => (hs'.2 b n).trans e) rfl fun _ => rfl
 exact z6 (W' := ⟨(W'.t.put Cc .junk).put D (.own cx.d 0), h'⟩) H1 l2 S2 r2
theorem x0U {nm : Str} (C : cx.Ok cx.c) (Fu : cx.Full) (h : isLoc cx.nm cx.env.scope.names i nm = true) (CO : CompOk cx scope x) (IO : InOk U cx cx.c scope x elt cond ex ifs) (hnl : nn = cx.nm.length) (hi : SI U cx cx.c kd src iter) (hs : ∀ v, foldedSetIterable iter cx.env v = pure v) (hfs : g8 src = true -> cx.c = true) :
  SS U cx (.assign (.loc i) (.comp nn kd src elt cond)) (.Assign [.Name nm pos'] (.ListComp ex [⟨.Name x px, iter, ifs, 0⟩] scope apos) pos) := by
 obtain ⟨b, hb⟩ : ∃ b, swapsWith (.ListComp ex [⟨.Name x px, iter, ifs, 0⟩] scope apos) (some (.Name nm pos')) pos.line cx.env = pure b := ⟨_, rfl⟩
 cases b with
 | false => exact rR C Fu h hb (fun q => wX q hfs IO.fe IO.fc) (uM C Fu CO IO hnl hi hs hfs)
 | true =>
  intro st W S tk Q E H
  rw [exec_Assign_Name_used _ _ _ _ hb]
  refine wpAny_bind (wpAny_standAt (wpAny_bind ?_))
  show wpAny _ cx.A (do let _ <- comprehension (.ListComp ex [⟨.Name x px, iter, ifs, 0⟩] scope apos) scope cx.env _ (newList []) false (eval iter cx.env) (some (assign (.Name nm pos') cx.env))) _ _ (sh cx.T W tk)
  refine wpAny_bind (wpAny_mono (wpAny_comprehension_free (use := some (assign (.Name nm pos') cx.env)) (Q := fun _ s' => Q .next s') rfl hs (bI Fu CO) CO.kind CO.loc (hi hfs st W S tk _ E ?_)) (fun _ s' hq => wpAny_pure (wpAny_pure hq)) fun _ _ e => e)
  have H' : Post cx cx.d cx.c (p9 cx) W Q E (((ev U src st).bind (itE kd)).bind fun xs st => (E1 nn (stepC U elt cond st.v) xs st).bind fun x st => R3 (.loc i) x st) := by
   rw [<- R.bind_assoc]; exact H
  refine H'.bind (Nat.le_succ _) id fun xs st1 W1 tk1 v l1 S1 r1 H1 => ?_
  obtain ⟨I, fp, P, St, rfl, K⟩ := r1
  obtain ⟨out, pout, hm, hlen, H1⟩ := vJ H1
  obtain ⟨vv, p, n⟩ := st1
  refine cL (RR := fun acc Cc => compPost (model cx.T.prog cx.T.w) cx.A E (some (assign (.Name nm pos') cx.env)) (fun _ s' => Q .next s') acc Cc) fP C CO IO (hlen.trans hnl) K.deep S1 hm fun D Cc W' tk' ys hC L => ?_
  obtain ⟨m, hn⟩ := L.ns
  obtain ⟨oC, e1, e2, gC, rC⟩ := id hn
  obtain ⟨l2, S2, r2, nD⟩ := L.fin (t' := .hold) (h' := W'.h) C.cb (fun b o _ e => e) rfl fun e => nomatch gC.symm.trans e
  obtain ⟨st2, hs2, H2⟩ := D9 H1
  obtain ⟨hlt, rfl⟩ := i5 hs2
  show wpAny _ cx.A (assign (.Name nm pos') cx.env (.ref D)) _ _ _
  have tC : (Ws.mk ((W'.t.put Cc .hold).put D (.own cx.d 0)) W'.h).t Cc = .hold := (Tags.put_ne nD.symm).trans (Tags.put_self ..)
  refine wpAny_assign_Name (S2.store (cb := cx.c) (f := .own out) (W := ⟨(W'.t.put Cc .hold).put D (.own cx.d 0), W'.h⟩) Fu C.kind r2 rfl (E7 h).1 (k6 hlt) fun W3 tk3 l3 S3 => ?_)
  obtain ⟨g3, t3⟩ := l3.fix (x := Cc) gC (by rw [tC]; rfl) (by rw [tC]; rfl)
  refine ⟨m, ⟨oC, e1, e2, g3, rC⟩, fun h' hs' => ?_⟩
  have B : But Cc W3 ⟨W3.t.put Cc .junk, h'⟩ := .same (fun b o n e => (hs'.2 b n).trans e) _
  have t3 := t3.trans tC
  exact y6 (W' := ⟨W3.t.put Cc .junk, h'⟩) H2 (((l2.mono (Nat.le_refl _) (Nat.le_succ _) id).trans l3).but B (.dead hC) (o7 rfl)) (S3.but B (by rw [t3]; rfl) (by rw [t3]; rfl) (fun i => by rw [t3]; exact Tag.noConfusion) (fun _ => Tags.put_self ..) (o7 rfl))
end
section
variable {U : Nat -> Fn} {cx : Cx} {st : St} {W : Ws} {tk n nn i : Nat} {pos pos' apos px : Pos} {ex iter : Expr} {ifs : List Expr} {elt : CE} {xs : List PyData} {x : Str} {scope : Scope}
theorem x4E {Q : FP} {E : VP} (H : Post cx cx.d cx.c (p9 cx) W Q E (pagesE U i nn elt xs st)) : ∃ out pout, mapR (G4 onePg U elt .nil st.v) xs st.p = some (out, pout) /\ st.v.length = nn /\ i < st.v.length /\ okLen xs.length = true /\ Post cx cx.d cx.c (p9 cx) W Q E (.ok .next { st with p := pout, v := st.v.set i (some (.pgs out)) }) := by
 unfold pagesE at H
 cases hm : mapR (G4 onePg U elt .nil st.v) xs st.p with
 | none => rw [show mapR (fun d p => (ev U elt ⟨inV st.v d, p, 0⟩).bind (C2 onePg)) xs st.p = none from hm] at H; exact H.elim
 | some q =>
  rw [show mapR (fun d p => (ev U elt ⟨inV st.v d, p, 0⟩).bind (C2 onePg)) xs st.p = some q from hm] at H
  cases hz : okLen xs.length && st.v.length == nn with
  | false => dsimp only at H; rw [hz] at H; exact H.elim
  | true =>
   dsimp only at H
   rw [hz] at H
   obtain ⟨st2, hs, H⟩ := D9 H
   obtain ⟨hi, rfl⟩ := i5 hs
   exact ⟨q.1, q.2, rfl, eq_of_beq (and2 hz).2, k6 hi, (and2 hz).1, H⟩
theorem x0W {o : Obj} {cb : Bool} {Q : VP} (S : Sim cx st W) (hf : o.isFreed = false) (k : ∀ W', Le cx.d (cx.d + 1) cb W W' -> Sim cx st W' -> Fz W W' -> W' = ⟨W.t.put W.h.objs.size .junk, W.h.push o⟩ -> Q (.ref W.h.objs.size) (sh cx.T W' tk)) : Q (.ref W.h.objs.size) { (sh cx.T W tk) with heap := W.h.push o } := by
 obtain ⟨l, S', z⟩ := S.new (b := cx.d + 1) (cb := cb) (o := o) .junk hf rfl
 exact k ⟨W.t.put W.h.objs.size .junk, W.h.push o⟩ l S' z rfl
theorem vU {j : Nat} {e : Expr} {cb : Bool} {Q : VP} {E : VP} (hn : cx.A.handled = none) (C : cx.Ok cb) (S : Sim cx st W) (h : j8 cx.nm cx.env.scope.names (.loc j) e = true) (hs : slot st.v j = some (.own xs)) (hz : okLen xs.length = true)
  (k : ∀ W' tk' I fp P St, Le cx.d (cx.d + 1) cb W W' -> Sim cx st W' -> WalkI cx.deep W' xs I fp P St -> Q (.ref I) (sh cx.T W' tk')) : d9 cx (eval e cx.env) (fun x s₁ => d9 cx (pyIter x) Q E s₁) E (sh cx.T W tk) :=
 B3 (p := .loc j) C (fun q => nomatch q) S h hs fun v t tk' P => by
  obtain ⟨a, vs, rfl, hl, ht, hr⟩ := P.own
  cases P.2.1
  have hl' := Heap.PlainList.isList hl
  obtain ⟨o, ho, hc, m, hd⟩ := id hl'
  have hne : a ≠ W.h.objs.size := Nat.ne_of_lt (Heap.lt_size ho)
  refine wpAny_pyIter_list (s := sh cx.T W tk') hl' (x0W (cb := cb) S rfl fun W' l S' z eW => ?_)
  subst eW
  refine k _ tk' _ _ _ _ l S' ⟨fun A hA => by rw [<- hr.size]; exact Walks.list (hA.trans hn) _ a hne vs, fun i v hv => (hr.mono z).get' (by rw [Array.getElem?_toList]; exact hv), fun b hb => ?_, ?_, Tags.put_self .., ?_, o9 hz⟩
  . rcases List.mem_cons.mp hb with rfl | hb
    . exact .inl rfl
    . cases lsm hb
      refine .inr ⟨o, Heap.get?_push_of_some _ ho, ?_⟩
      show Tag.lent (cx.d + 1) cx.c ((W.t.put W.h.objs.size .junk) a) = true
      rw [show (Tags.put W.t W.h.objs.size .junk) a = W.t a from Tags.put_ne hne, ht]
      exact dtt (Nat.lt_succ_self _)
  . rintro i h ⟨⟨o, ho, hc, hd⟩, _⟩; exact ⟨o, _, ho, hc, by decide⟩
  . exact ⟨⟨_, Heap.get?_push_size _ rfl, rfl, rfl⟩, hl'.at fun o e => Heap.get?_push_of_some _ e⟩
theorem wD {j : Nat} {Q : FP} {E : VP} (H : Post cx cx.d cx.c (p9 cx) W Q E (Mine.Internal.ex U (.pages i nn j elt) st)) : ∃ xs out pout, slot st.v j = some (.own xs) /\ okLen xs.length = true /\ mapR (G4 onePg U elt .nil st.v) xs st.p = some (out, pout) /\ st.v.length = nn /\ i < st.v.length /\ Post cx cx.d cx.c (p9 cx) W Q E (.ok .next { st with p := pout, v := st.v.set i (some (.pgs out)) }) := by
 replace H : Post cx cx.d cx.c (p9 cx) W Q E (match ownAt st (.loc j) with | some xs => pagesE U i nn elt xs st | none => .stuck) := H
 cases hs : ownAt st (.loc j) with
 | none => rw [hs] at H; exact H.elim
 | some xs =>
  rw [hs] at H
  obtain ⟨f, h1, h2⟩ := c0 hs
  cases f with
  | own ys =>
   cases h2
   obtain ⟨out, pout, hm, hlen, hlt, hz, H⟩ := x4E H
   exact ⟨xs, out, pout, h1, hz, hm, hlen, hlt, H⟩
  | _ => exact nos h2
theorem x6E {j : Nat} {nm : Str} (hn0 : cx.A.handled = none) (C : cx.Ok cx.c) (Fu : cx.Full) (h : isLoc cx.nm cx.env.scope.names i nm = true) (CO : CompOk cx scope x) (IO : InOk U cx cx.c scope x elt .nil ex ifs) (hnl : nn = cx.nm.length) (hi : j8 cx.nm cx.env.scope.names (.loc j) iter = true) (hs : ∀ v, foldedSetIterable iter cx.env v = pure v) :
  SS U cx (.pages i nn j elt) (.Assign [.Name nm pos'] (.ListComp ex [⟨.Name x px, iter, ifs, 0⟩] scope apos) pos) := fun st W S tk Q E H => by
 obtain ⟨xs, out, pout, hsl, hz, hm, hlen, hlt, H⟩ := wD H
 obtain ⟨b, hb⟩ : ∃ b, swapsWith (.ListComp ex [⟨.Name x px, iter, ifs, 0⟩] scope apos) (some (.Name nm pos')) pos.line cx.env = pure b := ⟨_, rfl⟩
 cases b with
 | false =>
  refine wpAny_Assign_Name ?_ hb
  rw [eval_ListComp]
  refine wpAny_comprehension_free (use := none) rfl hs (bI Fu CO) CO.kind CO.loc (vU (cb := cx.c) hn0 C S hi hsl hz fun W1 tk1 I fp P Sx l1 S1 K => ?_)
  have H1 := H.to (l1.mono (Nat.le_refl _) (Nat.le_succ _) id)
  obtain ⟨vv, p, n⟩ := st
  refine cL (RR := fun acc Cc => compPost (model cx.T.prog cx.T.w) cx.A E none (fun v s => d9 cx (storeName cx.env nm v) (fun _ s => Q .next s) E s) acc Cc) aD C CO IO (hlen.trans hnl) K S1 hm fun D Cc W' tk' ys hC L => ?_
  obtain ⟨m, hn⟩ := L.ns
  refine ⟨m, hn, fun h' hs' => ?_⟩
  obtain ⟨l2, S2, p2, r2, _⟩ := L.finG (t' := .junk) (td := .own cx.d (i + 1)) aD C.cb (fun b o n e => (hs'.2 b n).trans e) rfl (fun _ => rfl) rfl
  refine Sim.storeG (cb := cx.c) (W := ⟨(W'.t.put Cc .junk).put D (.own cx.d (i + 1)), h'⟩) (fo := some (.pgs out)) Fu C.kind S2 (fun f e => by cases e; exact ⟨D, ys, rfl, p2, Tags.put_self .., r2⟩) (E7 h).1 hlt fun W3 tk3 y hy By l3 S3 hv _ => ?_
  exact y6 H1 ((l2.mono (Nat.le_refl _) (Nat.le_succ _) id).trans l3) S3
 | true =>
  rw [exec_Assign_Name_used _ _ _ _ hb]
  refine wpAny_bind (wpAny_standAt (wpAny_bind ?_))
  show wpAny _ cx.A (do let _ <- comprehension (.ListComp ex [⟨.Name x px, iter, ifs, 0⟩] scope apos) scope cx.env _ (newList []) false (eval iter cx.env) (some (assign (.Name nm pos') cx.env))) _ _ (sh cx.T W tk)
  refine wpAny_bind (wpAny_mono (wpAny_comprehension_free (use := some (assign (.Name nm pos') cx.env)) (Q := fun _ s' => Q .next s') rfl hs (bI Fu CO) CO.kind CO.loc (vU (cb := cx.c) hn0 C S hi hsl hz fun W1 tk1 I fp P Sx l1 S1 K => ?_)) (fun _ s' hq => wpAny_pure (wpAny_pure hq)) fun _ _ e => e)
  have H1 := H.to (l1.mono (Nat.le_refl _) (Nat.le_succ _) id)
  obtain ⟨vv, p, n⟩ := st
  refine cL (RR := fun acc Cc => compPost (model cx.T.prog cx.T.w) cx.A E (some (assign (.Name nm pos') cx.env)) (fun _ s' => Q .next s') acc Cc) aD C CO IO (hlen.trans hnl) K S1 hm fun D Cc W' tk' ys hC L => ?_
  obtain ⟨m, hn⟩ := L.ns
  obtain ⟨oC, e1, e2, gC, rC⟩ := id hn
  obtain ⟨l2, S2, p2, r2, nD⟩ := L.finG (t' := .hold) (td := .own cx.d (i + 1)) (h' := W'.h) aD C.cb (fun b o _ e => e) rfl (fun e => nomatch gC.symm.trans e) rfl
  have tC : (Ws.mk ((W'.t.put Cc .hold).put D (.own cx.d (i + 1))) W'.h).t Cc = .hold := (Tags.put_ne nD.symm).trans (Tags.put_self ..)
  refine wpAny_assign_Name (Sim.storeG (cb := cx.c) (W := ⟨(W'.t.put Cc .hold).put D (.own cx.d (i + 1)), W'.h⟩) (fo := some (.pgs out)) Fu C.kind S2 (fun f e => by cases e; exact ⟨D, ys, rfl, p2, Tags.put_self .., r2⟩) (E7 h).1 hlt fun W3 tk3 y hy By l3 S3 hv _ => ?_)
  obtain ⟨g3, t3⟩ := l3.fix (x := Cc) gC (by rw [tC]; rfl) (by rw [tC]; rfl)
  refine ⟨m, ⟨oC, e1, e2, g3, rC⟩, fun h' hs' => ?_⟩
  have B : But Cc W3 ⟨W3.t.put Cc .junk, h'⟩ := .same (fun b o n e => (hs'.2 b n).trans e) _
  have t3 := t3.trans tC
  exact y6 (W' := ⟨W3.t.put Cc .junk, h'⟩) H1 (((l2.mono (Nat.le_refl _) (Nat.le_succ _) id).trans l3).but B (.dead hC) (o7 rfl)) (S3.but B (by rw [t3]; rfl) (by rw [t3]; rfl) (fun i => by rw [t3]; exact Tag.noConfusion) (fun _ => Tags.put_self ..) (o7 rfl))
end
structure Slt (W W' : Ws) : Prop where
 tg : W'.t = W.t
 kp : ∀ b o, W.get b = some o -> W.t b ≠ .junk -> ∃ sl, W'.get b = some { o with slots := sl } /\ ((W.t b).isLoc = false -> sl = o.slots)
section
variable {T : Tp} {W W' : Ws} {a b k : Nat} {c : Bool} {cx : Cx} {st : St} {p : List Slots} {vs : Slots} {e : Addr} {Q : UP} {E : VP} {tk : Nat}
theorem Slt.at (s : Slt W W') {x : Addr} {o : Obj} (h : W.t x ≠ .junk) (hl : (W.t x).isLoc = false) (g : W.get x = some o) : W'.get x = some o /\ W'.t x = W.t x := by
 obtain ⟨sl, e, f⟩ := s.kp x o g h
 rw [f hl] at e
 exact ⟨e, congrFun s.tg x⟩
theorem Slt.at' (s : Slt W W') {x : Addr} {o : Obj} {t : Tag} (ht : W.t x = t) (h : t ≠ .junk) (hl : t.isLoc = false) (g : W.get x = some o) : W'.get x = some o /\ W'.t x = t := by
 have := s.at (by rw [ht]; exact h) (by rw [ht]; exact hl) g
 exact ⟨this.1, this.2.trans ht⟩
theorem Slt.fz (s : Slt W W') : Fz W W' := fun x o h => by
 obtain ⟨t, e⟩ := q9 h
 have := s.at' t Tag.noConfusion rfl e
 exact w5 this.2 this.1
theorem Slt.le (s : Slt W W') : Le a b c W W' := ⟨fun x o g k => by
 have h : W.t x ≠ .junk := fun q => by rw [q] at k; cases k
 exact ⟨congrFun s.tg x, s.kp x o g h⟩, fun _ x k h => by rw [s.tg] at h; exact h⟩
theorem Slt.ok (s : Slt W W') (K : Wok T c p W) : Wok T c p W' := by
 refine ⟨fun b e => ?_, fun b o e => ?_, fun k fl e => ?_, fun x y k h h' => K.uq x y k (by rw [s.tg] at h; exact h) (by rw [s.tg] at h'; exact h'), fun hc x k h => K.cnt hc x k (by rw [s.tg] at h; exact h), fun b o d t e => ?_⟩
 . rw [s.tg]
   cases g : W.get b with
   | none => exact K.dead b g
   | some o =>
    cases q : W.t b with
    | junk => rfl
    | _ => obtain ⟨sl, e', _⟩ := s.kp b o g (by rw [q]; exact Tag.noConfusion); cases e'.symm.trans e
 . obtain ⟨e1, t1⟩ := K.top b o e
   exact s.at' t1 Tag.noConfusion rfl e1
 . obtain ⟨q, P⟩ := K.pgs k fl e
   exact ⟨q, P.keep s.fz fun a o h g => s.at (fun q => by rw [q] at h; cases h) (by generalize W.t a = t at h; cases t <;> first | rfl | cases h) g⟩
 . rw [s.tg] at t
   cases g : W.get b with
   | none => cases (K.dead b g).symm.trans t
   | some o' =>
    obtain ⟨sl, e', _⟩ := s.kp b o' g (by rw [t]; exact Tag.noConfusion)
    cases e'.symm.trans e
    exact K.lf b o' d t g
theorem Slt.fr (s : Slt W W') (F : Frm cx vs W) : Frm cx vs W' := by
 have hl : ∀ x o d, W.t x = .loc d -> W.get x = some o -> ∃ sl, W'.get x = some { o with slots := sl } := fun x o d t g => let ⟨sl, e, _⟩ := s.kp x o g (by rw [t]; exact Tag.noConfusion); ⟨sl, e⟩
 have hns : ∀ m, W.h.Ns cx.env.locals m -> W'.h.Ns cx.env.locals m := fun m ⟨o, es, ep, g, r⟩ => let ⟨sl, e⟩ := hl _ o _ F.nst g; ⟨_, es, ep, e, r⟩
 have hce : ∀ y e v, (y, e) ∈ cx.env.cells -> W.h.IsCell e v -> W'.h.IsCell e v := fun y e v hy ⟨o, g, r⟩ => let ⟨_, d', t, _⟩ := F.cells y e hy; let ⟨sl, e'⟩ := hl _ o _ t g; ⟨_, e', r⟩
 obtain ⟨m, hm⟩ := F.ns
 refine ⟨⟨m, hns m hm⟩, by rw [s.tg]; exact F.nst, fun y e hy => ?_, fun i f y h1 h2 h3 => ?_, let ⟨l', h1, h2⟩ := F.frs; ⟨l', h1, h2.keep (Nat.le_refl _) fun L d' o hd t g => ⟨by rw [s.tg]; exact t, let ⟨sl, e⟩ := hl L o _ t g; ⟨_, e⟩⟩⟩, fun q => (F.hnd q).mono s.fz⟩
 . obtain ⟨⟨v, g⟩, d', q, q'⟩ := F.cells y e hy
   exact ⟨⟨v, hce y e v hy g⟩, d', by rw [s.tg]; exact q, q'⟩
 . obtain ⟨u, hu, r⟩ := F.vals i f y h1 h2 h3
   refine ⟨u, hu.keep hns hce, r.keep s.fz (fun _ a o q g => s.at' q Tag.noConfusion rfl g) (fun a o q g => s.at (fun e => by rw [e] at q; cases q) ?_ g) fun a o k q g => s.at' q Tag.noConfusion rfl g⟩
   generalize W.t a = t at q; cases t <;> first | rfl | cases q
theorem Slt.sim (s : Slt W W') (S : Sim cx st W) : Sim cx st W' := ⟨s.ok S.ok, s.fr S.fr⟩
theorem fT {B h' : Heap} (lf : ∀ b o d, W.t b = .loc d -> W.get b = some o -> Nf o) (hB : ∀ b o, W.get b = some o -> (W.t b).isLoc = false -> W.t b ≠ .junk -> B.get? b = some o) (hs : B.StaysIn h') (hu : W.h.UpToSlots h') : Slt W ⟨W.t, h'⟩ := by
 refine ⟨rfl, fun b o g n => ?_⟩
 cases hl : (W.t b).isLoc with
 | false => exact ⟨o.slots, hs b o (hB b o g hl n), fun _ => rfl⟩
 | true =>
  obtain ⟨d, t⟩ : ∃ d, W.t b = .loc d := by
   generalize W.t b = t at hl
   cases t with
   | loc d => exact ⟨d, rfl⟩
   | _ => cases hl
  obtain ⟨sl, e⟩ := hu b o g (lf b o d t g)
  exact ⟨sl, e, fun q => nomatch q⟩
section
variable {M : Model} {A : Around} {s : Shared} {B : Heap} {env : Env} {l : List Env} {L : Addr} {cls head : Value} {oe : Obj} {vs : Array Value} {hadNext : Bool}
theorem qK (hA : A.frames = some (env :: l)) (hf : env.frame = some L) (st : B.StaysIn s.heap) (no : B.get? e = none) (fr : s.heap.FunFrames B (env :: l)) (he : s.heap.get? e = some oe) (hd : oe.data = .fields vs) (h2 : vs[2]? = some .none)
  (hQ : ∀ h', Air B (env :: l) e oe.cls h' -> s.heap.UpToSlots h' -> Q () { s with heap := h' }) :
  wpAny M A (do let a <- frameOf env; let pl <- entryPlaceOf L hadNext; let b <- EntryCells.newEntry head a .none (rawInt L) .none pl; setField (.ref e) 1 b) (fun _ s' => wpAny M A (setFlight (.ref e) none) Q E s') E s := by
 have nfr : e ∉ (env :: l).filterMap (·.frame) := fun hm => let ⟨_, o, ho, hnf⟩ := fr.mem hm; hnf vs (by cases he.symm.trans ho; exact hd)
 have sz : 2 < vs.size := (Array.getElem?_eq_some_iff.mp h2).1
 have sz1 : 1 < vs.size := Nat.lt_of_succ_lt sz
 refine wpAny_bind (wpAny_frameOf_fun hA fr hf fun h₁ q => wpAny_bind (wpAny_entryPlaceOf fun pl hpl => ?_))
 unfold EntryCells.newEntry newFields
 refine wpAny_bind (wpAny_newObj_type ?_ (hpl.sizeOk5 _ _ _ _ _))
 generalize hw : ([head, .ref L, .none, rawInt L, .none] ++ (if pl.isEmpty then List.replicate 6 Value.none else pl)).toArray = ws
 have wsz : 3 < ws.size := by rw [<- hw]; simp only [List.size_toArray, lap, List.length_cons, List.length_nil]; lia
 have e1 : h₁.get? e = some oe := (q.2.1 e nfr).trans he
 have st1 : B.StaysIn h₁ := fun b o hb => (q.2.1 b fun hm => by cases (fr.mem hm).1.symm.trans hb).trans (st b o hb)
 have nT : h₁.objs.size ≠ e := Nat.ne_of_gt (Heap.lt_size e1)
 have e2 := Heap.get?_push_of_some { cls := .type "traceback", dict := none, data := .fields ws } e1
 have d3 := Obj.data_mapFields hd (·.setIfInBounds 1 (Value.ref h₁.objs.size))
 have e3 := Heap.get?_update_self (Obj.mapFields (·.setIfInBounds 1 (Value.ref h₁.objs.size))) e2 (Obj.isFreed_of_fields d3)
 have T3 := (Heap.get?_update_other (h₁.push { cls := .type "traceback", dict := none, data := .fields ws }) (Obj.mapFields (·.setIfInBounds 1 (Value.ref h₁.objs.size))) nT.symm).trans (Heap.get?_push_size h₁ rfl)
 refine wpAny_setField e2 hd sz1 ?_
 unfold setFlight
 refine wpAny_bind (wpAny_field e3 d3 (x := .ref h₁.objs.size) (by simp [sz1]) ?_)
 rw [if_pos (show (Value.ref h₁.objs.size != Value.none) = true from rfl)]
 refine wpAny_setField T3 rfl wsz (hQ _ ?_ ?_)
 case' refine_1 => skip
 all_goals
  have keep : ∀ b o, b ≠ e -> h₁.get? b = some o -> ((((h₁.push { cls := .type "traceback", dict := none, data := .fields ws }).update e (Obj.mapFields (·.setIfInBounds 1 (Value.ref h₁.objs.size)))).update h₁.objs.size
    (Obj.mapFields (·.setIfInBounds 3 ((none : Option Addr).elim Value.none fun f => rawInt f)))).get? b) = some o := fun b o ne g => by
   rw [Heap.get?_update_other _ _ (Nat.ne_of_gt (Heap.lt_size g)), Heap.get?_update_other _ _ ne.symm]
   exact Heap.get?_push_of_some _ g
  have nr : ∀ b o, s.heap.get? b = some o -> (∀ vs, o.data ≠ .fields vs) -> b ≠ e := fun b o g nf q => nf vs (by subst q; cases he.symm.trans g; exact hd)
  have up : s.heap.UpToSlots _ := fun b o g nf => let ⟨sl, g1⟩ := q.2.2 b o g; ⟨sl, keep b _ (nr b o g nf) g1⟩
 . exact ⟨fun b o hb => keep b o (fun q => by subst q; cases no.symm.trans hb) (st1 b o hb), no, fr.of_keeps fun b o g nf => let ⟨sl, g1⟩ := up b o g nf; ⟨_, g1, rfl⟩, _, _, (Heap.get?_update_other _ _ nT).trans e3, Obj.cls_mapFields _ _, d3, by rw [Array.getElem?_setIfInBounds_ne (by decide)]; exact h2,
    .inr ⟨h₁.objs.size, _, _, by simp [sz1], st1.fresh, nT, Heap.get?_update_self _ T3 (Obj.isFreed_of_fields (Obj.data_mapFields rfl _)), Obj.data_mapFields rfl _, by simp [wsz]⟩⟩
 . exact up
theorem sX (hA : A.frames = some (env :: l)) (hf : env.frame = some L) (F : Air B (env :: l) e cls s.heap) (hQ : ∀ h', Air B (env :: l) e cls h' -> s.heap.UpToSlots h' -> Q () { s with heap := h' }) :
  wpAny M A (noteFrame (.ref e) env) (fun _ s' => wpAny M A (setFlight (.ref e) none) Q E s') E s := by
 obtain ⟨st, no, fr, oe, vs, he, rfl, hd, h2, h1⟩ := F
 unfold noteFrame
 simp only [hf]
 rcases h1 with h1 | ⟨T, oT, ts, h1, hB, hTe, hT, hdT, h3⟩
 . refine wpAny_bind (wpAny_field he hd h1 ?_)
   rw [if_neg (by decide)]
   exact qK hA hf st no fr he hd h2 hQ
 . refine wpAny_bind (wpAny_field he hd h1 ?_)
   rw [if_pos (show (Value.ref T != Value.none) = true from rfl)]
   refine wpAny_bind (wpAny_field hT hdT h3 ?_)
   rw [if_neg (show ¬ ((Value.none == rawInt L) = true) from nofun)]
   refine wpAny_bind (wpAny_setField hT hdT (Array.getElem?_eq_some_iff.mp h3).1 ?_)
   have oth : ∀ b o, b ≠ T -> s.heap.get? b = some o -> (s.heap.update T (Obj.mapFields (·.setIfInBounds 3 Value.none))).get? b = some o := fun b o hb g => (Heap.get?_update_other _ _ hb.symm).trans g
   have nr : ∀ b o, s.heap.get? b = some o -> (∀ vs, o.data ≠ .fields vs) -> b ≠ T := fun b o g nf q => nf ts (by subst q; cases hT.symm.trans g; exact hdT)
   exact qK hA hf (fun b o hb => oth b o (fun q => by subst q; cases hB.symm.trans hb) (st b o hb)) no (fr.of_keeps fun b o g nf => ⟨o, oth b o (nr b o g nf) g, rfl⟩) (oth e oe hTe.symm he) hd h2
    fun h' a u => hQ h' a fun b o g nf => u b o (oth b o (nr b o g nf) g) nf
theorem xW (F : Air B l e cls s.heap) (hQ : ∀ h', Air B l e cls h' -> s.heap.UpToSlots h' -> Q () { s with heap := h' }) : wpAny M A (setFlight (.ref e) none) Q E s := by
 obtain ⟨st, no, fr, oe, vs, he, hc, hd, h2, h1⟩ := id F
 unfold setFlight
 rcases h1 with h1 | ⟨T, oT, ts, h1, hB, hTe, hT, hdT, h3⟩
 . refine wpAny_bind (wpAny_field he hd h1 ?_)
   rw [if_neg (by decide)]
   exact wpAny_pure (hQ s.heap F (.refl _))
 . refine wpAny_bind (wpAny_field he hd h1 ?_)
   rw [if_pos (show (Value.ref T != Value.none) = true from rfl)]
   have sz := (Array.getElem?_eq_some_iff.mp h3).1
   have oth : ∀ b o, b ≠ T -> s.heap.get? b = some o -> (s.heap.update T (Obj.mapFields (·.setIfInBounds 3 ((none : Option Addr).elim Value.none fun f => rawInt f)))).get? b = some o := fun b o hb g => (Heap.get?_update_other _ _ hb.symm).trans g
   have nr : ∀ b o, s.heap.get? b = some o -> (∀ vs, o.data ≠ .fields vs) -> b ≠ T := fun b o g nf q => nf ts (by subst q; cases hT.symm.trans g; exact hdT)
   exact wpAny_setField hT hdT sz (hQ _ ⟨fun b o hb => oth b o (fun q => by subst q; cases hB.symm.trans hb) (st b o hb), no, fr.of_keeps fun b o g nf => ⟨o, oth b o (nr b o g nf) g, rfl⟩, oe, vs, oth e oe hTe.symm he, hc, hd, h2,
    .inr ⟨T, _, _, h1, hB, hTe, Heap.get?_update_self _ hT (Obj.isFreed_of_fields (Obj.data_mapFields hdT _)), Obj.data_mapFields hdT _, by simp [sz]⟩⟩ fun b o g nf => ⟨o.slots, oth b o (nr b o g nf) g⟩)
end
theorem Fly.leave {M : Model} {l : List Env} {env : Env} {L : Addr} {cx' : Cx} (F : Fly cx k e W) (lf : ∀ b o d, W.t b = .loc d -> W.get b = some o -> Nf o) (hd : ∀ b, W.get b = none -> W.t b = .junk) (hA : cx.A.frames = some (env :: l)) (hf : env.frame = some L) (hT : cx'.T = cx.T) (hA' : cx'.A.frames = some l)
  (hQ : ∀ h', Slt W ⟨W.t, h'⟩ -> Fly cx' k e ⟨W.t, h'⟩ -> Q () (sh cx.T ⟨W.t, h'⟩ tk)) : wpAny M cx.A (leaving env (.ref e)) Q E (sh cx.T W tk) := by
 obtain ⟨B, l0, h1, hB, h2⟩ := F
 cases h1.symm.trans hA
 refine wpAny_bind (sX (s := sh cx.T W tk) hA hf h2 fun h' f u => ?_)
 have s := fT lf hB f.st u
 refine hQ h' s ⟨B, l, hA', fun b o g hl n => ?_, f.st, f.no, let ⟨_, _, q⟩ := f.fr; q, by rw [hT]; exact f.ob⟩
 cases g' : W.get b with
 | none => exact absurd (hd b g') n
 | some o' => cases (s.at n hl g').1.symm.trans g; exact hB b o g' hl n
end
structure FnDef where
 kind : Nat
 name : Str
 ps : List Str
 vs : List Str
 body : CS
structure FnAt (T : Tp) (d : FnDef) (f : Addr) (o : Obj) (fd : FuncData) (body : List Stmt) : Prop where
 at_ : T.s.heap.get? f = some o
 data : o.data = .func fd
 code : T.s.heap.CodeRec fd.code fd.qualname
 bd : fd.body = .stmts body
 clo : fd.closure = []
 gl : fd.globals = mainGlobals
 bl : fd.builtins = builtinsNs
 co : fd.scope.isCoroutine = false
 gen : fd.scope.isGenerator = false
 kind : fd.scope.kind = .function
 bind : ∀ vs, vs.length = d.ps.length -> bindArgs fd ⟨vs, []⟩ = pure (d.ps.zip vs)
 par : ∀ p ∈ d.ps, fd.scope.names.lookup p = some .local \/ fd.scope.names.lookup p = some .cell
 nodup : (d.ps ++ d.vs).Nodup
 cells : ((cellsFrom 0 fd.scope.names []).map (·.1)).Nodup
noncomputable def Cx.up (cx : Cx) (c : Bool) : Cx := { cx with d := cx.d + 1, c := c }
noncomputable def ArgR (cx : Cx) (W : Ws) : List Value -> List F -> Prop
 | [], [] => True
 | v :: vs, f :: fs => (f.tmp = false /\ RepS cx W .junk v f) /\ ArgR cx W vs fs
 | _, _ => False
noncomputable def x1X (cx : Cx) (c : Bool) (W : Ws) (R : Result -> Shared -> Prop) : Out -> Prop
 | .ret g p => ∀ W' tk v, Le (cx.d + 1) (cx.d + 1) c W W' -> Wok cx.T c p W' -> RepA (cx.up c) W' v g -> g.isRet = true -> R (.ok (.ret v)) (sh cx.T W' tk)
 | .exc k p => ∀ W' tk e, Le (cx.d + 1) (cx.d + 1) c W W' -> Wok cx.T c p W' -> Fly cx k e W' -> R (.error (.ref e)) (sh cx.T W' tk)
 | .stuck => False
noncomputable def P8 (cx : Cx) (c : Bool) (f : Addr) (φ : Fn) : Prop := ∀ W tk vs fs p R, Wok cx.T c p W -> (∃ l, cx.A.frames = some l /\ Frs W cx.d l) -> ArgR (cx.up c) W vs fs -> x1X cx c W R (φ p fs) ->
 codeAny (model cx.T.prog cx.T.w) cx.A (.call (.ref f) ⟨vs, []⟩) R (sh cx.T W tk)
noncomputable def Cx.callee (cx : Cx) (c : Bool) (d : FnDef) (env : Env) : Cx := { T := cx.T, A := cx.A.deeper env, env := env, nm := d.ps ++ d.vs, d := cx.d + 1, c := c, full := true, h := false }
section
variable {names : Kd} {x y : Str} {c : Addr} {n m : Nat} {acc acc' : List (Str × Addr)} {kindOf : Str -> Option NameKind} {ps : List Str} {vs : List Value} {mm : Str -> Option Value} {v : Value} {i : Nat}
theorem nC (h : acc.map (·.1) = acc'.map (·.1)) : (cellsFrom n names acc).map (·.1) = (cellsFrom m names acc').map (·.1) := by
 induction names generalizing n m acc acc' with
 | nil => exact h
 | cons z r ih =>
  obtain ⟨y, k⟩ := z
  unfold cellsFrom
  split
  . exact ih (congrArg (y :: ·) h)
  . exact ih h
theorem tD (h : names.lookup x = some .cell \/ ∃ c, (x, c) ∈ acc) : ∃ c, (x, c) ∈ cellsFrom n names acc := by
 induction names generalizing n acc with
 | nil => exact h.elim (fun e => nomatch e) id
 | cons z r ih =>
  obtain ⟨y, k⟩ := z
  unfold cellsFrom
  have step : ((y, k) :: r).lookup x = some .cell -> (x = y /\ k = .cell) \/ r.lookup x = some .cell := fun e => by
   rw [List.lookup_cons] at e
   cases hb : x == y with
   | true => rw [hb] at e; exact .inl ⟨eq_of_beq hb, Option.some.inj e⟩
   | false => rw [hb] at e; exact .inr e
  split
  . refine ih ?_
    rcases h with h | ⟨c, h⟩
    . rcases step h with ⟨rfl, _⟩ | h
      . exact .inr ⟨n, .head _⟩
      . exact .inl h
    . exact .inr ⟨c, .tail _ h⟩
  . rename_i hk
    refine ih ?_
    rcases h with h | h
    . rcases step h with ⟨_, rfl⟩ | h
      . exact absurd rfl hk
      . exact .inl h
    . exact .inr h
theorem X0 {l : List (Str × Addr)} (hn : (l.map (·.1)).Nodup) (h : (y, c) ∈ l) : l.lookup y = some c := by
 induction l with
 | nil => cases h
 | cons p r ih =>
  rw [List.map_cons, List.nodup_cons] at hn
  rw [List.lookup_cons]
  rcases List.mem_cons.mp h with e | h'
  . rw [<- e, beq_self_eq_true]
  . have : (y == p.1) = false := w2 fun e => hn.1 (by rw [<- eq_of_beq e]; exact List.mem_map.mpr ⟨_, h', rfl⟩)
    rw [this]
    exact ih hn.2 h'
theorem x1m (h : y ∉ ps) : bindL kindOf (ps.zip vs) mm y = mm y := by
 induction ps generalizing vs mm with
 | nil => rfl
 | cons p ps ih =>
  cases vs with
  | nil => rfl
  | cons v vs =>
   rw [List.zip_cons_cons, bindL, ih fun e => h (.tail _ e)]
   split
   . exact if_neg fun (e : y = p) => h (e ▸ .head _)
   . rfl
theorem x2T (h : y ∉ ps) : bindC kindOf (ps.zip vs) mm y = mm y := by
 induction ps generalizing vs mm with
 | nil => rfl
 | cons p ps ih =>
  cases vs with
  | nil => rfl
  | cons v vs =>
   rw [List.zip_cons_cons, bindC, ih fun e => h (.tail _ e)]
   split
   . rfl
   . exact if_neg fun (e : y = p) => h (e ▸ .head _)
theorem x0G (hn : ps.Nodup) (h1 : ps[i]? = some y) (h2 : vs[i]? = some v) (hk : kindOf y = some .local) : bindL kindOf (ps.zip vs) mm y = some v := by
 induction ps generalizing vs mm i with
 | nil => cases h1
 | cons p ps ih =>
  cases vs with
  | nil => cases h2
  | cons v' vs =>
   rw [List.zip_cons_cons, bindL]
   cases i with
   | zero =>
    cases h1; cases h2
    rw [x1m (List.nodup_cons.mp hn).1, if_pos hk, if_pos rfl]
   | succ i => exact ih (List.nodup_cons.mp hn).2 h1 h2
theorem x3e (hn : ps.Nodup) (h1 : ps[i]? = some y) (h2 : vs[i]? = some v) (hk : kindOf y = some .cell) : bindC kindOf (ps.zip vs) mm y = some v := by
 induction ps generalizing vs mm i with
 | nil => cases h1
 | cons p ps ih =>
  cases vs with
  | nil => cases h2
  | cons v' vs =>
   rw [List.zip_cons_cons, bindC]
   cases i with
   | zero =>
    cases h1; cases h2
    rw [x2T (List.nodup_cons.mp hn).1, if_neg (by rw [hk]; decide), if_pos rfl]
   | succ i => exact ih (List.nodup_cons.mp hn).2 h1 h2
end
section
variable {cx : Cx} {cb : Bool} {W : Ws} {d : FnDef} {f : Addr} {o : Obj} {fs : List F} {vs : List Value} {v : Value} {g : F} {i : Nat}
theorem ArgR.get (h : ArgR cx W vs fs) (e : fs[i]? = some g) : ∃ v, vs[i]? = some v /\ g.tmp = false /\ RepS cx W .junk v g := by
 induction fs generalizing vs i with
 | nil => cases e
 | cons f fs ih =>
  cases vs with
  | nil => exact h.elim
  | cons v vs =>
   cases i with
   | zero => cases e; exact ⟨v, rfl, h.1⟩
   | succ i => exact let ⟨u, q⟩ := ih (vs := vs) (i := i) h.2 e; ⟨u, q⟩
theorem ArgR.length (h : ArgR cx W vs fs) : vs.length = fs.length := by
 induction fs generalizing vs with
 | nil => cases vs with
  | nil => rfl
  | cons _ _ => exact h.elim
 | cons f fs ih => cases vs with
  | nil => exact h.elim
  | cons v vs => exact congrArg (· + 1) (ih h.2)
theorem x0R {nv : Nat} (h : slot (fs.map some ++ List.replicate nv none) i = some g) : fs[i]? = some g := by
 unfold slot at h
 rcases Nat.lt_or_ge i fs.length with q | q
 . rw [List.getElem?_append_left (by rw [i7]; exact q), List.getElem?_map, geg q] at h
   rw [geg q]; exact h
 . rw [List.getElem?_append_right (by rw [i7]; exact q)] at h
   cases e : (List.replicate nv (none : Option F))[i - (fs.map some).length]? with
   | none => rw [e] at h; cases h
   | some x =>
    rw [e] at h
    rw [(List.mem_replicate.mp (mog e)).2] at h; cases h
theorem x6m {env : Env} {h₁ : Heap} {p : List Slots} {mL mC : Str -> Option Value} (K : Wok cx.T cb p W) (F : ∃ l, cx.A.frames = some l /\ Frs W cx.d l) (hA : ArgR (cx.up cb) W vs fs) (hl : fs.length = d.ps.length) (hnd : (d.ps ++ d.vs).Nodup)
  (hf : env.frame = some env.locals) (hk : env.scope.kind = .function) (hcn : (env.cells.map (·.1)).Nodup) (hhas : ∀ y, env.kindOf y = some .cell -> ∃ c, env.cells.lookup y = some c)
  (kp : ∀ b o, W.get b = some o -> h₁.get? b = some o) (hL : W.h.objs.size <= env.locals) (hns : h₁.Ns env.locals mL) (hab : ∀ y c, (y, c) ∈ env.cells -> env.locals < c) (hce : ∀ y c, env.cells.lookup y = some c -> h₁.IsCell c (mC y))
  (hmL : ∀ (i : Nat) y v, d.ps[i]? = some y -> vs[i]? = some v -> env.kindOf y = some .local -> mL y = some v) (hmC : ∀ (i : Nat) y v, d.ps[i]? = some y -> vs[i]? = some v -> env.kindOf y = some .cell -> mC y = some v) :
  ∃ t', Le (cx.d + 1) (cx.d + 1) cb W ⟨t', h₁⟩ /\ Sim (cx.callee cb d env) ⟨fs.map some ++ List.replicate d.vs.length none, p, 0⟩ ⟨t', h₁⟩ := by
 let X : Addr -> Prop := fun b => b = env.locals \/ ∃ y, (y, b) ∈ env.cells
 classical
 let t' : Tags := fun b => if X b then .loc (cx.d + 1) else W.t b
 have new : ∀ b, X b -> W.get b = none := fun b hb => B7 W.h (by
  rcases hb with rfl | ⟨y, hy⟩
  . exact hL
  . exact nlt hL (Nat.le_of_lt (hab y b hy)))
 have tX : ∀ {b}, X b -> t' b = .loc (cx.d + 1) := fun h => if_pos h
 have tN : ∀ {b}, ¬ X b -> t' b = W.t b := fun h => if_neg h
 have tA : ∀ {b o}, W.get b = some o -> t' b = W.t b := fun {b o} g => tN fun q => by rw [new b q] at g; cases g
 have al : ∀ {b}, X b -> ∃ o, h₁.get? b = some o /\ Nf o := fun {b} hb => by
  rcases hb with rfl | ⟨y, hy⟩
  . obtain ⟨o, _, _, g, hd, _⟩ := hns; exact ⟨o, g, fun vs e => by cases hd.symm.trans e⟩
  . obtain ⟨o, g, hd⟩ := hce y b (X0 hcn hy); exact ⟨o, g, fun vs e => by cases hd.symm.trans e⟩
 have at' : ∀ {b o}, W.get b = some o -> (Ws.mk t' h₁).get b = some o /\ (Ws.mk t' h₁).t b = W.t b := fun g => ⟨kp _ _ g, tA g⟩
 have hz : Fz W ⟨t', h₁⟩ := fun b o h => by
  obtain ⟨t, g⟩ := q9 h
  exact w5 ((tA g).trans t) (kp b o g)
 have back : ∀ {b k}, t' b = .inst k -> W.t b = .inst k := fun {b k} e => by
  by_cases q : X b
  . cases (tX q).symm.trans e
  . exact (tN q).symm.trans e
 have ok : Wok cx.T cb p ⟨t', h₁⟩ := by
  refine ⟨fun b e => ?_, fun b o e => ?_, fun k fl e => ?_, fun x y k h h' => K.uq x y k (back h) (back h'), fun hc x k h => K.cnt hc x k (back h), fun b o d t e => ?_⟩
  . have n : ¬ X b := fun q => by obtain ⟨o, g, _⟩ := al q; cases g.symm.trans e
    refine (tN n).trans (K.dead b ?_)
    cases g : W.get b with
    | none => rfl
    | some o => cases (kp b o g).symm.trans e
  . obtain ⟨e1, t1⟩ := K.top b o e
    exact ⟨kp b o e1, (tA e1).trans t1⟩
  . obtain ⟨q, P⟩ := K.pgs k fl e
    exact ⟨q, P.keep hz fun a o _ g => at' g⟩
  . by_cases q : X b
    . obtain ⟨o', g, n⟩ := al q; cases g.symm.trans e; exact n
    . have t := (tN q).symm.trans t
      cases g : W.get b with
      | none => cases (K.dead b g).symm.trans t
      | some o' => cases (kp b o' g).symm.trans e; exact K.lf b o d t g
 refine ⟨t', ⟨fun x o g _ => ⟨tA g, o.slots, kp x o g, fun _ => rfl⟩, fun _ x k e => back e⟩, ok, ⟨⟨mL, hns⟩, tX (.inl rfl), fun y c hy => ⟨⟨_, hce y c (X0 hcn hy)⟩, _, tX (.inr ⟨y, hy⟩), Nat.le_refl _, fun _ => rfl⟩, fun i g y h1 h2 h3 => ?_, ?_, fun q => nomatch q⟩⟩
 . have h1 := x0R h1
   obtain ⟨v, hv, ht, hr⟩ := hA.get h1
   have hi : i < d.ps.length := hl ▸ (n5 h1).1
   have h2' : d.ps[i]? = some y := by
    have : (d.ps ++ d.vs)[i]? = some y := h2
    rwa [List.getElem?_append_left hi] at this
   have hr' : RepS (cx.up cb) ⟨t', h₁⟩ .junk v g := hr.keep hz (fun e => by rw [ht] at e; cases e) (fun a o _ g => at' g) fun a o k q g => ⟨(at' g).1, (at' g).2.trans q⟩
   refine ⟨v, ?_, RepS.tag (cx := cx.callee cb d env) hr' ht⟩
   rcases h3 with h3 | h3
   . exact .inl ⟨h3, _, hns, hmL i y v h2' hv h3⟩
   . obtain ⟨c, hc⟩ := hhas y h3
     exact .inr ⟨h3, c, hc, by have := hce y c hc; rwa [hmC i y v h2' hv h3] at this⟩
 . obtain ⟨l, hl1, hl2⟩ := F
   refine ⟨env :: l, by show cx.A.frames.map (env :: ·) = _; rw [hl1]; rfl, fun e he => ?_⟩
   rcases List.mem_cons.mp he with rfl | he
   . obtain ⟨o, _, _, g, _⟩ := hns
     exact ⟨(by rw [hk]; exact fun q => (nomatch q)), _, _, o, hf, tX (.inl rfl), Nat.le_refl _, g⟩
   . exact Frs.keep (Nat.le_succ _) (fun L d' o _ t g => ⟨(tA g).trans t, o, kp _ _ g⟩) hl2 e he
end
noncomputable abbrev Tab := List (Nat × FnDef)
noncomputable def Gam (P : Tab) : Nat -> Nat -> Fn
 | 0, _ => fun _ _ => .stuck
 | n + 1, k => match P.lookup k with
  | some d => w7 (Gam P n) d.ps.length d.vs.length d.body
  | none => fun _ _ => .stuck
theorem cT {P : Tab} {n k : Nat} {d : FnDef} (h : P.lookup k = some d) : Gam P (n + 1) k = w7 (Gam P n) d.ps.length d.vs.length d.body := by
 show (match P.lookup k with | some d => _ | none => _) = _
 rw [h]
structure Room (n : Nat) (A : Around) : Prop where
 hand : A.handled = none
 units : A.units + 10 * n + 210 < cLine
 depth : A.depth + 4 * n + 24 < recursionLimit
section
variable {cx : Cx} {cb : Bool} {W W' : Ws} {d : FnDef} {f : Addr} {o : Obj} {fd : FuncData} {body : List Stmt} {U : Nat -> Fn} {fs : List F} {vs : List Value} {v : Value} {g : F} {i n : Nat}
theorem x4l (TO : cx.T.Ok) (FA : FnAt cx.T d f o fd body) (hR : Room n cx.A) (hb : ∀ env, env.scope = fd.scope -> (cx.callee cb d env).Ok cb -> (cx.callee cb d env).Full -> y1 U (cx.callee cb d env) d.body body) : P8 cx cb f (w7 U d.ps.length d.vs.length d.body) := fun W tk vs fs p R K F hA H => by
 unfold w7 at H
 by_cases hl : fs.length = d.ps.length
 case neg => rw [if_neg hl] at H; exact H.elim
 rw [if_pos hl] at H
 have kp : ∀ b o, cx.T.s.heap.get? b = some o -> W.h.get? b = some o := fun b o e => (K.top b o e).1
 have hk : ∀ x ∈ d.ps.zip vs, fd.scope.names.lookup x.1 = some .local \/ (fd.scope.names.lookup x.1 = some .cell /\ ((cellsFrom (W.h.objs.size + 1) fd.scope.names []).lookup x.1).isSome = true) := fun x hx =>
  (FA.par x.1 (List.of_mem_zip hx).1).imp id fun q => ⟨q, by
   obtain ⟨c, hc⟩ := tD (n := W.h.objs.size + 1) (acc := []) (.inl q)
   rw [X0 (by rw [nC (m := 0) (acc' := []) rfl]; exact FA.cells) hc]; rfl⟩
 refine codeAny_call_cells (s := sh cx.T W tk) (Nat.lt_of_le_of_lt (nlt (Nat.le_add_right _ (4 * n)) (Nat.le_add_right _ 24)) hR.depth) (kp _ _ FA.at_) FA.data (TO.lim.keeps kp) (FA.code.keeps kp) FA.bd (FA.bind vs (hA.length.trans hl)) FA.clo hk (fun s₁ X => ?_) FA.co FA.gen FA.kind
 generalize hE : callEnvC fd (sh cx.T W tk).heap.objs.size f = env at X ⊢
 obtain ⟨h₁, tk₁, rfl, hk₁⟩ := X.done
 have eC : env.cells = cellsFrom (W.h.objs.size + 1) fd.scope.names [] := by rw [<- hE]; rfl
 have eS : env.scope = fd.scope := by rw [<- hE]; rfl
 have hcn : (env.cells.map (·.1)).Nodup := by rw [eC, nC (m := 0) (acc' := []) rfl]; exact FA.cells
 have hps : d.ps.Nodup := (List.nodup_append.mp FA.nodup).1
 have hhas : ∀ y, env.kindOf y = some .cell -> ∃ c, env.cells.lookup y = some c := fun y hy => by
  have hy : fd.scope.names.lookup y = some .cell := eS ▸ (show env.scope.names.lookup y = some .cell from hy)
  obtain ⟨c, hc⟩ := tD (n := W.h.objs.size + 1) (acc := []) (.inl hy)
  exact ⟨c, X0 hcn (eC ▸ hc)⟩
 obtain ⟨t', l1, S1⟩ := x6m (d := d) (env := env) K F hA hl FA.nodup (by rw [<- hE]; rfl) (by rw [eS]; exact FA.kind) hcn hhas hk₁ X.toInCall.fresh X.toInCall.ns X.above X.cell (fun i y v h1 h2 h3 => x0G hps h1 h2 h3) (fun i y v h1 h2 h3 => x3e hps h1 h2 h3)
 have Cok : (cx.callee cb d env).Ok cb := ⟨id, by show env.scope.kind = _; rw [eS]; exact FA.kind, by rw [<- hE]; exact FA.gl, by rw [<- hE]; exact FA.bl, fun _ => hR.hand, Nat.lt_of_le_of_lt (by show cx.A.units + 3 + 200 <= cx.A.units + 10 * n + 210; lia) hR.units, Nat.lt_of_le_of_lt (by show cx.A.depth + 1 + 20 <= cx.A.depth + 4 * n + 24; lia) hR.depth⟩
 have Fu : (cx.callee cb d env).Full := ⟨rfl, fun y z c h1 h2 => name_of_addr X.apart h1 h2, fun i j y h1 h2 => by
  obtain ⟨l1, e1⟩ := n5 h1
  obtain ⟨l2, e2⟩ := n5 h2
  exact (List.getElem_inj FA.nodup).mp (e1.trans e2.symm), hhas, let ⟨l, h, _⟩ := F; ⟨l, by show cx.A.frames.map (env :: ·) = _; rw [h]; rfl⟩, by rw [<- hE]; rfl⟩
 refine hb env eS Cok Fu _ ⟨t', h₁⟩ S1 tk₁ _ _ ?_
 obtain ⟨l, hl1, hl2⟩ := F
 cases hex : ex U d.body ⟨fs.map some ++ List.replicate d.vs.length none, p, 0⟩ with
 | stuck => rw [hex] at H; exact H.elim
 | exc k st' =>
  rw [hex] at H
  intro W' tk' e l' S' fl
  refine Fly.leave (cx := cx.callee cb d env) (cx' := cx) (l := l) fl S'.ok.lf S'.ok.dead (by show cx.A.frames.map (env :: ·) = _; rw [hl1]; rfl) (by rw [<- hE]; rfl) rfl hl1 fun h' s fl' => ?_
  exact H ⟨W'.t, h'⟩ tk' e (l1.trans (l'.trans s.le)) (s.ok S'.ok) fl'
 | ok fl st' =>
  rw [hex] at H
  intro W' tk' w l' S' r
  cases fl with
  | next =>
   cases show w = .next from r
   exact H W' tk' .none (l1.trans l') S'.ok (show Rep W' .none .none from .none) rfl
  | ret g =>
   obtain ⟨v, rfl, r, hg⟩ := r
   refine H W' tk' v (l1.trans l') S'.ok ?_ hg
   cases g with
   | val d => exact r
   | own xs => exact r
   | _ => cases hg
end
noncomputable def RT (T : List Value -> Shared -> Prop) (E : VP) (r : Result) (s : Shared) : Prop := match r with
 | .ok (.ret v) => T [v] s
 | .ok _ => False
 | .error e => E e s
section
variable {cx : Cx} {cb : Bool} {T : List Value -> Shared -> Prop} {E : VP} {st : St} {W W' : Ws} {b tk k : Nat} {v : Value} {f g : F} {e : Expr} {a : CE} {p : Pl} {fs as : List F} {vs : List Value} {fa : Addr} {φ : Fn} {pure : Bool}
theorem Sim.took (b : Nat) (cb c : Bool) (S : Sim cx st W) (r : RepA (cx.up c) W v g) (hg : g.isRet = true) : ∃ t', Le cx.d b cb W ⟨t', W.h⟩ /\ Sim cx st ⟨t', W.h⟩ /\ RepA cx ⟨t', W.h⟩ v g := by
 cases g with
 | val d => exact ⟨W.t, Le.refl, S, r⟩
 | own xs =>
  obtain ⟨a, vs, rfl, ⟨n, g⟩, q, r⟩ := r
  have B := But.tag W a (.own cx.d 0)
  have q : W.t a = .own (cx.d + 1) 0 := q
  have hz : Fz W _ := B.fz (by rw [q]; exact Tag.noConfusion)
  exact ⟨_, B.le (.of (by rw [q]; exact dtt (Nat.le_succ _))) (o7 rfl), S.but B (by rw [q]; exact dtt (Nat.le_succ _)) (by rw [q]; rfl) (fun i e => nomatch (Tag.own.inj (q.symm.trans e)).2) (fun e => nomatch (g.symm.trans e)) (o7 rfl),
   a, vs, rfl, ⟨n, g⟩, Tags.put_self .., r.mono hz⟩
 | _ => cases hg
theorem jU {c : Bool} (hc : c = true -> cx.c = true) (S : Sim cx st W) (r : RepL cx W vs fs) (h : args st.v fs = some as) : ArgR (cx.up c) W vs as := by
 induction fs generalizing vs as with
 | nil => cases vs with
  | nil => cases h; trivial
  | cons _ _ => exact r.elim
 | cons f fs ih =>
  cases vs with
  | nil => exact r.elim
  | cons v vs =>
   cases f with
   | val d =>
    obtain ⟨l, hl, rfl⟩ := m3 h
    exact ⟨⟨rfl, r.1⟩, ih r.2 hl⟩
   | pg k =>
    obtain ⟨l, hl, rfl⟩ := m3 h
    exact ⟨⟨rfl, r.1⟩, ih r.2 hl⟩
   | lnd i =>
    obtain ⟨g, hg, h⟩ := c0 h
    obtain ⟨l, hl, rfl⟩ := m3 h
    obtain ⟨y, h1, h2, h3⟩ := r.1
    obtain ⟨g', hg'⟩ := jW hg
    obtain ⟨u, hu, q⟩ := S.fr.vals i g' y hg' h1 h2
    cases h3.uniq hu
    exact ⟨⟨uB hg, RepS.seen (cx := cx) (cx' := cx.up c) rfl (Nat.lt_succ_self _) hc q (hg' ▸ hg)⟩, ih r.2 hl⟩
   | _ => exact nos h
theorem xN {c : Bool} (hc : c = true -> cx.c = true) (hcb : c = true -> cb = true) (hcc : pure = !c) (K : P8 cx c fa φ) (S : Sim cx st W) (hA : ArgR (cx.up c) W vs as) (H : Post cx (cx.d + 1) cb (RepL cx) W T E (outE pure (φ (C6 pure st) as) st)) :
  codeAny (model cx.T.prog cx.T.w) cx.A (.call (.ref fa) ⟨vs, []⟩) (RT T E) (sh cx.T W tk) := by
 have key : ∀ {p W'}, Le (cx.d + 1) (cx.d + 1) c W W' -> Wok cx.T c p W' -> Le cx.d (cx.d + 1) cb W W' /\ Sim cx (if pure then st else { st with p := p }) W' := fun {p W'} l K' => by
  refine ⟨l.mono (Nat.le_succ _) (Nat.le_refl _) hcb, ?_⟩
  have fr := S.fr.le l (Nat.lt_succ_self _) (Nat.lt_succ_self _) hc
  cases c with
  | false => cases hcc; exact ⟨S.ok.le l K', fr⟩
  | true => cases hcc; exact ⟨by rw [hc rfl]; exact K', fr⟩
 refine K W tk vs as (C6 pure st) (RT T E) ?_ S.fr.frs hA ?_
 . cases c with
   | false => cases hcc; exact ⟨S.ok.dead, S.ok.top, fun k fl e => (nomatch e), S.ok.uq, fun q => (nomatch q), S.ok.lf⟩
   | true => cases hcc; have := S.ok; rw [hc rfl] at this; exact this
 . cases hr : φ (C6 pure st) as with
   | stuck => rw [hr] at H; exact H.elim
   | exc k p =>
    rw [hr] at H
    intro W' tk' e l K' fl
    obtain ⟨l', S'⟩ := key l K'
    exact H W' tk' e l' S' fl
   | ret g p =>
    rw [hr] at H
    intro W' tk' v l K' r hg
    obtain ⟨l', S'⟩ := key l K'
    obtain ⟨t', l2, S2, r2⟩ := S'.took (cx.d + 1) cb c r hg
    exact z6 (W' := ⟨t', W'.h⟩) H (l'.trans l2) S2 r2
end
end Mine.Internal
end
section
namespace Mine.Internal
open PySem.W (findIn clsIn plainOver takerIn InstAt typeIn findObj lookIn handedIn)
structure FnIs (cx : Cx) (c : Bool) (fa : Addr) (φ : Fn) : Prop where
 at_ : ∃ o fd, cx.T.s.heap.get? fa = some o /\ o.data = .func fd
 ok : P8 cx c fa φ
section
variable {prog : Program} {w : World} {A : Around} {E : VP} {s : Shared} {env : Env}
theorem x5A {o : Expr} {name : Str} {apos pos : Pos} {args : List Expr} {Q : VP}
  (hbase : attributeBase o name env (eval o env) = eval o env)
  (hfew : ((backTo pos (starEach args env)).all (fun x => !x.1) && (backToKw pos (keywordEach [] env)).all (fun x => x.1.isSome)
   && decide (args.length + ([] : List Keyword).length + (if ([] : List Keyword).isEmpty then 0 else 1) < 30)) = true)
  (hline : (apos.endLine == pos.line) = true)
  (h : wpAny (model prog w) A (eval o env) (fun ov s₁ => ∀ pl, wpAny (model prog w) A (getMethod ov name pl) (fun fm s₂ => wpAny (model prog w) A (callWith pos fm.1 fm.2 (backTo pos (starEach args env)) []) Q E s₂) E s₁) E s) :
  wpAny (model prog w) A (eval (.Call (.Attribute o name apos) args [] pos) env) Q E s := by
 rw [arm_eval_Call, hbase]
 refine wpAny_bind (wpAny_mono h (fun ov s₁ h₁ => ?_) fun _ _ e => e)
 refine wpAny_bind (wpAny_standAt ?_)
 have hform : methodCallForm (args.length + ([] : List Keyword).length) (backTo pos (starEach args env)) (backToKw pos (keywordEach [] env)) = true := hfew
 have hpos : methodCallPos true o env apos pos = pure pos := by unfold methodCallPos; simp [hline]
 unfold methodCall
 rw [hform]
 refine wpAny_bind (wpAny_holding (wpAny_mono (h₁ _) (fun fm s₂ h₂ => ?_) fun _ _ e => e))
 exact wpAny_bind (wpAny_of_eq hpos h₂)
end
section
variable {U : Nat -> Fn} {cx : Cx} {cb : Bool} {T : List Value -> Shared -> Prop} {E : VP} {st : St} {W W' : Ws} {b tk k : Nat} {v : Value} {f g : F} {e x : Expr} {es : List Expr} {a r : CE} {p : Pl} {fs as : List F} {vs : List Value} {fa : Addr} {φ : Fn} {pure : Bool} {y : Str} {pos : Pos}
theorem kE (hx : es.all m7 = true) (h : seqW cx E es T (sh cx.T W tk)) : d9 cx (evalArgs v true (backTo pos (starEach es cx.env)) []) (fun x s => x.kw = [] /\ T x.pos s) E (sh cx.T W tk) := by
 cases es with
 | nil => exact evalArgs_empty ⟨rfl, h⟩
 | cons e es =>
  obtain ⟨x, r, h3⟩ := pO (cx := cx) (pos := pos) hx rfl
  have h1 := X7 (pos := pos) hx h
  rw [h3] at h1 ⊢
  exact evalArgs_plain (wpAny_mono h1 (fun _ _ q => ⟨rfl, q⟩) fun _ _ q => q)
theorem yA (hx : es.all m7 = true) (hl : es.length < 20) : ((backTo pos (starEach es cx.env)).all (fun x => !x.1) && (backToKw pos (keywordEach [] cx.env)).all (fun x => x.1.isSome)
   && decide (es.length + ([] : List Keyword).length + (if ([] : List Keyword).isEmpty then 0 else 1) < 30)) = true := by
 have h2 : (backTo pos (starEach es cx.env)).all (fun x => !x.1) = true := by
  have := gK (cx := cx) (pos := pos) hx
  rw [List.any_eq_false] at this
  exact List.all_eq_true.mpr fun x hm => by simpa using this x hm
 rw [h2]
 show (true && (true && _)) = true
 exact dtt (Nat.lt_of_lt_of_le hl (by decide))
theorem gQ {us : List Value} (FI : FnIs cx (!pure) fa φ) (hx : es.all m7 = true) (hcx : pure = false -> cx.c = true)
  (h : seqW cx E es (fun vs s => ∃ st W tk as, s = sh cx.T W tk /\ Sim cx st W /\ ArgR (cx.up (!pure)) W (us ++ vs) as /\ (pure = false -> cb = true) /\ Post cx (cx.d + 1) cb (RepL cx) W T E (outE pure (φ (C6 pure st) as) st)) (sh cx.T W tk)) :
  d9 cx (callWith pos (.ref fa) us (backTo pos (starEach es cx.env)) []) (fun v s => T [v] s) E (sh cx.T W tk) := by
 obtain ⟨o, fd, h1, h2⟩ := FI.at_
 refine callWith_function (o := o) (fd := fd) (wpAny_mono (kE hx h) (fun x s q => ?_) fun _ _ q => q)
 obtain ⟨q0, st, W, tk, as, rfl, S, hA, hcb, H⟩ := q
 refine ⟨⟨S.keeps _ _ h1, h2⟩, ?_⟩
 rw [q0]
 have nt : ∀ {P : Prop}, (pure = false -> P) -> (!pure) = true -> P := fun h q => h (by cases pure; rfl; cases q)
 exact wpAny_call (codeAny_mono (xN (nt hcx) (nt hcb) (by cases pure <;> rfl) FI.ok S hA H) fun r s h => by
  rcases r with e | (v | _ | _ | _) <;> first | exact h | exact h.elim)
theorem rJ {n : Nat} (H : Post cx b cb (RepL cx) W T E (callE U pure k fs st)) : ∃ as, args st.v fs = some as /\ Post cx b cb (RepL cx) W T E (outE pure (U k (C6 pure st) as) st) := by
 unfold callE at H
 cases h : args st.v fs with
 | none => rw [h] at H; exact H.elim
 | some as => rw [h] at H; exact ⟨as, rfl, H⟩
theorem x2L {P : Prop} {q : Bool} (h : (q || !pure) = true -> P) : pure = false -> P := fun e => h (by rw [e]; exact Bool.or_true _)
theorem yG (TO : cx.T.Ok) (C : cx.Ok cb) (hm : cx.T.mg y = some (.ref fa)) (FI : FnIs cx (!pure) fa (U k)) (hcx : pure = false -> cx.c = true) (hp : s8 cx.env.scope.names y e = some es) (ha : SL U cx cb a es) : SL U cx cb (.call pure k a) [e] := fun hf st W S tk T E H => by
 obtain ⟨f, pf, p, rfl, hg, hx, h0⟩ := bK hp
 refine Call_Name rfl (F0 TO C S hg hm (gQ (us := []) (cb := cb) FI hx hcx (ha (A5 hf) st W S tk _ E (Post.bind' H fun x st1 W1 tk1 vs l1 S1 r1 H1 => ?_))))
 obtain ⟨as, h1, H2⟩ := rJ (n := 0) H1
 exact ⟨st1, W1, tk1, as, rfl, S1, jU (fun q => hcx (by cases pure; rfl; cases q)) S1 r1 h1, x2L hf, H2⟩
theorem x5l (TO : cx.T.Ok) (C : cx.Ok cb) (PC : i0 p = true -> PgCls cx.T) (hm : cx.T.mg y = some (.ref fa)) (FI : FnIs cx false fa (U k)) (hp : s8 cx.env.scope.names y e = some [x]) (hx : j8 cx.nm cx.env.scope.names p x = true) : SL U cx cb (.callP k p) [e] := fun hf st W S tk T E H => by
 obtain ⟨f, pf, p', rfl, hg, hxx, h0⟩ := bK hp
 replace H : Post cx (cx.d + 1) cb (RepL cx) W T E (match seen (getP st p) with | some f => outE true (U k [] [f]) st | none => .stuck) := H
 cases hs : seen (getP st p) with
 | none => rw [hs] at H; exact H.elim
 | some f =>
  rw [hs] at H
  obtain ⟨g, hg'⟩ := jW hs
  refine Call_Name rfl (F0 TO C S hg hm (gQ (us := []) (pure := true) (cb := cb) FI hxx (fun q => nomatch q) (B3 C PC S hx hg' fun v t tk' P => ⟨st, W, tk', [f], rfl, S, ⟨⟨uB hs, ?_⟩, trivial⟩, fun q => (nomatch q), H⟩)))
  rw [hg'] at hs
  cases p with
  | loc i => obtain ⟨_, rfl, _, r⟩ := P; exact RepS.seen (cx := cx) (cx' := cx.up false) rfl (Nat.lt_succ_self _) (fun q => nomatch q) r hs
  | fld i j =>
   obtain ⟨n, P⟩ := P
   have r := P.r
   rw [P.tg] at r
   cases g with
   | val d => cases hs; exact r
   | own xs => cases hs; obtain ⟨a, vs, e, ⟨n, q⟩, ht, hr⟩ := r; exact ⟨a, vs, e, ⟨_, q, rfl, n, rfl⟩, by rw [ht]; rfl, hr⟩
   | dct es => cases hs
   | _ => exact r.elim
theorem PgAt.meth {T : Tp} {A : Around} {k : Nat} {fl : Slots} {n : PI} {name : Str} {pl : Sem Bool} {Q : Value × List Value -> Shared -> Prop} (PC : PgCls T) (P : PgAt T W k fl n) (K : PySem.W.Frag.In T.pk W.h) (hf : findIn T.pk (.ref T.pc) name = some (some (.ref fa))) (ht : typeIn T.pk (.ref fa) = some (.type "function"))
  (hn : ∀ j, j < 6 -> name ≠ m9 j) (h : Q (.ref fa, [.ref n.a]) (sh T W tk)) : wpAny (model T.prog T.w) A (getMethod (.ref n.a) name pl) Q E (sh T W tk) := by
 obtain ⟨od, g, hl⟩ := eP P.ns
 have I : InstAt W.h n.a (N8 T.pc n.da) T.pc (some od) := ⟨P.inst, rfl, rfl, g⟩
 refine PySem.W.method_fn (s := sh T W tk) K I PC.ga PC.hook hf ht ?_ h
 unfold PySem.W.shadowIn
 dsimp only
 rw [hl, P.oth name hn]; rfl
theorem x2U {x : List F} {f : Nat -> R (List F)} (H : Post cx b cb (RepL cx) W T E (match x with | [.pg n] => f n | _ => .stuck)) : ∃ n, x = [.pg n] /\ Post cx b cb (RepL cx) W T E (f n) := by
 cases x with
 | nil => exact H.elim
 | cons g x => cases x with
  | nil => cases g with
   | pg n => exact ⟨n, rfl, H⟩
   | _ => exact H.elim
  | cons _ _ => cases g <;> exact H.elim
theorem RepL.after (F : Frm cx st.v W) (l : Le cx.d (cx.d + 1) cb W W') (hc : cb = true -> cx.c = true) {n : Nat} (h : RepA cx W v (.pg n)) : RepA cx W' v (.pg n) := h.mono F l hc rfl
theorem x2h (TO : cx.T.Ok) (C : cx.Ok cb) (PC : PgCls cx.T) (hfn : findIn cx.T.pk (.ref cx.T.pc) y = some (some (.ref fa))) (hty : typeIn cx.T.pk (.ref fa) = some (.type "function")) (hnf : ∀ j, j < 6 -> y ≠ m9 j) (FI : FnIs cx true fa (U k)) (hp : C3 y e = some (x, es)) (hl : es.length < 20)
  (hbase : attributeBase x y cx.env (eval x cx.env) = eval x cx.env) (hr : SL U cx cb r [x]) (ha : SL U cx cb a es) : SL U cx cb (.meth k r a) [e] := fun hf st W S tk T E H => by
 obtain ⟨ap, p, rfl, hline, hx⟩ := J4 hp
 have hcb : cb = true := hf rfl
 have hcx := C.cb hcb
 refine x5A hbase (yA hx hl) hline (hr (fun _ => hcb) st W S tk (r6 fun v s => ∀ pl, d9 cx (getMethod v y pl) (fun fm s₂ => d9 cx (callWith p fm.1 fm.2 (backTo p (starEach es cx.env)) []) (fun v s => T [v] s) E s₂) E s) E (Post.bind' H fun q st1 W1 tk1 vs l1 S1 r1 H1 => ?_))
 obtain ⟨n, rfl, HH⟩ := x2U (f := fun n => (ev U a st1).bind fun y st => callE U false k (.pg n :: y) st) H1
 obtain ⟨v, rfl, rr⟩ := r1.one
 intro pl
 obtain ⟨aa, o, rfl, g, q⟩ := id rr
 have hlt := S1.ok.cnt hcx _ _ q
 obtain ⟨pi, P, rfl⟩ := S1.ok.inst_at (geg hlt) g q
 refine P.meth PC (PC.kin.keeps S1.keeps) hfn hty hnf (gQ (us := [.ref pi.a]) (pure := false) (cb := cb) FI hx (fun _ => hcx) (ha (fun _ => hcb) st1 W1 S1 tk1 _ E (Post.bind' HH fun z st2 W2 tk2 vs l2 S2 r2 H2 => ?_)))
 obtain ⟨as, h1, H3⟩ := rJ (n := 0) H2
 exact ⟨st2, W2, tk2, as, rfl, S2, jU (c := true) (fun _ => hcx) S2 (vs := .ref pi.a :: vs) (fs := .pg n :: z) ⟨RepL.after S1.fr l2 C.cb rr, r2⟩ h1, fun _ => hcb, H3⟩
end
end Mine.Internal
end
section
namespace Mine.Internal
open PySem.W (findIn clsIn plainOver takerIn InstAt typeIn findObj lookIn handedIn instObj emptyDict InitBack)
section
variable {U : Nat -> Fn} {cx : Cx} {cb : Bool} {T : List Value -> Shared -> Prop} {E : VP} {st : St} {W W' : Ws} {b tk k : Nat} {v : Value} {f g : F} {e x : Expr} {es : List Expr} {a r : CE} {p : List Slots} {fs as : List F} {vs : List Value} {fa : Addr} {TT : Tp}
noncomputable def Ws.page (W : Ws) (C : Addr) (k : Nat) : Ws := ⟨(W.t.put W.h.objs.size (.pgd k)).put (W.h.objs.size + 1) (.inst k), (W.h.push emptyDict).push (instObj C W.h.objs.size)⟩
theorem E5 (C : Addr) {x : Addr} {o : Obj} (g : W.get x = some o) : (W.page C k).get x = some o /\ (W.page C k).t x = W.t x := by
 have h := Heap.lt_size g
 exact ⟨Heap.get?_push_of_some _ (Heap.get?_push_of_some _ g), (Tags.put_ne (Nat.ne_of_lt (Nat.lt_succ_of_lt h))).trans (Tags.put_ne (Nat.ne_of_lt h))⟩
theorem aV (C : Addr) : (W.page C k).get (W.h.objs.size + 1) = some (N8 C W.h.objs.size) := by
 have := Heap.get?_push_size (W.h.push emptyDict) (o := instObj C W.h.objs.size) rfl
 rw [Heap.size_push] at this; exact this
theorem kQ (C : Addr) : (W.page C k).get W.h.objs.size = some emptyDict := Heap.get?_push_of_some _ (Heap.get?_push_size W.h rfl)
theorem I5 (C : Addr) : (W.page C k).t (W.h.objs.size + 1) = .inst k := Tags.put_self ..
theorem eA (C : Addr) : (W.page C k).t W.h.objs.size = .pgd k := (Tags.put_ne (Nat.ne_of_lt (Nat.lt_succ_self _))).trans (Tags.put_self ..)
theorem eR (C : Addr) {x : Addr} (h1 : x ≠ W.h.objs.size + 1) (h2 : x ≠ W.h.objs.size) : (W.page C k).t x = W.t x := (Tags.put_ne h1).trans (Tags.put_ne h2)
theorem iO {a b : Nat} (C : Addr) : Le a b true W (W.page C k) := ⟨fun x o g _ => let ⟨e, t⟩ := E5 C g; ⟨t, o.slots, e, fun _ => rfl⟩, fun q => nomatch q⟩
theorem lI (C : Addr) : Fz W (W.page C k) := (iO (a := 0) (b := 0) C).fz
theorem x6e (K : Wok TT true p W) : Wok TT true (p ++ [List.replicate 6 none]) (W.page TT.pc p.length) := by
 have hin : ∀ {x i}, (W.page TT.pc p.length).t x = .inst i -> (x = W.h.objs.size + 1 /\ i = p.length) \/ W.t x = .inst i := fun {x i} h => by
  by_cases h1 : x = W.h.objs.size + 1
  . subst h1; cases (I5 TT.pc).symm.trans h; exact .inl ⟨rfl, rfl⟩
  . by_cases h2 : x = W.h.objs.size
    . subst h2; cases (eA TT.pc).symm.trans h
    . exact .inr ((eR TT.pc h1 h2).symm.trans h)
 refine ⟨fun b e => ?_, fun b o e => ?_, fun i fl e => ?_, fun x y i h h' => ?_, fun _ x i h => ?_, fun b o d t e => ?_⟩
 . have h1 : b ≠ W.h.objs.size + 1 := fun q => by rw [q] at e; cases (aV TT.pc).symm.trans e
   have h2 : b ≠ W.h.objs.size := fun q => by rw [q] at e; cases (kQ TT.pc).symm.trans e
   refine (eR TT.pc h1 h2).trans (K.dead b ?_)
   cases g : W.get b with
   | none => rfl
   | some o => cases (E5 TT.pc g).1.symm.trans e
 . obtain ⟨e1, t1⟩ := K.top b o e
   exact ⟨(E5 TT.pc e1).1, (E5 TT.pc e1).2.trans t1⟩
 . rcases Nat.lt_or_ge i p.length with q | q
   . rw [List.getElem?_append_left q] at e
     obtain ⟨pi, P⟩ := K.pgs i fl e
     exact ⟨pi, P.keep (lI TT.pc) fun a o _ g => E5 TT.pc g⟩
   . rw [List.getElem?_append_right q] at e
     obtain ⟨hi, rfl⟩ : i = p.length /\ fl = List.replicate 6 none := by
      cases hz : i - p.length with
      | zero => rw [hz] at e; cases e; exact ⟨Nat.le_antisymm (Nat.sub_eq_zero_iff_le.mp hz) q, rfl⟩
      | succ m => rw [hz] at e; cases e
     subst hi
     refine ⟨⟨W.h.objs.size + 1, W.h.objs.size, fun _ => none⟩, aV _, I5 _, eA _, ⟨_, _, _, kQ _, rfl, fun x hx => ?_, ?_⟩, fun j f hj h => ?_, fun _ _ => rfl, rfl⟩
     . exact absurd hx (by simp)
     . exact ⟨List.Pairwise.nil, fun _ => rfl⟩
     . exfalso
       unfold slot at h
       rw [List.getElem?_replicate, if_pos hj] at h; cases h
 . rcases hin h with ⟨rfl, rfl⟩ | h <;> rcases hin h' with ⟨rfl, q⟩ | h'
   . rfl
   . exact absurd (K.cnt rfl _ _ h') (Nat.lt_irrefl _)
   . subst q; exact absurd (K.cnt rfl _ _ h) (Nat.lt_irrefl _)
   . exact K.uq x y i h h'
 . rw [lap]
   rcases hin h with ⟨_, rfl⟩ | h
   . exact Nat.lt_succ_self _
   . exact Nat.lt_succ_of_lt (K.cnt rfl x i h)
 . by_cases h1 : b = W.h.objs.size + 1
   . subst h1; cases (I5 TT.pc).symm.trans t
   . by_cases h2 : b = W.h.objs.size
     . subst h2; cases (eA TT.pc).symm.trans t
     . rw [eR TT.pc h1 h2] at t
       cases g : W.get b with
       | none => cases (K.dead b g).symm.trans t
       | some o' => cases (E5 TT.pc g).1.symm.trans e; exact K.lf b o d t g
theorem ArgR.keep (hz : Fz W W') (hk : ∀ a o, W.get a = some o -> W'.get a = some o /\ W'.t a = W.t a) (h : ArgR cx W vs fs) : ArgR cx W' vs fs := by
 induction fs generalizing vs with
 | nil => cases vs with
  | nil => trivial
  | cons _ _ => exact h.elim
 | cons f fs ih => cases vs with
  | nil => exact h.elim
  | cons v vs => exact ⟨⟨h.1.1, h.1.2.keep hz (fun e => by rw [h.1.1] at e; cases e) (fun a o _ g => hk a o g) fun a o k q g => ⟨(hk a o g).1, (hk a o g).2.trans q⟩⟩, ih h.2⟩
noncomputable def Cx.by (cx : Cx) (vs : List Value) : Cx := { cx with A := cx.A.under (.builtin "type.__call__" ⟨.ref cx.T.pc :: vs, []⟩) }
theorem by_frames : (cx.by vs).A.frames = cx.A.frames := by
 show pushEnvs (Code.envs (.builtin "type.__call__" ⟨.ref cx.T.pc :: vs, []⟩)) cx.A.frames = _
 cases cx.A.frames <;> rfl
theorem ArgR.by {us : List Value} (h : ArgR (cx.up cb) W vs fs) : ArgR ((cx.by us).up cb) W vs fs := by
 induction fs generalizing vs with
 | nil => cases vs <;> exact h
 | cons f fs ih => cases vs with
  | nil => exact h
  | cons v vs => exact ⟨⟨h.1.1, by cases f <;> exact h.1.2⟩, ih h.2⟩
theorem wL (TO : cx.T.Ok) (C : cx.Ok cb) (PC : PgCls cx.T) (hi : findIn cx.T.pk (.ref cx.T.pc) "__init__" = some (some (.ref fa))) (hty : typeIn cx.T.pk (.ref fa) = some (.type "function")) (FI : ∀ vs, P8 (cx.by vs) true fa (U 0)) (hp : s8 cx.env.scope.names "Page" e = some es) (ha : SL U cx cb a es) : SL U cx cb (.new a) [e] := fun hf st W S tk T E H => by
 obtain ⟨f, pf, p, rfl, hg, hx, h0⟩ := bK hp
 have hcb : cb = true := hf rfl
 have hcx := C.cb hcb
 refine Call_Name rfl (F0 TO C S hg PC.glob (PySem.W.callWith_of (P := PySem.W.Frag.In cx.T.pk) (by rw [gK (cx := cx) (pos := p) hx]; rfl) (PySem.W.keeps_K PC.keep) (wpAny_mono (kE hx (ha (fun _ => hcb) st W S tk (fun vs s => PySem.W.Frag.In cx.T.pk s.heap /\ d9 cx (call (.ref cx.T.pc) vs) (fun v s => T [v] s) E s) E (Post.bind' H fun x st1 W1 tk1 vs l1 S1 r1 H1 => ?_))) (fun x s q => by obtain ⟨q0, q1, q2⟩ := q; rw [q0]; exact ⟨q1, q2⟩) fun _ _ q => q)))
 have KI := PC.kin.keeps S1.keeps
 refine ⟨KI, wpAny_call (PySem.W.make_core (g := cx.T.s.gens) (d := cx.T.s.drawn) (t := tk1) (os := cx.T.s.os) (h := W1.h) (PySem.W.makes_of KI PC.makes) (PySem.W.looks_findIn KI hi) (fun self => PySem.W.bind_fn KI self hty) (.inl rfl) ?_)⟩
 unfold Y4 at H1
 cases hA : args st1.v x with
 | none => rw [hA] at H1; exact H1.elim
 | some as =>
  rw [hA] at H1
  dsimp only at H1
  have hA' := jU (c := true) (fun _ => hcx) S1 r1 hA
  have ok := S1.ok
  rw [hcx] at ok
  have ok1 := x6e ok
  have lp : Le cx.d (cx.d + 1) cb W1 (W1.page cx.T.pc st1.p.length) := hcb ▸ iO cx.T.pc
  have key : ∀ {p W'}, Le (cx.d + 1) (cx.d + 1) true (W1.page cx.T.pc st1.p.length) W' -> Wok cx.T true p W' -> Le cx.d (cx.d + 1) cb W1 W' /\ Sim cx { st1 with p := p } W' := fun {p W'} l K' =>
   ⟨lp.trans (l.mono (Nat.le_succ _) (Nat.le_refl _) fun _ => hcb), by rw [hcx]; exact K', (S1.fr.le (iO (a := cx.d + 1) (b := cx.d + 1) cx.T.pc) (Nat.lt_succ_self _) (Nat.lt_succ_self _) fun _ => hcx).le l (Nat.lt_succ_self _) (Nat.lt_succ_self _) fun _ => hcx⟩
  refine FI vs (W1.page cx.T.pc st1.p.length) tk1 (.ref (W1.h.objs.size + 1) :: vs) (.pg st1.p.length :: as) (st1.p ++ [List.replicate 6 none]) _ ok1 ?_ ⟨⟨rfl, _, _, rfl, aV _, I5 _⟩, ?_⟩ ?_
  . obtain ⟨l, h1, h2⟩ := S1.fr.frs
    exact ⟨l, by_frames.trans h1, h2.keep (Nat.le_refl _) fun L d' o _ t g => ⟨(E5 cx.T.pc g).2.trans t, o, (E5 cx.T.pc g).1⟩⟩
  . exact hA'.by.keep (lI cx.T.pc) fun a o g => E5 cx.T.pc g
  . cases hr : U 0 (st1.p ++ [List.replicate 6 none]) (.pg st1.p.length :: as) with
    | stuck => rw [hr] at H1; exact H1.elim
    | exc k p =>
     rw [hr] at H1
     intro W' tk' e l K' fl
     obtain ⟨l', S'⟩ := key l K'
     obtain ⟨B, l0, q1, q2⟩ := fl
     exact H1 W' tk' e l' S' ⟨B, l0, by_frames.symm.trans q1, q2⟩
    | ret g p =>
     rw [hr] at H1
     intro W' tk' v l K' r hg
     cases g with
     | own xs => exact H1.elim
     | val d =>
      cases d with
      | none =>
       obtain ⟨l', S'⟩ := key l K'
       cases show v = .none from Rep.inv (d := .none) r
       obtain ⟨g', t'⟩ := l.fix (aV cx.T.pc) (by rw [I5]; rfl) (by rw [I5]; rfl)
       exact ⟨rfl, z6 (cx := cx) (f := .pg st1.p.length) (st := { st1 with p := p }) H1 l' S' ⟨_, _, rfl, g', t'.trans (I5 _)⟩⟩
      | _ => exact H1.elim
     | _ => cases hg
end
end Mine.Internal
end
section
namespace Mine.Internal
structure XcAt (T : Tp) (k : Nat) (C : Addr) (bm : List Value) (newId initId : String) : Prop where
 xc : T.xc k = .ref C
 own : OwnClsQ (y0 k) C bm newId T.mg T.s.heap
 base : ExcBaseFacts "ValueError" newId initId bm
 top : bm.contains (.type "BaseException") = true
noncomputable def jZ (T : Tp) : Prop := ∀ k, k < 5 -> ∃ C bm newId initId, XcAt T k C bm newId initId
section
variable {U : Nat -> Fn} {cx : Cx} {st : St} {W : Ws} {k : Nat} {e C : Addr} {x : Str} {np cpos pos cp : Pos} {q : Str} {kk : Nat} {h' : Heap} {args : List Value}
theorem x2W {d : Nat} {l : List Env} (lf : ∀ b o d, W.t b = .loc d -> W.get b = some o -> Nf o) (F : Frs W d l) : W.h.FunFrames (sub W.h fun a => !(W.t a).isLoc) l := by
 induction l with
 | nil => trivial
 | cons env l ih =>
  obtain ⟨k, L, d', o, h1, h2, _, h3⟩ := F env (.head _)
  refine ⟨k, ⟨L, o, h1, ?_, h3, lf L o d' h2 h3⟩, ih fun e he => F e (.tail _ he)⟩
  cases g : (sub W.h fun a => !(W.t a).isLoc).get? L with
  | none => rfl
  | some o' => have := (sub_get.mp g).1; rw [h2] at this; cases this
theorem Fly.made (S : Sim cx st W) (hx : Heap.MadeExcOf W.h h' e (cx.T.xc k) args) : Fly cx k e ⟨W.t, h'⟩ := by
 obtain ⟨l, h1, h2⟩ := S.fr.frs
 refine ⟨sub W.h fun a => !(W.t a).isLoc, l, h1, fun b o g hl n => ?_, ?_⟩
 rotate_left
 . obtain ⟨t, he, _⟩ := hx.there
   refine ⟨fun b o g => hx.keeps b o (sub_get.mp g).2, ?_, (x2W S.ok.lf h2).of_keeps fun b o hb _ => ⟨o, hx.keeps b o hb, rfl⟩, _, _, he, rfl, rfl, rfl, .inl rfl⟩
   cases g : (sub W.h fun a => !(W.t a).isLoc).get? e with
   | none => rfl
   | some o => cases hx.new.symm.trans (sub_get.mp g).2
 cases g' : W.get b with
 | none => exact absurd (S.ok.dead b g') n
 | some o' => cases (hx.keeps b o' g').symm.trans g; exact sub_get.mpr ⟨by rw [show W.t b = (Ws.mk W.t h').t b from rfl, hl]; rfl, g'⟩
theorem x0O {bm : List Value} {newId initId : String} (TO : cx.T.Ok) (h0 : cx.h = false) (Co : cx.Ok cx.c) (X : XcAt cx.T k C bm newId initId) (hg : v5 cx.env.scope.names x (y0 k) = true) : SS U cx (.raise k) (.Raise (some (.Call (.Name x np) [.Constant (.str q) kk cp] [] cpos)) none pos) := fun st W S tk Q E H => by
 obtain ⟨tl, N, nm, qq, bs, hdct, sn, sub, ab, col, dd, k0, k1, k2, k3, k5, mN, hC, hN, hni, T⟩ := X.own.own.obj
 refine wpAny_Raise_call_subT (C := C) (nm := nm) (q := qq) (N := N) (bs := bs) (bm := tl) (hdct := hdct) (sn := sn) (sub := sub) (ab := ab) (col := col) (dd := dd) (k0 := k0) (k1 := k1) (k2 := k2) (k3 := k3) (k5 := k5)
  X.base (mN := mN) (T.hasType X.base.hasBase) (Co.hand h0) rfl hni (F0 TO Co S hg X.own.bound ⟨rfl, ?_⟩)
 refine wpAny_mono (kE (pos := cpos) (T := fun vs s₂ => vs.length <= sizeLine /\ (∀ b o, cx.T.s.heap.get? b = some o -> s₂.heap.get? b = some o) /\ ∀ h' e, Heap.MadeExcOf s₂.heap h' e (.ref C) vs -> E (.ref e) { s₂ with heap := h' }) rfl (pC (U := U) (cb := cx.c) (d := .str q) (beq_self_eq_true _) (fun q => nomatch q) st W S tk _ E ?_)) (fun a s₂ h₂ => ⟨h₂.1, h₂.2.1, h₂.2.2.1 _ _ hC, hN.keeps h₂.2.2.1, T.keeps h₂.2.2.1, h₂.2.2.2⟩) fun _ _ y => y
 intro W1 tk1 vs l1 S1 r1
 obtain ⟨v, rfl, _⟩ := r1.one
 refine ⟨(by decide : 1 <= sizeLine), S1.keeps, fun h' e hx => ?_⟩
 obtain ⟨l2, S2⟩ := S1.grow (b := cx.d) (cb := cx.c) hx.keeps
 exact H ⟨W1.t, h'⟩ tk1 e ((l1.mono (Nat.le_refl _) (Nat.le_succ _) id).trans l2) S2 (Fly.made S1 (by rw [X.xc]; exact hx))
end
section
variable {cx : Cx} {st : St} {W : Ws} {k tk : Nat} {e : Addr} {E : VP}
theorem Fly.lands {M : Model} {l : List Env} {L : Addr} {Q : UP} (F : Fly cx k e W) (lf : ∀ b o d, W.t b = .loc d -> W.get b = some o -> Nf o) (hA : cx.A.frames = some (cx.env :: l)) (hf : cx.env.frame = some L)
  (hQ : ∀ B h', Slt W ⟨W.t, h'⟩ -> (∀ b o, W.get b = some o -> (W.t b).isLoc = false -> W.t b ≠ .junk -> B.get? b = some o) -> Air B (cx.env :: l) e (cx.T.xc k) h' -> Q () (sh cx.T ⟨W.t, h'⟩ tk)) :
  wpAny M cx.A (noteFrame (.ref e) cx.env) (fun _ s₂ => wpAny M cx.A (setFlight (.ref e) none) Q E s₂) E (sh cx.T W tk) := by
 obtain ⟨B, l0, h1, hB, h2⟩ := F
 cases h1.symm.trans hA
 exact sX (s := sh cx.T W tk) hA hf h2 fun h' f u => hQ B h' (fT lf hB f.st u) hB f
open PySem.W (Looks)
structure XcLk (T : Tp) : Prop where
 tup : ∀ c, c <= 5 -> Looks (model T.prog T.w) T.s.heap (isInstance (T.xc c) (.type "tuple")) false
 exc : ∀ c, c <= 5 -> Looks (model T.prog T.w) T.s.heap (isExcClass (T.xc c)) true
 sub : ∀ k c, k < 5 -> c <= 6 -> Looks (model T.prog T.w) T.s.heap (isSubtype (T.xc k) (T.xc c)) (y7 k c)
theorem lH {T : Tp} {A : Around} {c : Nat} {oe : Obj} {Q : Bool -> Shared -> Prop} (X : XcLk T) (hk : k < 5) (hc : c <= 5) (kp : ∀ b o, T.s.heap.get? b = some o -> W.h.get? b = some o) (he : W.get e = some oe) (hcl : oe.cls = T.xc k) (q : Q (y7 k c) (sh T W tk)) :
  wpAny (model T.prog T.w) A (excMatches (.ref e) (T.xc c)) Q E (sh T W tk) := by
 have L0 := (X.tup c hc).keeps kp
 have L1 := (X.exc c hc).keeps kp
 have L2 := (X.sub k c hk (Nat.le_succ_of_le hc)).keeps kp
 have LT : Looks (model T.prog T.w) W.h (typeOf (.ref e)) (T.xc k) := hcl ▸ (Looks.ld he).andThen .now
 unfold excMatches
 refine wpAny_bind (L0.here ?_)
 rw [if_neg Bool.false_ne_true]
 cases hb : y7 k c <;> rw [hb] at q L2 <;> ((repeat (first | simp only [List.forIn_cons, List.forIn_nil, Bool.not_true, Bool.false_eq_true, if_false, if_true] | with_reducible refine L1.here ?_ | with_reducible refine L2.here ?_ | with_reducible refine LT.here ?_ | with_reducible refine wpAny_bind ?_ | with_reducible refine wpAny_pure ?_)); exact q)
end
noncomputable def Cx.mk' (cx : Cx) (e : Addr) : Cx := { cx with A := cx.A.mark (some (.ref e)), h := true }
section
variable {cx : Cx} {st : St} {W : Ws} {k tk : Nat} {e : Addr} {E : VP} {f : F} {v : Value} {t : Tag}
theorem RepS.mark : RepS cx W t v f ↔ RepS (cx.mk' e) W t v f := by cases f <;> exact Iff.rfl
theorem RepA.mark : RepA cx W v f ↔ RepA (cx.mk' e) W v f := by cases f <;> exact Iff.rfl
theorem Sim.mark (H : Hnd (some (.ref e)) W.z) (S : Sim cx st W) : Sim (cx.mk' e) st W :=
 ⟨S.ok, S.fr.ns, S.fr.nst, S.fr.cells, fun i f y h1 h2 h3 => let ⟨u, hu, r⟩ := S.fr.vals i f y h1 h2 h3; ⟨u, hu, RepS.mark.mp r⟩, S.fr.frs, fun _ => H⟩
theorem Sim.bare' (h0 : cx.h = false) (S : Sim (cx.mk' e) st W) : Sim cx st W :=
 ⟨S.ok, S.fr.ns, S.fr.nst, S.fr.cells, fun i f y h1 h2 h3 => let ⟨u, hu, r⟩ := S.fr.vals i f y h1 h2 h3; ⟨u, hu, RepS.mark.mpr r⟩, S.fr.frs, fun q => nomatch h0.symm.trans q⟩
theorem Sim.froze {oe : Obj} {vs : Array Value} (S : Sim cx st W) (g : W.get e = some oe) (hd : oe.data = .fields vs) (hj : W.t e = .junk) (b : Nat) (c : Bool) : Le cx.d b c W ⟨W.t.put e .fz, W.h⟩ /\ Sim cx st ⟨W.t.put e .fz, W.h⟩ := by
 have B := But.tag W e .fz
 exact ⟨B.le (.of (by rw [hj]; rfl)) (o7 rfl), S.but B (by rw [hj]; rfl) (by rw [hj]; rfl) (fun i => by rw [hj]; exact Tag.noConfusion) (fun q => nomatch g.symm.trans q) (o7 rfl)⟩
theorem x3t {B h' : Heap} {l : List Env} {cls : Value} (lf : ∀ b o d, W.t b = .loc d -> W.get b = some o -> Nf o) (hB : ∀ b o, W.get b = some o -> (W.t b).isLoc = false -> W.t b ≠ .junk -> B.get? b = some o) (s : Slt W ⟨W.t, h'⟩) (K : ∀ b, W.get b = none -> W.t b = .junk) (f : Air B l e cls h') : W.t e = .junk := by
 obtain ⟨oe, vs, ge, hc, hd, h0⟩ := f.ob
 cases g : W.get e with
 | none => exact K e g
 | some o =>
  cases hl : (W.t e).isLoc with
  | false =>
   cases q : W.t e with
   | junk => rfl
   | _ => cases (hB e o g hl (by rw [q]; exact Tag.noConfusion)).symm.trans f.no
  | true =>
   obtain ⟨d, t⟩ : ∃ d, W.t e = .loc d := by
    generalize W.t e = t at hl
    cases t with
    | loc d => exact ⟨d, rfl⟩
    | _ => cases hl
   obtain ⟨sl, g', _⟩ := s.kp e o g (by rw [t]; exact Tag.noConfusion)
   cases g'.symm.trans ge
   exact absurd hd (lf e o d t g vs)
section
variable {c tk : Nat} {Q : FP} {l : List Env} {h : CS}
theorem Post.mark {Q : FP} {E' : VP} {r : R Fl} (h0 : cx.h = false) (H : Post cx cx.d cx.c (p9 cx) W Q E (A6 r)) : Post (cx.mk' e) cx.d cx.c (p9 (cx.mk' e)) W Q E' r := by
 cases r with
 | ok fl st =>
  intro W' tk v l S r
  refine H W' tk v l (S.bare' h0) ?_
  cases fl with
  | next => exact r
  | ret f => obtain ⟨u, h1, h2, h3⟩ := r; exact ⟨u, h1, RepA.mark.mpr h2, h3⟩
 | exc k st => exact H.elim
 | stuck => exact H.elim
end
end
section
variable {U : Nat -> Fn} {cx : Cx} {st : St} {W : Ws} {k c tk : Nat} {e : Addr} {E : VP} {Q : FP} {x n : Str} {np pos hpos : Pos} {b₀ : Stmt} {suite : List Stmt} {rest : List ExceptHandler} {B h' : Heap} {l : List Env} {h : CS}
structure Landed (cx : Cx) (k : Nat) (e : Addr) (st : St) (W : Ws) (B : Heap) (l : List Env) : Prop where
 sim : Sim cx st W
 has : ∀ b o, W.get b = some o -> (W.t b).isLoc = false -> W.t b ≠ .junk -> B.get? b = some o
 fly : Air B l e (cx.T.xc k) W.h
theorem Landed.junk (L : Landed cx k e st W B l) : W.t e = .junk := x3t (h' := W.h) L.sim.ok.lf L.has ⟨rfl, fun b o g _ => ⟨o.slots, g, fun _ => rfl⟩⟩ L.sim.ok.dead L.fly
theorem Landed.go {M : Model} {A : Around} {QU : UP} (L : Landed cx k e st W B l)
  (hq : ∀ W', Le cx.d cx.d cx.c W W' -> Sim cx st W' -> RepA cx W' (.ref e) (.ex k) -> Hnd (some (.ref e)) W'.z -> QU () (sh cx.T W' tk)) : wpAny M A (setFlight (.ref e) none) QU E (sh cx.T W tk) := by
 refine xW (s := sh cx.T W tk) L.fly fun h' f u => ?_
 have s := fT L.sim.ok.lf L.has f.st u
 have S1 := s.sim L.sim
 obtain ⟨oe, vs, ge, hc, hd, h2, _⟩ := f.ob
 have hj : (Ws.mk W.t h').t e = .junk := L.junk
 obtain ⟨l2, S2⟩ := S1.froze (W := ⟨W.t, h'⟩) ge hd hj cx.d cx.c
 exact hq ⟨W.t.put e .fz, h'⟩ (s.le.trans l2) S2 ⟨e, oe, rfl, ge, Tags.put_self .., hc⟩ ⟨e, oe, vs, rfl, w5 (W := ⟨W.t.put e .fz, h'⟩) (Tags.put_self ..) ge, hd, h2⟩
theorem x2M (h0 : cx.h = false) (TO : cx.T.Ok) (C : cx.Ok cx.c) (X : XcLk cx.T) (hk : k < 5) (hc : c <= 5) (hs : y7 k c = true) (hmg : cx.T.mg (y0 c) = some (cx.T.xc c)) (hg : v5 cx.env.scope.names x (y0 c) = true) (L : Landed cx k e st W B l) (hb : y1 U (cx.mk' e) h (b₀ :: suite)) (H : Post cx cx.d cx.c (p9 cx) W Q E (A6 (ex U h st))) :
  d9 cx (handleBy (.ref e) cx.env (.ExceptHandler (some (.Name x np)) none (b₀ :: suite) hpos :: rest)) Q E (sh cx.T W tk) := by
 obtain ⟨oe, vs, ge, hcl, hd, _⟩ := L.fly.ob
 refine wpAny_handleBy_cons (codeAny_handlers_test (F0 TO C L.sim hg hmg (lH X hk hc L.sim.keeps ge hcl ?_))) (by intro q; cases q)
 rw [hs]
 refine codeAny_handlers_suite (L.go fun W' l' S' r' hh => hb st W' (S'.mark hh) tk _ _ (Post.mark h0 (E := E) (Q := Q) (H.to l')))
theorem x3b {b hs : CS} {bd : List Stmt} {hd : ExceptHandler} {hds : List ExceptHandler} (Fu : cx.Full) (hb : y1 U cx b bd) (S : Sim cx st W) (H : Post cx cx.d cx.c (p9 cx) W Q E (tryE (ex U b st) (ex U hs)))
  (hh : ∀ k e st W B l tk, Landed cx k e st W B l -> Post cx cx.d cx.c (p9 cx) W Q E (ex U hs { st with x := k }) -> d9 cx (handleBy (.ref e) cx.env (hd :: hds)) Q E (sh cx.T W tk)) :
  d9 cx (exec (.Try bd (hd :: hds) [] [] pos) cx.env) Q E (sh cx.T W tk) := by
 refine wpAny_Try_except (hb st W S tk _ _ ?_)
 cases hr : ex U b st with
 | stuck => rw [hr] at H; exact H.elim
 | ok fl st1 =>
  rw [hr] at H
  intro W' tk' v l S' r
  have H' := H W' tk' v l S' r
  cases fl with
  | next => cases show v = .next from r; exact wpAny_execs_nil H'
  | ret f => obtain ⟨u, rfl, _⟩ := r; exact H'
 | exc k st1 =>
  rw [hr] at H
  intro W' tk' e l S' fl
  obtain ⟨ll, hA⟩ := Fu.fr
  refine Fly.lands fl S'.ok.lf hA Fu.fm fun B h' s hB f => hh k e st1 ⟨W'.t, h'⟩ B _ tk' ⟨s.sim S', fun b o g hl n => ?_, f⟩ (Post.to (l.trans s.le) H)
  cases g' : W'.get b with
  | none => exact absurd (S'.ok.dead b g') n
  | some o' => cases (s.at n hl g').1.symm.trans g; exact hB b o g' hl n
end
section
variable {U : Nat -> Fn} {cx : Cx} {k c tk i : Nat} {x n : Str} {np pos : Pos} {bd : List Stmt} {b h : CS}
theorem x4a {δ γ : Type} {Rl : Ws -> γ -> δ -> Prop} {W : Ws} {bb : Nat} {cb : Bool} {Q : γ -> Shared -> Prop} {E : VP} {t : Bool} {r : R δ} (H : Post cx bb cb Rl W Q E (if t then r else .stuck)) : t = true /\ Post cx bb cb Rl W Q E r := by
 cases t with
 | true => exact ⟨rfl, H⟩
 | false => exact H.elim
noncomputable def U8 (U : Nat -> Fn) (cx : Cx) : CS -> List ExceptHandler -> Prop
 | .hd c i h r, d :: ds => (∃ x np n b0 su hp, d = .ExceptHandler (some (.Name x np)) n (b0 :: su) hp /\ c <= 5 /\ cx.T.mg (y0 c) = some (cx.T.xc c) /\ v5 cx.env.scope.names x (y0 c) = true /\ (i = none /\ n = none) /\ ∀ e, y1 U (cx.mk' e) h (b0 :: su)) /\ U8 U cx r ds
 | .hnil, [] => True
 | _, _ => False
theorem wG {st : St} (hk : ¬ st.x < 5) : ∀ (hs : CS) (hds : List ExceptHandler), U8 U cx hs hds -> ex U hs st = .stuck := fun hs => by
 induction hs with
 | hd c i h r ihh ihr =>
  intro hds H
  cases hds with
  | nil => exact H.elim
  | cons d ds =>
   show (if decide (st.x < 5) && y7 st.x c then _ else ex U r st) = _
   rw [dff hk]
   exact ihr ds H.2
 | hnil => exact fun _ _ => rfl
 | _ => exact fun _ H => H.elim
theorem kI {c : Nat} {i : Option Nat} {h r : CS} {st : St} : ex U (.hd c i h r) st = if decide (st.x < 5) && y7 st.x c then (match i with
   | none => A6 (ex U h st)
   | some i => if i < st.v.length then ((A6 (ex U h { st with v := st.v.set i (some (.ex st.x)) })).bind fun fl st => .ok fl { st with v := [] }) else .stuck) else ex U r st := rfl
theorem zJ {e : Addr} {Q : FP} {E : VP} {B : Heap} {l : List Env} {st : St} {W : Ws} (h0 : cx.h = false) (TO : cx.T.Ok) (C : cx.Ok cx.c) (Fu : cx.Full) (X : XcLk cx.T) (hk : k < 5) (L : Landed cx k e st W B l) : ∀ (hs : CS) (hds : List ExceptHandler), U8 U cx hs hds -> ∀ tk, Post cx cx.d cx.c (p9 cx) W Q E (ex U hs { st with x := k }) -> d9 cx (handleBy (.ref e) cx.env hds) Q E (sh cx.T W tk) := fun hs => by
 induction hs with
 | hd c i h r ihh ihr =>
  intro hds HO tk H
  cases hds with
  | nil => exact HO.elim
  | cons d ds =>
   obtain ⟨⟨x, np, n, b0, su, hp, rfl, hc, hmg, hg, hn, hb⟩, HO⟩ := HO
   cases hs : y7 k c with
   | true =>
    obtain ⟨_, H⟩ := x4a (t := decide (k < 5) && y7 k c) (r := match i with
     | none => A6 (ex U h { st with x := k })
     | some i => if i < st.v.length then ((A6 (ex U h { st with x := k, v := st.v.set i (some (.ex k)) })).bind fun fl st => .ok fl { st with v := [] }) else .stuck) (by
      have H := H
      rw [kI] at H
      dsimp only at H
      rw [dtt hk, hs] at H ⊢
      exact H)
    obtain ⟨rfl, rfl⟩ := hn
    exact x2M h0 (st := { st with x := k }) TO C X hk hc hs hmg hg ⟨⟨L.sim.ok, L.sim.fr⟩, L.has, L.fly⟩ (hb e) H
   | false =>
    have H' : Post cx cx.d cx.c (p9 cx) W Q E (ex U r { st with x := k }) := by
     have H := H
     rw [kI] at H
     dsimp only at H
     rw [hs, Bool.and_false, if_neg Bool.false_ne_true] at H
     exact H
    obtain ⟨oe, vs, ge, hcl, hd, _⟩ := L.fly.ob
    refine wpAny_handleBy_cons (codeAny_handlers_test (F0 TO C L.sim hg hmg (lH X hk hc L.sim.keeps ge hcl ?_))) (by intro q; cases q)
    rw [hs]
    exact ihr ds HO _ H'
 | hnil =>
  intro hds HO tk H
  exact H.elim
 | _ => exact fun _ HO => HO.elim
theorem zD {hs : CS} {d : ExceptHandler} {ds : List ExceptHandler} (h0 : cx.h = false) (TO : cx.T.Ok) (C : cx.Ok cx.c) (Fu : cx.Full) (X : XcLk cx.T) (hb : y1 U cx b bd) (HO : U8 U cx hs (d :: ds)) : SS U cx (.try_ b hs) (.Try bd (d :: ds) [] [] pos) := fun st W S tk Q E H =>
 x3b Fu hb S H fun k e st W B l tk L H => by
  by_cases hk : k < 5
  . exact zJ h0 TO C Fu X hk L hs (d :: ds) HO tk H
  . rw [wG (st := { st with x := k }) hk hs _ HO] at H; exact H.elim
end
end Mine.Internal
end
section
namespace Mine.Internal
open PySem.W (findIn typeIn)
structure Base (U : Nat -> Fn) (ft : Ft) (T : Tp) (A : Around) : Prop where
 TO : T.Ok
 PC : PgCls T
 XC : jZ T
 XL : XcLk T
 XI : ∀ c, c <= 5 -> T.mg (y0 c) = some (T.xc c)
 fn : ∀ k y, ft k = some y -> y.1 < 2 -> ∃ fa, T.mg y.2 = some (.ref fa) /\ ∀ cx : Cx, cx.T = T -> cx.A = A -> FnIs cx (y.1 == 1) fa (U k)
 mt : ∀ k y, ft k = some y -> y.1 = 2 -> (∀ j, j < 6 -> y.2 ≠ m9 j) /\ ∃ fa, findIn T.pk (.ref T.pc) y.2 = some (some (.ref fa)) /\ typeIn T.pk (.ref fa) = some (.type "function") /\ ∀ cx : Cx, cx.T = T -> cx.A = A -> FnIs cx true fa (U k)
 nw : ∀ y, ft 0 = some y -> y.1 = 3 -> ∃ fa, findIn T.pk (.ref T.pc) "__init__" = some (some (.ref fa)) /\ typeIn T.pk (.ref fa) = some (.type "function") /\ ∀ (cx : Cx) vs, cx.T = T -> cx.A = A -> P8 (cx.by vs) true fa (U 0)
structure Inn (U : Nat -> Fn) (ft : Ft) (cx : Cx) (q : Bool) : Prop where
 b : Base U ft cx.T cx.A
 ok : cx.Ok cx.c
 fu : q = true -> cx.Full
 h : (ft 1).isSome = true -> cx.h = false
section
variable {U : Nat -> Fn} {ft : Ft} {cx : Cx} {cb q : Bool} {es : List Expr} {e : Expr} {c : CE}
theorem Cx.Ok.at (C : cx.Ok cx.c) (h : cb = true -> cx.c = true) : cx.Ok cb := ⟨h, C.kind, C.glob, C.bltn, C.hand, C.units, C.depth⟩
theorem pE {e : Expr} {env : Env} (h : m7 e = true) (v : Value) : foldedSetIterable e env v = pure v := by cases e <;> first | rfl | cases h
theorem x2s {e : Expr} {y : Str} {env : Env} {m : Sem Value} (h : kO e = true) : attributeBase e y env m = m := by
 rcases Bool.or_eq_true_iff.mp h with h | h
 . obtain ⟨x, h1⟩ := K6 h
   obtain ⟨p, rfl⟩ := v9 h1
   rfl
 . obtain ⟨x, h1⟩ := K6 h
   obtain ⟨p, rfl⟩ := I4 h1
   rfl
noncomputable def GE (U : Nat -> Fn) (cx : Cx) (c : CE) (es : List Expr) : Prop := ∀ cb, (cb = true -> cx.c = true) -> SL U cx cb c es /\ ∀ e, es = [e] -> tb c e = true -> SB U cx cb c e
theorem GE.gen (h : ∀ cb, (cb = true -> cx.c = true) -> SL U cx cb c [e]) (ht : tb c e = true -> eJ e = true) : GE U cx c [e] := fun cb hb => ⟨h cb hb, fun e' q t => by cases q; exact mX (ht t) (h cb hb)⟩
theorem Q7 {a b : Bool} (h : (a || !b) = true) : b = true -> a = true := fun q => by rw [q] at h; cases a <;> first | rfl | cases h
theorem vG {es : List Expr} {f : Expr -> Bool} (h : onS (one es) f = true) : ∃ e, es = [e] /\ f e = true := let ⟨e, h1, h2⟩ := f9 h; ⟨e, n0 h1, h2⟩
theorem jY {e : Expr} {v : Expr × CmpOp × Expr} (h : cF e = some v) : ∃ p, e = .Compare v.1 [v.2.1] [v.2.2] p /\ m7 v.2.2 = true := by
 obtain ⟨w, h1, h⟩ := c0 h
 obtain ⟨o, h2, h⟩ := c0 h
 obtain ⟨r, h3, h⟩ := c0 h
 obtain ⟨h4, rfl⟩ := i5 h
 obtain ⟨p, rfl⟩ := oN h1
 exact ⟨p, by rw [n0 h2, n0 h3], h4⟩
theorem x0S {scope : Scope} {x : Str} (h : iJ scope cx.env.scope.names x = true) (hm : ((maskN x cx.nm).all fun y => (u5 scope.names cx.env.scope.names).lookup y != some .local) = true) (hz : ((u5 scope.names cx.env.scope.names).lookup ("" : Str) == none) = true) : CompOk cx scope x := by
 obtain ⟨h, h3⟩ := and2 h
 obtain ⟨h1, h2⟩ := and2 h
 have h2 := fun y hy => and2 (List.all_eq_true.mp h2 y hy)
 refine ⟨eq_of_beq h1, fun y hy q => ?_, fun y hy q => ?_, fun y hy q => ?_, eq_of_beq h3, fun y hy q => ?_, eq_of_beq hz⟩
 . have := (and2 (h2 y hy).1).1; rw [q] at this; cases this
 . have := (and2 (h2 y hy).1).2; rw [q] at this; exact eq_of_beq this
 . have := (h2 y hy).2; rw [q] at this; exact eq_of_beq (and2 this).2
 . have := List.all_eq_true.mp hm y hy; rw [q] at this; cases this
theorem x0C {kd : Nat} {s : CE} {it : Expr} (I : Inn U ft cx q) (hb : cb = true -> cx.c = true) (h1 : (kd == 1 || (ft 1).isSome) = true) (h2 : (kd != 2) = true) (hs : onS (J5 cx.env.scope.names kd it) (mc ft s cx.c q cx.nm cx.env.scope.names) = true)
  (ih : ∀ es, mc ft s cx.c q cx.nm cx.env.scope.names es = true -> SL U cx cb s es) : SI U cx cb kd s it := by
 obtain ⟨l, h3, h4⟩ := f9 hs
 cases kd with
 | zero => cases h3; exact mK (I.ok.hand (I.h (by simpa using h1))) (ih _ h4)
 | succ kd =>
  cases kd with
  | zero => exact qW I.b.TO (I.ok.at hb) h3 (ih _ h4)
  | succ kd =>
   cases kd with
   | zero => cases h2
   | succ kd => exact nos h3
theorem x4Q {g : Comprehension} {t : Expr} (h1 : g.target = t) (h2 : (g.is_async == 0) = true) : g = ⟨t, g.iter, g.ifs, 0⟩ := by
 cases g
 cases h1
 cases eq_of_beq h2
 rfl
theorem x2Y {cond : CE} {ifs : List Expr} (htc : tc cond ifs = true) (hc : SL U cx cb cond ifs /\ ∀ e, ifs = [e] -> tb cond e = true -> SB U cx cb cond e) : iY U cx cb cond ifs := by
 unfold tc at htc
 cases hz : cond.ctorIdx == 0 with
 | true =>
  rw [hz] at htc
  exact .inl ⟨eq_of_beq hz, u7 htc⟩
 | false =>
  rw [hz] at htc
  obtain ⟨e', hf', ht⟩ := vG htc
  exact .inr ⟨by simpa using hz, e', hf', hc.2 e' hf' ht⟩
noncomputable def x1P (ft : Ft) (n kd : Nat) (s elt cond : CE) (c q : Bool) (nm : List Str) (k0 : Kd) (el : Expr) (scope : Scope) (g : Comprehension) (x : Str) : Bool :=
 g.is_async == 0 && q && n == nm.length && iJ scope k0 x && kd != 2 && (kd == 1 || (ft 1).isSome) && tc cond g.ifs && onS (J5 k0 kd g.iter) (mc ft s c q nm k0) && m7 g.iter && mc ft cond c false (maskN x nm ++ [x]) (u5 scope.names k0) g.ifs && mc ft elt c false (maskN x nm ++ [x]) (u5 scope.names k0) [el] &&
   ((maskN x nm).all fun y => (u5 scope.names k0).lookup y != some .local) && (u5 scope.names k0).lookup ("" : Str) == none
theorem tB {a b c d e f g h i j k l m : Bool} (q : (a && b && c && d && e && f && g && h && i && j && k && l && m) = true) : (a = true /\ b = true /\ c = true /\ d = true) /\ (e = true /\ f = true /\ g = true /\ h = true) /\ i = true /\ j = true /\ k = true /\ l = true /\ m = true := by
 simpa [and_assoc] using q
inductive CpOk (U : Nat -> Fn) (cx : Cx) (n kd : Nat) (s elt cond : CE) (e : Expr) (q : Bool) : Prop
 | mk (el : Expr) (x : Str) (px : Pos) (it : Expr) (ifs : List Expr) (scope : Scope) (p : Pos) (h0 : e = .ListComp el [⟨.Name x px, it, ifs, 0⟩] scope p) (hq : q = true) (CO : CompOk cx scope x) (hn : n = cx.nm.length) (hs : ∀ v, foldedSetIterable it cx.env v = pure v)
   (hh : ∀ cb, (cb = true -> cx.c = true) -> (g8 (.comp n kd s elt cond) = true -> cb = true) -> InOk U cx cb scope x elt cond el ifs /\ SI U cx cb kd s it /\ (g8 s = true -> cb = true))
noncomputable abbrev iW (U : Nat -> Fn) (ft : Ft) (s : CE) : Prop := ∀ (cx : Cx) (q : Bool) (es : List Expr), Inn U ft cx q -> mc ft s cx.c q cx.nm cx.env.scope.names es = true -> GE U cx s es
theorem eM {n kd : Nat} {s elt cond : CE} (ihs : iW U ft s) (ihe : iW U ft elt) (ihc : iW U ft cond) (I : Inn U ft cx q)
  (h : (onS (asComp e) fun v => onS (one v.2.1) fun g => onS (asName g.target) fun x => x1P ft n kd s elt cond cx.c q cx.nm cx.env.scope.names v.1 v.2.2 g x) = true) : CpOk U cx n kd s elt cond e q := by
 obtain ⟨v, h1, h⟩ := f9 h
 obtain ⟨g, h2, h⟩ := f9 h
 obtain ⟨x, h3, h⟩ := f9 h
 obtain ⟨⟨has, hq, hn, hco⟩, ⟨hk2, hk1, htc, hsrc⟩, hpl, hcond, helt, hmask, hnil⟩ := tB h
 obtain ⟨p, h4⟩ := oV h1
 obtain ⟨px, h5⟩ := v9 h3
 have CO := x0S hco hmask hnil
 have I' : ∀ Cc, Inn U ft (cx.inner v.2.2 x Cc) false := fun Cc => ⟨I.b, wH I.ok CO, nofun, I.h⟩
 have nm := fun Cc => yT (scope := v.2.2) (x := x) (Cc := Cc) I.ok
 have ef : ∀ cb, (g8 (.comp n kd s elt cond) = true -> cb = true) -> (g8 s || g8 elt || g8 cond) = true -> cb = true := fun _ h => h
 exact ⟨v.1, x, px, g.iter, g.ifs, v.2.2, p, h4.trans (congrArg (fun l => Expr.ListComp v.1 l v.2.2 p) ((n0 h2).trans (congrArg (fun z => [z]) (x4Q h5 has)))), hq, CO, eq_of_beq hn, pE hpl, fun cb hb hf => ⟨⟨fun Cc => (ihe _ false _ (I' Cc) ((nm Cc).symm ▸ helt) cb hb).1, fun Cc => x2Y htc (ihc _ false _ (I' Cc) ((nm Cc).symm ▸ hcond) cb hb), fun z => ef cb hf (by rw [z, Bool.or_true]; rfl), fun z => ef cb hf (by rw [z, Bool.or_true])⟩, x0C I hb hk1 hk2 hsrc fun es h => (ihs cx q es I h cb hb).1, fun z => ef cb hf (by rw [z]; rfl)⟩⟩
theorem GE.one {f : Expr -> Bool} (h : onS (one es) f = true) (k : ∀ e, f e = true -> GE U cx c [e]) : GE U cx c es := let ⟨e, z, g⟩ := vG h; z ▸ k e g
theorem GE.eq {e' : Expr} (h : e = e') (k : GE U cx c [e']) : GE U cx c [e] := h ▸ k
theorem GE.cmp {l r : Expr} {o : CmpOp} {p : Pos} (s : ∀ cb, (cb = true -> cx.c = true) -> SC U cx cb c l o r) (hx : m7 r = true) : GE U cx c [.Compare l [o] [r] p] := fun cb hb => ⟨(s cb hb).sl hx, fun e' q t => by cases q; exact (s cb hb).sb hx⟩
theorem fN {l r r' : Expr} {o o' : CmpOp} {p : Pos} (h : e = .Compare l [o] [r] p) (ho : o = o') (hr : r = r') : e = .Compare l [o'] [r'] p := by rw [h, ho, hr]
theorem sN {O : BoolOp} {a b cc : CE} {v : BoolOp × List Expr × Pos} {w : Expr × Expr × List Expr} (hev : ∀ st, ev U cc st = (toB (ev U a st)).bind fun t st => dI O t (ev U b) st) (hf : ∀ cb, (g8 cc = true -> cb = true) -> (g8 a = true -> cb = true) /\ (g8 b = true -> cb = true))
  (ht : ∀ x y r p, tb cc (.BoolOp O (x :: y :: r) p) = true -> tb a x = true /\ tb b (restB O p y r) = true) (h0 : e = .BoolOp v.1 v.2.1 v.2.2) (h1 : v.1 = O) (h2 : v.2.1 = w.1 :: w.2.1 :: w.2.2) (ga : GE U cx a [w.1]) (gb : GE U cx b [restB O v.2.2 w.2.1 w.2.2]) : GE U cx cc [e] := by
 rw [h0, h1, h2]
 exact fun cb hb => ⟨x4Y hev (hf cb) (ga cb hb).1 (gb cb hb).1, fun e' q t => by cases q; exact x4M hev (hf cb) ((ga cb hb).2 _ rfl (ht _ _ _ _ t).1) ((gb cb hb).2 _ rfl (ht _ _ _ _ t).2)⟩
theorem x2k {o : Pk} {p : Pl} {a : CE} {l : List Expr} (I : Inn U ft cx q) (h2 : (!i0 p || !g8 a) = true) (h4 : jM o p = true) (h5 : F4 cx.nm cx.env.scope.names p o e = some l) (ha : GE U cx a l) : GE U cx (.peek o p a) [e] := by
 have hfe : i0 p = true -> g8 a = false := fun z => by rw [z] at h2; simpa using h2
 refine .gen (fun cb hb => ?_) id
 cases o with
 | len => exact x5h I.b.TO (I.ok.at hb) (fun _ => I.b.PC) h5 (ha cb hb).1
 | copy => exact xQ I.b.TO (I.ok.at hb) (fun _ => I.b.PC) h5 (ha cb hb).1
 | idx => exact x0T (I.ok.at hb) (fun _ => I.b.PC) h5 hfe fun c' hc' => (ha c' hc').1
 | key => exact x0a (I.ok.at hb) (fun _ => I.b.PC) h5 hfe fun c' hc' => (ha c' hc').1
 | pgx => exact yP (I.ok.at hb) (fun _ => I.b.PC) h5 hfe fun c' hc' => (ha c' hc').1
 | pop => exact x7a (I.ok.at hb) (fun _ => I.b.PC) h5 (by simpa [jM] using h4) (ha cb hb).1
theorem x2C {pure : Bool} {k : Nat} {a : CE} {y : Nat × Str} {l : List Expr} (I : Inn U ft cx q) (h1 : ft k = some y) (h2 : y.1 = if pure then 0 else 1) (h3 : (cx.c || pure) = true) (h5 : s8 cx.env.scope.names y.2 e = some l) (ha : GE U cx a l) : GE U cx (.call pure k a) [e] := by
 obtain ⟨fa, hm, FI⟩ := I.b.fn k y h1 (by rw [h2]; cases pure <;> decide)
 have e1 : (y.1 == 1) = !pure := by rw [h2]; cases pure <;> rfl
 refine .gen (fun cb hb => yG I.b.TO (I.ok.at hb) hm (e1 ▸ FI cx rfl rfl) (fun z => ?_) h5 (ha cb hb).1) id
 rw [z] at h3; simpa using h3
theorem sE (c : CE) : ∀ (cx : Cx) (q : Bool) (es : List Expr), Inn U ft cx q -> mc ft c cx.c q cx.nm cx.env.scope.names es = true -> GE U cx c es := by
 induction c with
 | nil =>
  intro cx q es I h cb hb
  cases es with
  | nil => exact ⟨x1K, fun e q => nomatch q⟩
  | cons _ _ => cases h
 | cons a b iha ihb =>
  intro cx q es I h cb hb
  cases es with
  | nil => cases h
  | cons e es =>
   have hl := zU (I.ok.at hb) (iha cx q [e] I (and2 h).1 cb hb).1 (ihb cx q es I (and2 h).2 cb hb).1
   exact ⟨hl, fun e' q t => by cases q; exact mX t hl⟩
 | lit d => exact fun cx q es I h => .one h fun e h => let ⟨k, h1, h2⟩ := f9 h; let ⟨_, _, h3⟩ := Y7 h1; .eq h3 (.gen (fun cb hb => pC h2) id)
 | get p => exact fun cx q es I h => .one h fun e h => .gen (fun cb hb => x0H (I.ok.at hb) (fun _ => I.b.PC) (and2 h).1) id
 | mv p => exact fun cx q es I h => .one h fun e h => .gen (fun cb hb => x3S (I.ok.at hb) (and2 h).1 (by simpa using (and2 h).2)) id
 | lend i => exact fun cx q es I h => .one h fun e h => .gen (fun cb hb => x5I (I.ok.at hb) h) id
 | glob k => exact fun cx q es I h => .one h fun e h => let ⟨x, h1, h3⟩ := f9 h; let ⟨y, h2, h4⟩ := f9 h3; let ⟨_, h5⟩ := v9 h1; .eq h5 (.gen (fun cb hb => x2u I.b.TO (I.ok.at hb) h2 h4) id)
 | op o a iha => exact fun cx q es I h => .one h fun e h => let ⟨h0, h⟩ := and2 h; let ⟨l, h1, h⟩ := f9 h; .gen (fun cb hb => x6H (fun z => I.ok.hand (I.h (by subst z; exact h0))) I.b.TO (I.ok.at hb) h1 (iha cx q l I h cb hb).1) id
 | sm o r a ihr iha => exact fun cx q es I h => .one h fun e h => let ⟨l, h1, h⟩ := f9 h; .gen (fun cb hb => yX h1 (ihr cx q _ I (and2 h).1 cb hb).1 (iha cx q _ I (and2 h).2 cb hb).1) id
 | peek o p a iha => exact fun cx q es I h => .one h fun e h => let ⟨h, h3⟩ := and2 h; let ⟨l, h5, h6⟩ := f9 h3; x2k I (and2 (and2 h).1).2 (and2 h).2 h5 (iha cx q l I h6)
 | cmp op a iha => exact fun cx q es I h => .one h fun e h => let ⟨v, h1, h⟩ := f9 h; let ⟨p, h4, hx⟩ := jY h1; .eq (fN h4 (eq_of_beq (and2 h).1).symm rfl) (.cmp (fun cb hb => x3F (I.ok.at hb) (iha cx q _ I (and2 h).2 cb hb).1) hx)
 | cmpNil ne p => exact fun cx q es I h => .one h fun e h => let ⟨v, h1, h⟩ := f9 (and2 h).2; let ⟨h, h4⟩ := and2 h; let ⟨p', h0, hx⟩ := jY h1; let ⟨l', h5, h6⟩ := f9 h4; let ⟨p2, h7⟩ := rM h5; GE.eq (fN h0 (eq_of_beq (and2 h).1) (h7.trans (congrArg (Expr.List · p2) (u7 h6)))) (.cmp (fun cb hb => x5C (I.ok.at hb) (fun _ => I.b.PC) (and2 h).2) rfl)
 | inOpen a iha => exact fun cx q es I h => .one h fun e h => let ⟨v, h1, h⟩ := f9 h; let ⟨h, h4⟩ := and2 h; let ⟨p', h0, hx⟩ := jY h1; let ⟨x, h5, h6⟩ := f9 (and2 h).2; let ⟨p2, h7⟩ := v9 h5; GE.eq (fN h0 (eq_of_beq (and2 h).1) h7) (.cmp (fun cb hb => x3B I.b.TO (I.ok.at hb) (iha cx q _ I h4 cb hb).1 h6) rfl)
 | chain ab o1 o2 d iha ihd =>
  intro cx q es I h
  refine .one h fun e h => ?_
  obtain ⟨v, h1, h⟩ := f9 h
  obtain ⟨o, h2, h⟩ := f9 h
  obtain ⟨r, h3, h⟩ := f9 h
  obtain ⟨h, h8⟩ := and2 h
  obtain ⟨h, h7⟩ := and2 h
  obtain ⟨h, h6⟩ := and2 h
  obtain ⟨p, h0⟩ := oN h1
  rw [h0, D2 h2, D2 h3, <- eq_of_beq (and2 h).1, <- eq_of_beq (and2 h).2]
  exact fun cb hb => ⟨x2F (I.ok.at hb) (iha cx q _ I h7 cb hb).1 (ihd cx q _ I h8 cb hb).1 h6, fun e' q' t => by cases q'; exact x3N (I.ok.at hb) (iha cx q _ I h7 cb hb).1 (ihd cx q _ I h8 cb hb).1 h6⟩
 | not a iha => exact fun cx q es I h => .one h fun e h => let ⟨v, h1, h⟩ := f9 h; let ⟨p, h3⟩ := hY h1; GE.eq (h3.trans (congrArg (Expr.UnaryOp · v.2 p) (eq_of_beq (and2 h).1))) fun cb hb => have s := iha cx q _ I (and2 h).2 cb hb; ⟨x3h s.1, fun e' q t => by cases q; exact x2w (s.2 _ rfl t)⟩
 | and a b iha ihb => exact fun cx q es I h => .one h fun e h => let ⟨v, h1, h⟩ := f9 h; let ⟨w, h2, h⟩ := f9 h; let ⟨h, h4⟩ := and2 h; sN (O := .And) (fun st => by show R.bind _ _ = _; congr 1; funext t st; cases t <;> rfl) (fun cb f => ⟨A5 f, I6 f⟩) (fun x y r p t => and2 t) (oF h1) (eq_of_beq (and2 h).1) (qO h2) (iha cx q _ I (and2 h).2) (ihb cx q _ I h4)
 | or a b iha ihb => exact fun cx q es I h => .one h fun e h => let ⟨v, h1, h⟩ := f9 h; let ⟨w, h2, h⟩ := f9 h; let ⟨h, h4⟩ := and2 h; sN (O := .Or) (fun st => by show R.bind _ _ = _; congr 1; funext t st; cases t <;> rfl) (fun cb f => ⟨A5 f, I6 f⟩) (fun x y r p t => and2 t) (oF h1) (eq_of_beq (and2 h).1) (qO h2) (iha cx q _ I (and2 h).2) (ihb cx q _ I h4)
 | call pure k a iha => exact fun cx q es I h => .one h fun e h => let ⟨y, h1, h⟩ := f9 h; let ⟨h, h4⟩ := and2 h; let ⟨l, h5, h6⟩ := f9 h4; x2C I h1 (eq_of_beq (and2 h).1) (and2 h).2 h5 (iha cx q l I h6)
 | callP k p =>
  intro cx q es I h
  refine .one h fun e h => ?_
  obtain ⟨y, h1, h⟩ := f9 (and2 h).2
  obtain ⟨h2, h⟩ := and2 h
  obtain ⟨l, h5, h6⟩ := f9 h
  obtain ⟨x, h7, h8⟩ := f9 h6
  have hy : y.1 = 0 := eq_of_beq h2
  obtain ⟨fa, hm, FI⟩ := I.b.fn k y h1 (by rw [hy]; decide)
  have FI := FI cx rfl rfl
  rw [hy] at FI
  exact .gen (fun cb hb => x5l I.b.TO (I.ok.at hb) (fun _ => I.b.PC) hm FI (by rw [h5, n0 h7]) h8) id
 | meth k r a ihr iha => exact fun cx q es I h => .one h fun e h => let ⟨y, h1, h⟩ := f9 (and2 h).2; let ⟨h2, h⟩ := and2 h; let ⟨v, h5, h⟩ := f9 h; let ⟨h, h9⟩ := and2 h; let ⟨h, h8⟩ := and2 h; let ⟨hn, fa, hf, ht, FI⟩ := I.b.mt k y h1 (eq_of_beq h2); GE.gen (fun cb hb => x2h I.b.TO (I.ok.at hb) I.b.PC hf ht hn (FI cx rfl rfl) h5 (k6 h9) (x2s (and2 h).1) (ihr cx q _ I (and2 h).2 cb hb).1 (iha cx q _ I h8 cb hb).1) id
 | new a iha => exact fun cx q es I h => .one h fun e h => let ⟨h, h2⟩ := and2 h; let ⟨y, h3, h4⟩ := f9 (and2 h).2; let ⟨l, h5, h6⟩ := f9 h2; let ⟨fa, hf, ht, FI⟩ := I.b.nw y h3 (eq_of_beq h4); GE.gen (fun cb hb => wL I.b.TO (I.ok.at hb) I.b.PC hf ht (fun vs => FI cx vs rfl rfl) h5 (iha cx q l I h6 cb hb).1) id
 | comp n kd s elt cond ihs ihe ihc => exact fun cx q es I h => .one h fun e h => let ⟨el, x, px, it, ifs, scope, p, h0, hq, CO, hn, hpl, hh⟩ := eM ihs ihe ihc I h; GE.eq h0 (.gen (fun cb hb hf => let ⟨IO, hi, hs⟩ := hh cb hb hf; uM (I.ok.at hb) (I.fu hq) CO IO hn hi hpl hs hf) id)
 | isEx i k => intro cx q es I h; cases h
end
end Mine.Internal
end
section
namespace Mine.Internal
noncomputable def fZ (t : Stmt) : Option (Option Expr) := if h : t.ctorIdx = 3 then Stmt.Return.elim (motive_2 := fun _ => Option (Option Expr)) t h (fun x p => some x) else none
theorem xR {t : Stmt} {v : Option Expr} (h : fZ t = some v) : ∃ p, t = .Return v p := by
 by_cases q : t.ctorIdx = 3
 . exact Stmt.Return.elim (motive_2 := fun t => fZ t = some v -> ∃ p, t = .Return v p) t q (fun x p h => by cases h; exact ⟨p, rfl⟩) h
 . exact nos ((dif_neg q).symm.trans h)
noncomputable def fG (t : Stmt) : Option (List Expr × Expr × Pos) := if h : t.ctorIdx = 5 then Stmt.Assign.elim (motive_2 := fun _ => Option (List Expr × Expr × Pos)) t h (fun ts x p => some (ts, x, p)) else none
theorem x6B {t : Stmt} {v : List Expr × Expr × Pos} (h : fG t = some v) : t = .Assign v.1 v.2.1 v.2.2 := by
 by_cases q : t.ctorIdx = 5
 . exact Stmt.Assign.elim (motive_2 := fun t => fG t = some v -> t = .Assign v.1 v.2.1 v.2.2) t q (fun ts x p h => by cases h; exact rfl) h
 . exact nos ((dif_neg q).symm.trans h)
noncomputable def dJ (t : Stmt) : Option (Expr × Expr × List Stmt × List Stmt) := if h : t.ctorIdx = 9 then Stmt.For.elim (motive_2 := fun _ => Option (Expr × Expr × List Stmt × List Stmt)) t h (fun t i b o p => some (t, i, b, o)) else none
theorem x4v {t : Stmt} {v : Expr × Expr × List Stmt × List Stmt} (h : dJ t = some v) : ∃ p, t = .For v.1 v.2.1 v.2.2.1 v.2.2.2 p := by
 by_cases q : t.ctorIdx = 9
 . exact Stmt.For.elim (motive_2 := fun t => dJ t = some v -> ∃ p, t = .For v.1 v.2.1 v.2.2.1 v.2.2.2 p) t q (fun t i b o p h => by cases h; exact ⟨p, rfl⟩) h
 . exact nos ((dif_neg q).symm.trans h)
noncomputable def hV (t : Stmt) : Option (Expr × List Stmt × List Stmt) := if h : t.ctorIdx = 12 then Stmt.If.elim (motive_2 := fun _ => Option (Expr × List Stmt × List Stmt)) t h (fun t b o p => some (t, b, o)) else none
theorem x1R {t : Stmt} {v : Expr × List Stmt × List Stmt} (h : hV t = some v) : ∃ p, t = .If v.1 v.2.1 v.2.2 p := by
 by_cases q : t.ctorIdx = 12
 . exact Stmt.If.elim (motive_2 := fun t => hV t = some v -> ∃ p, t = .If v.1 v.2.1 v.2.2 p) t q (fun t b o p h => by cases h; exact ⟨p, rfl⟩) h
 . exact nos ((dif_neg q).symm.trans h)
noncomputable def jF (t : Stmt) : Option (Option Expr × Option Expr) := if h : t.ctorIdx = 16 then Stmt.Raise.elim (motive_2 := fun _ => Option (Option Expr × Option Expr)) t h (fun x y p => some (x, y)) else none
theorem x0g {t : Stmt} {v : Option Expr × Option Expr} (h : jF t = some v) : ∃ p, t = .Raise v.1 v.2 p := by
 by_cases q : t.ctorIdx = 16
 . exact Stmt.Raise.elim (motive_2 := fun t => jF t = some v -> ∃ p, t = .Raise v.1 v.2 p) t q (fun x y p h => by cases h; exact ⟨p, rfl⟩) h
 . exact nos ((dif_neg q).symm.trans h)
noncomputable def Y6 (t : Stmt) : Option (List Stmt × List ExceptHandler × List Stmt × List Stmt) := if h : t.ctorIdx = 17 then Stmt.Try.elim (motive_2 := fun _ => Option (List Stmt × List ExceptHandler × List Stmt × List Stmt)) t h (fun b h o f p => some (b, h, o, f)) else none
theorem x3z {t : Stmt} {v : List Stmt × List ExceptHandler × List Stmt × List Stmt} (h : Y6 t = some v) : ∃ p, t = .Try v.1 v.2.1 v.2.2.1 v.2.2.2 p := by
 by_cases q : t.ctorIdx = 17
 . exact Stmt.Try.elim (motive_2 := fun t => Y6 t = some v -> ∃ p, t = .Try v.1 v.2.1 v.2.2.1 v.2.2.2 p) t q (fun b h o f p h => by cases h; exact ⟨p, rfl⟩) h
 . exact nos ((dif_neg q).symm.trans h)
noncomputable def dW (t : Stmt) : Option (Expr) := if h : t.ctorIdx = 24 then Stmt.Expr.elim (motive_2 := fun _ => Option (Expr)) t h (fun x p => some x) else none
theorem x1J {t : Stmt} {v : Expr} (h : dW t = some v) : ∃ p, t = .Expr v p := by
 by_cases q : t.ctorIdx = 24
 . exact Stmt.Expr.elim (motive_2 := fun t => dW t = some v -> ∃ p, t = .Expr v p) t q (fun x p h => by cases h; exact ⟨p, rfl⟩) h
 . exact nos ((dif_neg q).symm.trans h)
noncomputable def z4 (c : CS) : Bool := decide (c.ctorIdx <= 1)
noncomputable def isStr : Const -> Option Str
 | .str x => some x
 | _ => none
noncomputable def cD : ExceptHandler -> Option Expr × Option Str × List Stmt
 | .ExceptHandler t n b _ => (t, n, b)
noncomputable def x5f (nm : List Str) (kd : Kd) : Option Nat -> Option Str -> Bool
 | none, none => true
 | _, _ => false
noncomputable def mE (ft : Ft) (e : CE) (c : Bool) (nm : List Str) (kd : Kd) (es : List Expr) : Bool := mc ft e c true nm kd es && (c || !g8 e)
noncomputable def M1 (ts : List Stmt) : Option (Expr × Expr × Pos) := (one ts).bind fun t => (fG t).bind fun v => (one v.1).map fun x => (x, v.2)
theorem U3 {ts : List Stmt} {v : Expr × Expr × Pos} (h : M1 ts = some v) : ts = [.Assign [v.1] v.2.1 v.2.2] := by
 obtain ⟨t, h1, h⟩ := c0 h
 obtain ⟨w, h2, h⟩ := c0 h
 obtain ⟨x, h3, rfl⟩ := m3 h
 rw [n0 h1, x6B h2, n0 h3]
noncomputable def sub1 (ts : List Stmt) : Option ((Expr × Expr) × Expr) := (M1 ts).bind fun v => (A7 v.1).map fun y => (y, v.2.1)
theorem pJ {ts : List Stmt} {v : (Expr × Expr) × Expr} (h : sub1 ts = some v) : ∃ sp p, ts = [.Assign [.Subscript v.1.1 v.1.2 sp] v.2 p] := by
 obtain ⟨w, h1, h⟩ := c0 h
 obtain ⟨y, h2, rfl⟩ := m3 h
 obtain ⟨sp, h3⟩ := I4 h2
 exact ⟨sp, w.2.2, by rw [U3 h1, h3]⟩
noncomputable def bZ (ts : List Stmt) : Option Expr := (one ts).bind dW
theorem iT {ts : List Stmt} {x : Expr} (h : bZ ts = some x) : ∃ p, ts = [.Expr x p] := by
 obtain ⟨t, h1, h⟩ := c0 h
 obtain ⟨p, h2⟩ := x1J h
 exact ⟨p, by rw [n0 h1, h2]⟩
noncomputable def hG (ts : List Stmt) : Option (Option Expr) := (one ts).bind fZ
theorem mH {ts : List Stmt} {x : Option Expr} (h : hG ts = some x) : ∃ p, ts = [.Return x p] := by
 obtain ⟨t, h1, h⟩ := c0 h
 obtain ⟨p, h2⟩ := xR h
 exact ⟨p, by rw [n0 h1, h2]⟩
noncomputable def qY (ts : List Stmt) : Option (Expr × List Stmt × List Stmt) := (one ts).bind hV
theorem yD {ts : List Stmt} {x : Expr × List Stmt × List Stmt} (h : qY ts = some x) : ∃ p, ts = [.If x.1 x.2.1 x.2.2 p] := by
 obtain ⟨t, h1, h⟩ := c0 h
 obtain ⟨p, h2⟩ := x1R h
 exact ⟨p, by rw [n0 h1, h2]⟩
noncomputable def oM (ts : List Stmt) : Option (Expr × Expr × List Stmt) := (one ts).bind fun t => (dJ t).bind fun v => gd v.2.2.2.isEmpty (v.1, v.2.1, v.2.2.1)
theorem x1N {ts : List Stmt} {x : Expr × Expr × List Stmt} (h : oM ts = some x) : ∃ p, ts = [.For x.1 x.2.1 x.2.2 [] p] := by
 obtain ⟨t, h1, h⟩ := c0 h
 obtain ⟨v, h2, h⟩ := c0 h
 obtain ⟨h3, rfl⟩ := i5 h
 obtain ⟨p, h4⟩ := x4v h2
 exact ⟨p, by rw [n0 h1, h4, u7 h3]⟩
noncomputable def vT (ts : List Stmt) : Option Str := (one ts).bind fun t => (jF t).bind fun v => (gd v.2.isNone ()).bind fun _ => v.1.bind fun e => (U7 e).bind fun w => (gd w.2.2.1.isEmpty ()).bind fun _ => (one w.2.1).bind fun a => (M9 a).bind fun q => (isStr q).bind fun _ => asName w.1
theorem x4V {ts : List Stmt} {x : Str} (h : vT ts = some x) : ∃ np q kk cp cpos pos, ts = [.Raise (some (.Call (.Name x np) [.Constant (.str q) kk cp] [] cpos)) none pos] := by
 obtain ⟨t, h1, h⟩ := c0 h
 obtain ⟨⟨o1, o2⟩, h2, h⟩ := c0 h
 obtain ⟨_, h3, h⟩ := c0 h
 obtain ⟨e, h4, h⟩ := c0 h
 obtain ⟨⟨f, xs, ks, cp⟩, h5, h⟩ := c0 h
 obtain ⟨_, h6, h⟩ := c0 h
 obtain ⟨a, h7, h⟩ := c0 h
 obtain ⟨q, h8, h⟩ := c0 h
 obtain ⟨y, h9, h⟩ := c0 h
 obtain ⟨pp, h10⟩ := x0g h2
 obtain ⟨kk, ap, h11⟩ := Y7 h8
 obtain ⟨np, h12⟩ := v9 h
 cases q with
 | str z => exact ⟨np, z, kk, ap, cp, pp, by rw [n0 h1, h10, show o1 = _ from h4, show o2 = none from Option.isNone_iff_eq_none.mp (i5 h3).1, jA h5, show f = _ from h12, show ks = [] from u7 (i5 h6).1, show xs = _ from n0 h7, h11]⟩
 | _ => cases h9
noncomputable def qB (ts : List Stmt) : Option (List Stmt × List ExceptHandler) := (one ts).bind fun t => (Y6 t).bind fun v => gd ((v.2.2.1.isEmpty && v.2.2.2.isEmpty) && !v.2.1.isEmpty) (v.1, v.2.1)
theorem x5p {ts : List Stmt} {x : List Stmt × List ExceptHandler} (h : qB ts = some x) : ∃ d ds p, x.2 = d :: ds /\ ts = [.Try x.1 (d :: ds) [] [] p] := by
 obtain ⟨t, h1, h⟩ := c0 h
 obtain ⟨⟨bd, l, o, f⟩, h2, h⟩ := c0 h
 obtain ⟨h3, rfl⟩ := i5 h
 obtain ⟨p, h8⟩ := x3z h2
 obtain ⟨h4, h5⟩ := and2 h3
 cases l with
 | nil => cases h5
 | cons d ds => exact ⟨d, ds, p, rfl, by rw [n0 h1, h8, show o = [] from u7 (and2 h4).1, show f = [] from u7 (and2 h4).2]⟩
noncomputable def lX (ts : List Stmt) : Option (List ExceptHandler) := (one ts).bind fun t => (Y6 t).map fun v => v.2.1
noncomputable def cA (c : CS) : Bool := c.ctorIdx == 17 || c.ctorIdx == 18
noncomputable def ms (nm : List Str) (kd : Kd) (c : Bool) : CS -> Ft -> List Stmt -> Bool
 | .nil, ft, ts => ts.isEmpty
 | .seq s r, ft, ts => (match ts with | t :: ts => ((!z4 s && z4 r) && s.ctorIdx != 17) && (ms nm kd c s ft [t] && ms nm kd c r ft ts) | [] => false)
 | .assign p e, ft, ts => onS (M1 ts) fun v => j8 nm kd p v.1 && (mE ft e c nm kd [v.2.1] && (if i0 p then c else A4 v.2.1 || e.ctorIdx == 21))
 | .setd p, ft, ts => onS (M1 ts) fun v => j8 nm kd p v.1 && (i0 p && (c && onS (bH v.2.1) fun d => d.1.isEmpty && d.2.isEmpty))
 | .unpack is e, ft, ts => onS (M1 ts) fun v => ((ft 1).isSome && onS (asTup v.1) (mNames nm kd is)) && (mE ft e c nm kd [v.2.1] && (A4 v.2.1 && (asTup v.2.1).isNone))
 | .setidx p k e, ft, ts => onS (sub1 ts) fun v => j8 nm kd p v.1.1 && ((mE ft k c nm kd [v.1.2] && mE ft e c nm kd [v.2]) && (A4 v.2 && ((c || !i0 p) && (!i0 p || !g8 k))))
 | .setkey p k e, ft, ts => onS (sub1 ts) fun v => j8 nm kd p v.1.1 && ((mE ft k c nm kd [v.1.2] && mE ft e c nm kd [v.2]) && (A4 v.2 && ((c || !i0 p) && (!i0 p || !g8 k))))
 | .append p e, ft, ts => onS (bZ ts) fun x => onS (C3 "append" x) fun v => onS (one v.2) fun y => j8 nm kd p v.1 && (mE ft e c nm kd [y] && ((c || !i0 p) && (!i0 p || !g8 e)))
 | .clear p, ft, ts => onS (bZ ts) fun x => onS (C3 "clear" x) fun v => j8 nm kd p v.1 && (v.2.isEmpty && (c || !i0 p))
 | .drop e, ft, ts => onS (bZ ts) fun x => mE ft e c nm kd [x] && A4 x
 | .ret e, ft, ts => onS (hG ts) fun o => onS o fun x => mE ft e c nm kd [x]
 | .retN, ft, ts => onS (hG ts) Option.isNone
 | .iff e a b, ft, ts => onS (qY ts) fun v => (mE ft e c nm kd [v.1] && tb e v.1) && ((z4 a && ms nm kd c a ft v.2.1) && (z4 b && ms nm kd c b ft v.2.2))
 | .loop many is k src body, ft, ts => onS (oM ts) fun v => (((ft 1).isSome && mT nm kd many is v.1) && (m7 v.2.1 && (k != 2 || many))) && (onS (J5 kd k v.2.1) (mE ft src c nm kd) && (z4 body && ms nm kd c body ft v.2.2))
 | .raise k, ft, ts => onS (vT ts) fun x => (ft 1).isSome && (decide (k < 5) && v5 kd x (y0 k))
 | .pages i n j elt, ft, ts => onS (M1 ts) fun v => (j8 nm kd (.loc i) v.1 && (ft 1).isSome) && mE ft (.comp n 0 (.lend j) elt .nil) c nm kd [v.2.1]
 | .try_ b hs, ft, ts => onS (qB ts) fun v => ((ft 1).isSome && (z4 b && ms nm kd c b ft v.1)) && (cA hs && ms nm kd c hs ft [.Try [] v.2 [] [] default])
 | .hd k i h r, ft, ts => onS (lX ts) fun l => (match l with
  | d :: ds => (onS (cD d).1 fun e => onS (asName e) fun x => decide (k <= 5) && (v5 kd x (y0 k) && x5f nm kd i (cD d).2.1)) && ((z4 h && (!(cD d).2.2.isEmpty && ms nm kd c h (fun _ => none) (cD d).2.2)) && (cA r && ms nm kd c r ft [.Try [] ds [] [] default]))
  | [] => false)
 | .hnil, ft, ts => onS (lX ts) List.isEmpty
 | _, _, _ => false
structure GS (U : Nat -> Fn) (cx : Cx) (c : CS) (ts : List Stmt) : Prop where
 b : z4 c = true -> y1 U cx c ts
 s : z4 c = false -> c.ctorIdx ≠ 17 -> ∀ t, ts = [t] -> SS U cx c t
 h : cA c = true -> ∀ hds, ts = [.Try [] hds [] [] default] -> U8 U cx c hds
section
variable {U : Nat -> Fn} {ft : Ft} {cx : Cx} {cb q : Bool} {es : List Expr} {e : CE} {c : CE} {t : Stmt} {s : CS} {p : Pl} {x y z : Expr} {pos sp : Pos}
theorem GS.st (h : SS U cx s t) (h0 : z4 s = false /\ cA s = false) : GS U cx s [t] := ⟨fun q => (nomatch h0.1.symm.trans q), fun _ _ t' q => (by cases q; exact h), fun q => nomatch h0.2.symm.trans q⟩
theorem p6 (I : Inn U ft cx true) (h : mE ft c cx.c cx.nm cx.env.scope.names es = true) : GE U cx c es /\ (g8 c = true -> cx.c = true) := ⟨sE c cx true es I (and2 h).1, Q7 (and2 h).2⟩
theorem iZ {a : Bool} (h : (!i0 p || !a) = true) : i0 p = true -> a = false := fun z => by rw [z] at h; simpa using h
theorem uF {i j : Nat} {x : Expr} (h : j8 cx.nm cx.env.scope.names (.fld i j) x = true) : ∃ z pos' apos, x = .Attribute (.Name z pos') (m9 j) apos /\ isLoc cx.nm cx.env.scope.names i z = true /\ j < 6 := by
 obtain ⟨⟨y, n, p⟩, h1, h⟩ := f9 h
 obtain ⟨h, h4⟩ := and2 h
 obtain ⟨h2, h3⟩ := and2 h
 obtain ⟨z, h5, h6⟩ := f9 h4
 obtain ⟨p2, h7⟩ := v9 h5
 exact ⟨z, p2, p, by rw [cI h1]; rw [show y = _ from h7, show n = _ from eq_of_beq h3], h6, k6 h2⟩
theorem sP {i : Nat} {x : Expr} (h : j8 cx.nm cx.env.scope.names (.loc i) x = true) : ∃ z pos', x = .Name z pos' /\ isLoc cx.nm cx.env.scope.names i z = true := by
 obtain ⟨z, h5, h6⟩ := f9 h
 obtain ⟨p2, h7⟩ := v9 h5
 exact ⟨z, p2, h7, h6⟩
theorem yN {ts : List Expr} {k : Nat} {p : Pos} {x : Expr} {env : Env} (h : (asTup x).isNone = true) : swappedStores [.Tuple ts k p] x env = pure none := by
 cases x <;> first | rfl | cases h
theorem x1L (I : Inn U ft cx true) (h3 : j8 cx.nm cx.env.scope.names p x = true) (h4 : mE ft e cx.c cx.nm cx.env.scope.names [y] = true) (h5 : (if i0 p then cx.c else A4 y || e.ctorIdx == 21) = true) : SS U cx (.assign p e) (.Assign [x] y pos) := by
 cases p with
 | loc i =>
  obtain ⟨z, p', rfl, hz⟩ := sP h3
  rcases Bool.or_eq_true_iff.mp h5 with h5 | h5
  . exact rR I.ok (I.fu rfl) hz (X5 h5) (p6 I h4).2 ((p6 I h4).1 cx.c id).1
  . refine CE.comp.elim (motive := fun e => mE ft e cx.c cx.nm cx.env.scope.names [y] = true -> SS U cx (.assign (.loc i) e) (.Assign [.Name z p'] y pos)) e (eq_of_beq h5) (fun n kd s elt cond h4 => ?_) h4
    obtain ⟨el, x, px, it, ifs, scope, p, q, hq, CO, hn, hpl, hh⟩ := eM (sE s) (sE elt) (sE cond) I (and2 h4).1
    obtain ⟨IO, hi, hs⟩ := hh cx.c id (p6 I h4).2
    rw [q]
    exact x0U I.ok (I.fu rfl) hz CO IO hn hi hpl hs
 | fld i j =>
  obtain ⟨z, p', ap, rfl, hz, hj⟩ := uF h3
  exact wB I.b.PC I.ok h5 hz hj ((p6 I h4).1 cx.c id).1
theorem x0m (I : Inn U ft cx true) (h3 : j8 cx.nm cx.env.scope.names p x = true) (h4 : i0 p = true) (h5 : cx.c = true) (h6 : (onS (bH y) fun d => d.1.isEmpty && d.2.isEmpty) = true) : SS U cx (.setd p) (.Assign [x] y pos) := by
 obtain ⟨⟨ks, vs⟩, h7, h8⟩ := f9 h6
 obtain ⟨pd, h11⟩ := x1b h7
 rw [show y = _ from h11, show ks = [] from u7 (and2 h8).1, show vs = [] from u7 (and2 h8).2]
 cases p with
 | loc i => cases h4
 | fld i j =>
  obtain ⟨z, p', ap, rfl, hz, hj⟩ := uF h3
  exact x0n I.b.TO I.b.PC I.ok h5 hz hj
theorem wV {is : List Nat} (I : Inn U ft cx true) (h3 : (ft 1).isSome = true) (h4 : onS (asTup x) (mNames cx.nm cx.env.scope.names is) = true) (h5 : mE ft e cx.c cx.nm cx.env.scope.names [y] = true) (h6 : A4 y = true) (h7 : (asTup y).isNone = true) : SS U cx (.unpack is e) (.Assign [x] y pos) := by
 obtain ⟨zs, h8, h9⟩ := f9 h4
 obtain ⟨k, tp, rfl⟩ := Y8 h8
 exact x0u (I.h h3) I.ok (I.fu rfl) h9 (show swapsWith y (some (.Tuple zs k tp)) pos.line cx.env = pure false from X5 h6) (yN h7) (p6 I h5).2 ((p6 I h5).1 cx.c id).1
theorem x6r {many : Bool} {is : List Nat} {k : Nat} {body : CS} {bd : List Stmt} (I : Inn U ft cx true) (h2 : (ft 1).isSome = true) (h4 : mT cx.nm cx.env.scope.names many is x = true) (h5 : m7 y = true) (h6 : (k != 2 || many) = true) (h7 : onS (J5 cx.env.scope.names k y) (mE ft e cx.c cx.nm cx.env.scope.names) = true) (hb : y1 U cx body bd) : SS U cx (.loop many is k e body) (.For x y bd [] pos) := by
 have h0 := I.h h2
 obtain ⟨l, h10, h11⟩ := f9 h7
 refine x3V h0 I.ok (I.fu rfl) h4 (pE h5) ?_ hb
 have ge := (p6 I h11).1
 have he := (p6 I h11).2
 clear hb h7 h11 h2
 match k with
 | 0 => cases h10; exact (mK (I.ok.hand h0) (ge cx.c id).1).sf he _
 | 1 => exact (qW I.b.TO I.ok h10 (ge cx.c id).1).sf he _
 | 2 =>
  cases many with
  | false => cases h6
  | true =>
   obtain ⟨zs, h12, _⟩ := f9 (show onS (asTup x) (mNames cx.nm cx.env.scope.names is) = true from h4)
   obtain ⟨kk, tp, h13⟩ := Y8 h12
   cases show x = _ from h13
   exact xI h0 I.b.TO I.ok h10 he (ge cx.c id).1
 | k + 3 => exact nos h10
theorem yJ {v : Expr × List Expr} (I : Inn U ft cx true) (h2 : C3 "append" x = some v) (h3 : one v.2 = some y) (h : (j8 cx.nm cx.env.scope.names p v.1 && (mE ft e cx.c cx.nm cx.env.scope.names [y] && ((cx.c || !i0 p) && (!i0 p || !g8 e)))) = true) : SS U cx (.append p e) (.Expr x pos) := by
 obtain ⟨u, l⟩ := v
 cases show l = _ from n0 h3
 obtain ⟨ap, cp, rfl, hline, hx⟩ := J4 h2
 exact zV I.ok (fun _ => I.b.PC) (and2 h).1 (Q7 (and2 (and2 (and2 h).2).2).1) (by simpa using hx) hline (iZ (and2 (and2 (and2 h).2).2).2) (fun c' hc => ((p6 I (and2 (and2 h).2).1).1 c' hc).1) (p6 I (and2 (and2 h).2).1).2
theorem x0v {v : Expr × List Expr} (I : Inn U ft cx true) (h2 : C3 "clear" x = some v) (h : (j8 cx.nm cx.env.scope.names p v.1 && (v.2.isEmpty && (cx.c || !i0 p))) = true) : SS U cx (.clear p) (.Expr x pos) := by
 obtain ⟨u, l⟩ := v
 cases show l = [] from u7 (and2 (and2 h).2).1
 obtain ⟨ap, cp, rfl, hline, hx⟩ := J4 h2
 exact x6q I.ok (fun _ => I.b.PC) (and2 h).1 (Q7 (and2 (and2 h).2).2) hline
theorem Base.bare {T : Tp} {A A' : Around} (B : Base U ft T A) : Base U (fun _ => none) T A' := ⟨B.TO, B.PC, B.XC, B.XL, B.XI, fun k y h => (nomatch h), fun k y h => (nomatch h), fun y h => nomatch h⟩
theorem Inn.suite (I : Inn U ft cx true) (a : Addr) : Inn U (fun _ => none) (cx.mk' a) true :=
 have F := I.fu rfl
 ⟨I.b.bare, ⟨I.ok.cb, I.ok.kind, I.ok.glob, I.ok.bltn, (nofun), I.ok.units, I.ok.depth⟩, fun _ => ⟨F.full, F.inj, F.nodup, F.has, F.fr, F.fm⟩, nofun⟩
theorem x3g {i n j : Nat} {elt : CE} (I : Inn U ft cx true) (h0 : (ft 1).isSome = true) (h1 : j8 cx.nm cx.env.scope.names (.loc i) x = true) (h2 : mE ft (.comp n 0 (.lend j) elt .nil) cx.c cx.nm cx.env.scope.names [y] = true) : SS U cx (.pages i n j elt) (.Assign [x] y pos) := by
 obtain ⟨n1, p1, g1, hn1⟩ := sP h1
 obtain ⟨el, xx, px, it, ifs, scope, pp, q1, hq, CO, hn, hpl, hh⟩ := eM (sE (.lend j)) (sE elt) (sE .nil) I (and2 h2).1
 obtain ⟨IO, _, _⟩ := hh cx.c id (p6 I h2).2
 have hi : j8 cx.nm cx.env.scope.names (.loc j) it = true := by
  obtain ⟨v, a1, h⟩ := f9 (show onS (asComp y) _ = true from (and2 h2).1)
  obtain ⟨g, a2, h⟩ := f9 h
  obtain ⟨z, a3, h⟩ := f9 h
  obtain ⟨_, ⟨_, _, _, hsrc⟩, _⟩ := tB h
  obtain ⟨l, a4, h5⟩ := f9 hsrc
  obtain ⟨pq, a5⟩ := oV a1
  have e := (Expr.ListComp.inj (q1.symm.trans a5)).2.1
  rw [n0 a2] at e
  cases (List.cons.inj e).1
  cases a4
  exact h5
 rw [q1, g1]
 exact x6E (I.ok.hand (I.h h0)) I.ok (I.fu rfl) hn1 CO IO hn hi hpl
theorem sS (s : CS) : ∀ (cx : Cx) (ft : Ft) (ts : List Stmt), Inn U ft cx true -> ms cx.nm cx.env.scope.names cx.c s ft ts = true -> GS U cx s ts := by
 induction s with
 | nil =>
  intro cx ft ts I h
  cases ts with
  | nil => exact ⟨fun _ => x3L, fun q => (nomatch q), fun q => nomatch q⟩
  | cons _ _ => cases h
 | seq s r ihs ihr =>
  intro cx ft ts I h
  cases ts with
  | nil => cases h
  | cons t ts => exact ⟨fun _ => x2p ((ihs cx ft [t] I (and2 (and2 h).2).1).s (by simpa using (and2 (and2 (and2 h).1).1).1) (by simpa using (and2 (and2 h).1).2) t rfl) ((ihr cx ft ts I (and2 (and2 h).2).2).b (and2 (and2 (and2 h).1).1).2), fun q => (nomatch q), fun q => nomatch q⟩
 | assign p e => exact fun cx ft ts I h => let ⟨v, h1, h2⟩ := f9 h; U3 h1 ▸ .st (x1L I (and2 h2).1 (and2 (and2 h2).2).1 (and2 (and2 h2).2).2) ⟨rfl, rfl⟩
 | setd p => exact fun cx ft ts I h => let ⟨v, h1, h2⟩ := f9 h; U3 h1 ▸ .st (x0m I (and2 h2).1 (and2 (and2 h2).2).1 (and2 (and2 (and2 h2).2).2).1 (and2 (and2 (and2 h2).2).2).2) ⟨rfl, rfl⟩
 | unpack is e => exact fun cx ft ts I h => let ⟨v, h1, h2⟩ := f9 h; U3 h1 ▸ .st (wV I (and2 (and2 h2).1).1 (and2 (and2 h2).1).2 (and2 (and2 h2).2).1 (and2 (and2 (and2 h2).2).2).1 (and2 (and2 (and2 h2).2).2).2) ⟨rfl, rfl⟩
 | setidx p k e => exact fun cx ft ts I h => let ⟨v, h1, h2⟩ := f9 h; let ⟨sp, pp, h3⟩ := pJ h1; let ⟨a, b⟩ := and2 h2; let ⟨b, d⟩ := and2 b; let ⟨d, f⟩ := and2 d; h3 ▸ .st (x6Q I.ok (fun _ => I.b.PC) a (Q7 (and2 f).1) (iZ (and2 f).2) ((p6 I (and2 b).2).1 cx.c id).1 (p6 I (and2 b).2).2 (fun c' hc => ((p6 I (and2 b).1).1 c' hc).1) (p6 I (and2 b).1).2 d) ⟨rfl, rfl⟩
 | setkey p k e => exact fun cx ft ts I h => let ⟨v, h1, h2⟩ := f9 h; let ⟨sp, pp, h3⟩ := pJ h1; let ⟨a, b⟩ := and2 h2; let ⟨b, d⟩ := and2 b; let ⟨d, f⟩ := and2 d; h3 ▸ .st (zS I.ok (fun _ => I.b.PC) a (Q7 (and2 f).1) (iZ (and2 f).2) ((p6 I (and2 b).2).1 cx.c id).1 (p6 I (and2 b).2).2 (fun c' hc => ((p6 I (and2 b).1).1 c' hc).1) (p6 I (and2 b).1).2 d) ⟨rfl, rfl⟩
 | append p e => exact fun cx ft ts I h => let ⟨x, h1, h2⟩ := f9 h; let ⟨v, h3, h4⟩ := f9 h2; let ⟨y, h5, h6⟩ := f9 h4; let ⟨pp, h7⟩ := iT h1; h7 ▸ .st (yJ I h3 h5 h6) ⟨rfl, rfl⟩
 | clear p => exact fun cx ft ts I h => let ⟨x, h1, h2⟩ := f9 h; let ⟨v, h3, h4⟩ := f9 h2; let ⟨pp, h7⟩ := iT h1; h7 ▸ .st (x0v I h3 h4) ⟨rfl, rfl⟩
 | drop e => exact fun cx ft ts I h => let ⟨x, h1, h2⟩ := f9 h; let ⟨pp, h3⟩ := iT h1; h3 ▸ .st (x2O I.ok (p6 I (and2 h2).1).2 ((p6 I (and2 h2).1).1 cx.c id).1 (and2 h2).2) ⟨rfl, rfl⟩
 | ret e =>
  intro cx ft ts I h
  obtain ⟨o, h1, h⟩ := f9 h
  obtain ⟨x, h2, h⟩ := f9 h
  obtain ⟨pp, rfl⟩ := mH h1
  cases show o = _ from h2
  exact .st (x0z (p6 I h).2 ((p6 I h).1 cx.c id).1) ⟨rfl, rfl⟩
 | retN =>
  intro cx ft ts I h
  obtain ⟨o, h1, h⟩ := f9 h
  obtain ⟨pp, rfl⟩ := mH h1
  cases show o = none from Option.isNone_iff_eq_none.mp h
  exact .st x4D ⟨rfl, rfl⟩
 | iff e a b iha ihb => exact fun cx ft ts I h => let ⟨v, h1, h2⟩ := f9 h; let ⟨pp, h3⟩ := yD h1; let ⟨a, b⟩ := and2 h2; let ⟨b, d⟩ := and2 b; h3 ▸ .st (x4Z (p6 I (and2 a).1).2 (((p6 I (and2 a).1).1 cx.c id).2 _ rfl (and2 a).2) ((iha cx ft _ I (and2 b).2).b (and2 b).1) ((ihb cx ft _ I (and2 d).2).b (and2 d).1)) ⟨rfl, rfl⟩
 | loop many is k src body ihb => exact fun cx ft ts I h => let ⟨v, h1, h2⟩ := f9 h; let ⟨pp, h3⟩ := x1N h1; let ⟨a, b⟩ := and2 h2; let ⟨a, a'⟩ := and2 a; let ⟨b, d⟩ := and2 b; h3 ▸ .st (x6r I (and2 a).1 (and2 a).2 (and2 a').1 (and2 a').2 b ((ihb cx ft _ I (and2 d).2).b (and2 d).1)) ⟨rfl, rfl⟩
 | raise k =>
  intro cx ft ts I h
  obtain ⟨x, h1, h⟩ := f9 h
  obtain ⟨np, q, kk, cp, cpos, pos, rfl⟩ := x4V h1
  obtain ⟨C, bm, ni, ii, X⟩ := I.b.XC k (k6 (and2 (and2 h).2).1)
  exact .st (x0O I.b.TO (I.h (and2 h).1) I.ok X (and2 (and2 h).2).2) ⟨rfl, rfl⟩
 | pages i n j elt => exact fun cx ft ts I h => let ⟨v, h1, h2⟩ := f9 h; U3 h1 ▸ .st (x3g I (and2 (and2 h2).1).2 (and2 (and2 h2).1).1 (and2 h2).2) ⟨rfl, rfl⟩
 | try_ b hs ihb ihh =>
  intro cx ft ts I h
  obtain ⟨v, h1, h2⟩ := f9 h
  obtain ⟨d, ds, p, h3, rfl⟩ := x5p h1
  obtain ⟨a, b'⟩ := and2 h2
  have HO := (ihh cx ft _ I (and2 b').2).h (and2 b').1 v.2 rfl
  rw [h3] at HO
  exact .st (zD (I.h (and2 a).1) I.b.TO I.ok (I.fu rfl) I.b.XL ((ihb cx ft _ I (and2 (and2 a).2).2).b (and2 (and2 a).2).1) HO) ⟨rfl, rfl⟩
 | hd k i s r ihs ihr =>
  intro cx ft ts I h
  refine ⟨fun q => (nomatch q), fun _ q => absurd rfl q, fun _ hds q => ?_⟩
  subst q
  cases hds with
  | nil => cases h
  | cons d ds =>
   obtain ⟨ty, n, su, hp⟩ := d
   obtain ⟨h1, h2⟩ := and2 (show (_ && _) = true from h)
   obtain ⟨e, h3, h1⟩ := f9 h1
   obtain ⟨x, h4, h1⟩ := f9 h1
   obtain ⟨hk, h1⟩ := and2 h1
   obtain ⟨h5, h6⟩ := and2 h2
   obtain ⟨np, h7⟩ := v9 h4
   have hk5 : k <= 5 := k6 hk
   cases su with
   | nil => cases (and2 (and2 h5).2).1
   | cons b0 su =>
    refine ⟨⟨x, np, n, b0, su, hp, by rw [show ty = _ from h3, h7], hk5, I.b.XI k hk5, (and2 h1).1, ?_, fun e => (ihs (cx.mk' e) _ _ (I.suite e) (and2 (and2 h5).2).2).b (and2 h5).1⟩, (ihr cx ft _ I (and2 h6).2).h (and2 h6).1 ds rfl⟩
    have ha := (and2 h1).2
    cases i with
    | none => cases n with
     | none => exact ⟨rfl, rfl⟩
     | some n => cases ha
    | some i => cases ha
 | hnil =>
  intro cx ft ts I h
  refine ⟨fun q => (nomatch q), fun _ _ t _ st W S tk Q E H => H.elim, fun _ hds q => ?_⟩
  subst q
  cases hds with
  | nil => trivial
  | cons _ _ => cases h
 | _ => intro cx ft ts I h; cases h
end
end Mine.Internal
end
section
namespace Mine.Internal
open PySem.W (findIn typeIn)
noncomputable def U0 (P : Tab) : Ft := fun k => (P.lookup k).map fun d => (d.kind, d.name)
structure Here (T : Tp) (P : Tab) (d : FnDef) (f : Addr) (o : Obj) (fd : FuncData) (body : List Stmt) : Prop where
 at_ : FnAt T d f o fd body
 b : z4 d.body = true
 text : ms (d.ps ++ d.vs) fd.scope.names (d.kind != 0) d.body (U0 P) body = true
 top : d.kind < 2 -> T.mg d.name = some (.ref f)
 meth : 2 <= d.kind -> typeIn T.pk (.ref f) = some (.type "function") /\ findIn T.pk (.ref T.pc) d.name = some (some (.ref f)) /\ ∀ j, j < 6 -> d.name ≠ m9 j
 init : d.kind = 3 -> d.name = "__init__"
structure Text (T : Tp) (P : Tab) : Prop where
 TO : T.Ok
 PC : PgCls T
 XC : jZ T
 XL : XcLk T
 XI : ∀ c, c <= 5 -> T.mg (y0 c) = some (T.xc c)
 defs : ∀ k d, P.lookup k = some d -> ∃ f o fd body, Here T P d f o fd body
section
variable {T : Tp} {P : Tab} {n k : Nat} {d : FnDef} {f : Addr} {o : Obj} {fd : FuncData} {body : List Stmt} {A : Around}
theorem Room.deeper (h : Room (n + 1) A) (env : Env) : Room n (A.deeper env) :=
 ⟨h.hand, Nat.lt_of_le_of_lt (by show A.units + 3 + 10 * n + 210 <= A.units + 10 * (n + 1) + 210; lia) h.units, Nat.lt_of_le_of_lt (by show A.depth + 1 + 4 * n + 24 <= A.depth + 4 * (n + 1) + 24; lia) h.depth⟩
theorem Room.by {a : Addr} {vs : List Value} (h : Room (n + 1) A) (env : Env) : Room n ((A.deeper env).under (.builtin "type.__call__" ⟨.ref a :: vs, []⟩)) :=
 have u : (Code.builtin "type.__call__" ⟨.ref a :: vs, []⟩).cUnits <= 7 := Nat.le_of_ble_eq_true rfl
 have v : (Code.builtin "type.__call__" ⟨.ref a :: vs, []⟩).weight <= 3 := Nat.le_of_ble_eq_true rfl
 ⟨h.hand, Nat.lt_of_le_of_lt (by show A.units + 3 + _ + 10 * n + 210 <= A.units + 10 * (n + 1) + 210; lia) h.units, Nat.lt_of_le_of_lt (by show A.depth + 1 + _ + 4 * n + 24 <= A.depth + 4 * (n + 1) + 24; lia) h.depth⟩
theorem x6k (X : Text T P) (n : Nat) : ∀ k d f o fd body, P.lookup k = some d -> Here T P d f o fd body -> ∀ cx : Cx, cx.T = T -> Room n cx.A -> P8 cx (d.kind != 0) f (Gam P n k) := by
 induction n with
 | zero => exact fun k d f o fd body hk H cx hT hR W tk vs fs p R _ _ _ h => h.elim
 | succ n ih =>
  intro k d f o fd body hk H cx hT hR
  have e : Gam P (n + 1) k = w7 (Gam P n) d.ps.length d.vs.length d.body := cT hk
  rw [e]
  subst hT
  refine x4l X.TO H.at_ hR fun env es C F => (sS d.body (cx.callee (d.kind != 0) d env) (U0 P) body ⟨⟨X.TO, X.PC, X.XC, X.XL, X.XI, fun k y hy h2 => ?_, fun k y hy h2 => ?_, fun y hy h2 => ?_⟩, C, fun _ => F, fun _ => rfl⟩ ?_).b H.b
  . obtain ⟨d', h3, rfl⟩ := m3 hy
    obtain ⟨f', o', fd', b', H'⟩ := X.defs k d' h3
    refine ⟨f', H'.top h2, fun cx' h4 h5 => ⟨⟨o', fd', by rw [h4]; exact H'.at_.at_, H'.at_.data⟩, ?_⟩⟩
    have := ih k d' f' o' fd' b' h3 H' cx' h4 (by rw [h5]; exact hR.deeper env)
    rwa [show (d'.kind != 0) = (d'.kind == 1) by revert h2; generalize d'.kind = z; intro (h2 : z < 2); match z, h2 with | 0, _ => rfl | 1, _ => rfl] at this
  . obtain ⟨d', h3, rfl⟩ := m3 hy
    obtain ⟨f', o', fd', b', H'⟩ := X.defs k d' h3
    have h2 : d'.kind = 2 := h2
    obtain ⟨h6, h7, h8⟩ := H'.meth (Nat.le_of_eq h2.symm)
    refine ⟨h8, f', h7, h6, fun cx' h4 h5 => ⟨⟨o', fd', by rw [h4]; exact H'.at_.at_, H'.at_.data⟩, ?_⟩⟩
    have := ih k d' f' o' fd' b' h3 H' cx' h4 (by rw [h5]; exact hR.deeper env)
    rwa [h2] at this
  . obtain ⟨d', h3, rfl⟩ := m3 hy
    obtain ⟨f', o', fd', b', H'⟩ := X.defs 0 d' h3
    have h2 : d'.kind = 3 := h2
    obtain ⟨h6, h7, h8⟩ := H'.meth (by rw [h2]; decide)
    rw [H'.init h2] at h7
    refine ⟨f', h7, h6, fun cx' vs h4 h5 => ?_⟩
    have := ih 0 d' f' o' fd' b' h3 H' (cx'.by vs) h4 (by show Room n (cx'.A.under _); rw [h5]; exact hR.by env)
    rwa [h2] at this
  . show ms (d.ps ++ d.vs) env.scope.names (d.kind != 0) d.body (U0 P) body = true
    rw [es]; exact H.text
end
end Mine.Internal
end
section
open PySem.W
namespace Mine.Internal
theorem x4W {fd : FuncData} {ps : List Str} {vs : List Value} (h1 : fd.params.posonlyargs = []) (h2 : fd.params.args.map (·.arg) = ps) (h3 : fd.params.vararg = none) (h4 : fd.params.kwonlyargs = []) (h5 : fd.params.kwarg = none) (h6 : fd.defaults = .none)
  (hn : ps.Nodup) (hl : vs.length = ps.length) : bindArgs fd ⟨vs, []⟩ = pure (ps.zip vs) := by
 have look : ∀ (ps : List Str) (vs : List Value), ps.Nodup -> vs.length = ps.length -> (∀ p ∈ ps, ((ps.zip vs).lookup p).isSome = true) /\ (ps.filterMap fun n => ((ps.zip vs).lookup n).map fun v => (n, v)) = ps.zip vs := by
  intro ps
  induction ps with
  | nil => intro vs _ _; exact ⟨fun p hp => (nomatch hp), rfl⟩
  | cons p ps ih =>
   intro vs hn hl
   cases vs with
   | nil => simp at hl
   | cons v vs =>
    obtain ⟨hp, hn⟩ := List.nodup_cons.mp hn
    obtain ⟨i1, i2⟩ := ih vs hn (by simpa using hl)
    have ne : ∀ q ∈ ps, (q == p) = false := fun q hq => by
     have : q ≠ p := fun e => hp (e ▸ hq)
     simp [this]
    refine ⟨fun q hq => ?_, ?_⟩
    . rcases List.mem_cons.mp hq with rfl | hq
      . simp [List.lookup]
      . rw [List.zip_cons_cons, List.lookup_cons, ne q hq]; exact i1 q hq
    . rw [List.zip_cons_cons, List.filterMap_cons]
      have e0 : (List.lookup p ((p, v) :: ps.zip vs)) = some v := by simp [List.lookup]
      rw [e0]
      simp only [Option.map_some]
      congr 1
      have aux : ∀ (l : List Str), (∀ q ∈ l, (q == p) = false) -> (l.filterMap fun n => (List.lookup n ((p, v) :: ps.zip vs)).map fun v => (n, v)) = l.filterMap fun n => (List.lookup n (ps.zip vs)).map fun v => (n, v) := by
       intro l
       induction l with
       | nil => intro _; rfl
       | cons q l ih =>
        intro h
        rw [List.filterMap_cons, List.filterMap_cons, ih fun q hq => h q (.tail _ hq), List.lookup_cons, h q (.head _)]
      exact (aux ps ne).trans i2
 obtain ⟨l1, l2⟩ := look ps vs hn hl
 have miss : (ps.filter fun n => ((ps.zip vs).lookup n).isNone) = [] := by
  rw [List.filter_eq_nil_iff]
  intro p hp
  have := l1 p hp
  cases e : (ps.zip vs).lookup p with
  | none => rw [e] at this; cases this
  | some v => simp
 have hlen : ¬ (vs.length > ps.length) := by lia
 clear look l1 hn hl
 cases fd with
 | mk name qualname params body scope globals closure defaults kwdefaults pyModule code =>
 cases params with
 | mk po args va ko kd kw df =>
 dsimp only at h1 h2 h3 h4 h5 h6
 subst h1 h3 h4 h5 h6 h2
 refine (if_neg (c := (decide (vs.length > (args.map (·.arg)).length) && true) = true) (fun q => hlen (k6 (and2 q).1))).trans ?_
 have hd : ∀ n : Nat, List.drop n ([] : List Value) = [] := fun n => List.drop_nil
 dsimp only [List.map_nil, List.nil_append, Option.getD_none]
 simp only [hd]
 refine (if_neg (c := (!(List.filter (fun n => (List.lookup n ((args.map (·.arg)).zip vs)).isNone) (List.take (args.map (·.arg)).length (args.map (·.arg)))).isEmpty) = true) (fun q => by rw [List.take_length, miss] at q; cases q)).trans ?_
 rw [List.zip_nil_right]
 show (pure (List.filterMap (fun n => Option.map (fun v => (n, v)) (List.lookup n ((List.map (fun x => x.arg) args).zip vs))) (List.map (fun x => x.arg) args ++ [])) : Sem (List (Str × Value))) = _
 rw [List.append_nil, l2]
noncomputable def oP (a : Arguments) : Bool := a.posonlyargs.isEmpty && a.vararg.isNone && a.kwonlyargs.isEmpty && a.kwarg.isNone
noncomputable def O1 (P : Tab) (d : FnDef) (r : DefRec) : Bool :=
 r.name == d.name && oP r.params && r.params.args.map (·.arg) == d.ps && !r.scope.isCoroutine && !r.scope.isGenerator && decide (r.scope.kind = .function) &&
 d.ps.all (fun p => r.scope.names.lookup p == some .local || r.scope.names.lookup p == some .cell) && decide (d.ps ++ d.vs).Nodup && decide ((cellsFrom 0 r.scope.names []).map (·.1)).Nodup && z4 d.body &&
 ms (d.ps ++ d.vs) r.scope.names (d.kind != 0) d.body (U0 P) r.body
noncomputable def D6 (as : List Addr) (k : Nat) : Value := if k = 6 then .type "ValueError" else .ref (as.getD k 0)
noncomputable def C0 (prog : Program) (w : World) (s : Shared) (mg mb : Str -> Option Value) (pk : Frag) (pc : Addr) (as : List Addr) : Tp := ⟨prog, w, s, mg, mb, pk, pc, D6 as⟩
section
variable {prog p : Program} {w : World} {loose : List Str} {mean : ExcName -> Option Value} {mg mb : Str -> Option Value} {s : Shared} {h : Heap} {K : Frag} {pc : Addr} {as : List Addr} {P : Tab} {d : FnDef} {r : DefRec}
theorem rU {T : Tp} {f : Addr} {o : Obj} {fd : FuncData} (hc : O1 P d r = true) (at_ : T.s.heap.get? f = some o) (hd : o.data = .func fd) (cd : T.s.heap.CodeRec fd.code fd.qualname) (e1 : fd.params = r.params) (e2 : fd.body = .stmts r.body) (e3 : fd.scope = r.scope)
  (e4 : fd.closure = []) (e5 : fd.globals = mainGlobals) (e6 : fd.builtins = builtinsNs) (e7 : fd.defaults = .none) : FnAt T d f o fd r.body /\ z4 d.body = true /\ ms (d.ps ++ d.vs) fd.scope.names (d.kind != 0) d.body (U0 P) r.body = true := by
 unfold O1 at hc
 obtain ⟨hc, c11⟩ := and2 hc
 obtain ⟨hc, c10⟩ := and2 hc
 obtain ⟨hc, c9⟩ := and2 hc
 obtain ⟨hc, c8⟩ := and2 hc
 obtain ⟨hc, c7⟩ := and2 hc
 obtain ⟨hc, c6⟩ := and2 hc
 obtain ⟨hc, c5⟩ := and2 hc
 obtain ⟨hc, c4⟩ := and2 hc
 obtain ⟨hc, c3⟩ := and2 hc
 obtain ⟨c1, c2⟩ := and2 hc
 unfold oP at c2
 simp only [Bool.and_eq_true, List.isEmpty_iff, Option.isNone_iff_eq_none] at c2
 obtain ⟨⟨⟨p1, p2⟩, p3⟩, p4⟩ := c2
 have nd : (d.ps ++ d.vs).Nodup := k6 c8
 rw [<- e1] at p1 p2 p3 p4 c3
 rw [<- e3] at c4 c5 c6 c7 c9 c11
 refine ⟨⟨at_, hd, cd, e2, e4, e5, e6, (by simpa using c4), (by simpa using c5), k6 c6, fun vs hl => x4W p1 (eq_of_beq c3) p2 p3 p4 e7 (List.nodup_append.mp nd).1 hl, fun q hq => ?_, nd, k6 c9⟩, c10, c11⟩
 have := List.all_eq_true.mp c7 q hq
 exact (by simpa using this : fd.scope.names.lookup q = some .local \/ fd.scope.names.lookup q = some .cell)
theorem x5R (T : Top p loose mean mg mb s.heap) (hr : r ∈ recsOf p) (hk : d.kind < 2) (hc : O1 P d r = true) : ∃ f o fd body, Here (C0 prog w s mg mb K pc as) P d f o fd body := by
 obtain ⟨f, o, pm, code, doc, h1, h2, h3, h4⟩ := T.fn r hr
 obtain ⟨h5, h6, h7⟩ := rU (T := C0 prog w s mg mb K pc as) (fd := docDef r.name r.params r.body r.scope pm code doc) hc h2 h3 h4 rfl rfl rfl rfl rfl rfl rfl
 have hn : r.name = d.name := by
  unfold O1 at hc
  simp only [Bool.and_eq_true] at hc
  obtain ⟨⟨⟨⟨⟨⟨⟨⟨⟨⟨q, _⟩, _⟩, _⟩, _⟩, _⟩, _⟩, _⟩, _⟩, _⟩, _⟩ := hc
  exact eq_of_beq q
 exact ⟨f, o, _, r.body, h5, h6, h7, fun _ => hn ▸ h1, fun q => absurd q (Nat.not_le.mpr hk), fun q => absurd hk (by rw [q]; decide)⟩
noncomputable def yQ : FuncBody -> Option (List Stmt)
 | .stmts b => some b
 | _ => none
noncomputable def x1r : Option Value -> Option Str
 | some (.str x _) => some x
 | _ => none
noncomputable def yC : Data -> Option (Array Value)
 | .fields vs => some vs
 | _ => none
noncomputable def wC : Value -> Option Addr
 | .ref a => some a
 | _ => none
noncomputable def kM (K : Frag) (cd : Value) (q : Str) : Bool := onS (wC cd) fun c => onS (K.lookup c) fun o => onS (yC o.data) fun vs => x1r vs[1]? == some q
theorem x5q {K : Frag} {cd : Value} {q : Str} (X : K.In h) (e : kM K cd q = true) : h.CodeRec cd q := by
 obtain ⟨c, h1, e⟩ := f9 e
 obtain ⟨o, h2, e⟩ := f9 e
 obtain ⟨vs, h3, e⟩ := f9 e
 have e4 := eq_of_beq e
 cases cd with
 | ref a =>
  cases h1
  have hd : o.data = .fields vs := by
   cases hq : o.data <;> rw [hq] at h3 <;> first | (cases h3; rfl) | cases h3
  cases hv : vs[1]? with
  | none => rw [hv] at e4; cases e4
  | some v =>
   rw [hv] at e4
   cases v with
   | str x t => cases e4; exact ⟨_, o, vs, t, rfl, X _ _ h2, hd, hv⟩
   | _ => cases e4
 | _ => cases h1
noncomputable def oB : Data -> Option FuncData
 | .func fd => some fd
 | _ => none
theorem x2v {x : Data} {fd : FuncData} (h : oB x = some fd) : x = .func fd := by
 cases x <;> first | (cases h; rfl) | cases h
noncomputable def lL (K : Frag) (pc : Addr) (P : Tab) (d : FnDef) (f : Addr) : Bool := onS (K.lookup f) fun o => onS (oB o.data) fun fd => onS (yQ fd.body) fun b =>
 O1 P d ⟨d.name, fd.params, b, fd.scope, default⟩ && fd.globals == mainGlobals && fd.closure.isEmpty && fd.builtins == builtinsNs && fd.defaults == .none && kM K fd.code fd.qualname && decide (2 <= d.kind) && (d.kind != 3 || d.name == "__init__") &&
 typeIn K (.ref f) == some (.type "function") && findIn K (.ref pc) d.name == some (some (.ref f)) && (List.range 6).all fun j => d.name != m9 j
theorem x1u {f : Addr} (X : K.In s.heap) (e : lL K pc P d f = true) : ∃ f o fd body, Here (C0 prog w s mg mb K pc as) P d f o fd body := by
 obtain ⟨o, h1, e⟩ := f9 e
 obtain ⟨fd, h2, e⟩ := f9 e
 obtain ⟨b, h3, e⟩ := f9 e
 obtain ⟨e, c11⟩ := and2 e
 obtain ⟨e, c10⟩ := and2 e
 obtain ⟨e, c9⟩ := and2 e
 obtain ⟨e, c8⟩ := and2 e
 obtain ⟨e, c7⟩ := and2 e
 obtain ⟨e, c6⟩ := and2 e
 obtain ⟨e, c5⟩ := and2 e
 obtain ⟨e, c4⟩ := and2 e
 obtain ⟨e, c3⟩ := and2 e
 obtain ⟨c1, c2⟩ := and2 e
 have hb : fd.body = .stmts b := by
  cases hq : fd.body with
  | stmts b' => rw [hq] at h3; cases h3; rfl
  | _ => rw [hq] at h3; cases h3
 have hk := k6 c7
 obtain ⟨h5, h6, h7⟩ := rU (T := C0 prog w s mg mb K pc as) c1 (X _ _ h1) (x2v h2) (x5q X c6) rfl hb rfl (u7 c3) (eq_of_beq c2) (eq_of_beq c4) (eq_of_beq c5)
 exact ⟨f, o, fd, b, h5, h6, h7, fun q => absurd q (Nat.not_lt.mpr hk), fun _ => ⟨eq_of_beq c9, eq_of_beq c10, fun j hj q => by have := List.all_eq_true.mp c11 j (List.mem_range.mpr hj); rw [q, bne_self_eq_false] at this; cases this⟩, fun q => by rw [q] at c8; exact eq_of_beq c8⟩
noncomputable def x1D (p : Program) (loose : List Str) : Bool := biTab.all fun x => !startupNames.contains x.1 && !loose.contains x.1 && !((recsOf p).map (·.name)).contains x.1 && !((litsOf p).map (·.1)).contains x.1 && !((clssOf p loose).map (·.name)).contains x.1
theorem x6s : ∀ q ∈ biTab, q.1 ≠ ("__name__" : Str) /\ bootBuiltins q.1 = some q.2 := by
 unfold biTab
 intro q hq
 simp only [List.mem_cons, List.not_mem_nil, or_false] at hq
 rcases hq with rfl | rfl | rfl | rfl | rfl | rfl | rfl | rfl | rfl | rfl | rfl | rfl | rfl <;> exact ⟨by decide +kernel, by decide +kernel⟩
theorem x4u {a : Addr} {n : Nat} {h1 h2 h3 : Int} {t1 t2 t3 u1 u2 u3 : Tok} {k1 k2 k3 v1 v2 v3 : Str} (X : K.In h) (G : h.Ns mainGlobals mg) (e : nsIn K mainGlobals "OPENING" = some (some (.ref a)))
  (hl : K.lookup a = some ⟨.type "dict", none, .dict #[⟨h1, .str k1 t1, .str v1 u1⟩, ⟨h2, .str k2 t2, .str v2 u2⟩, ⟨h3, .str k3 t3, .str v3 u3⟩] n, #[]⟩)
  (hk : KeysLit w.params [⟨h1, .str k1 t1, .str v1 u1⟩, ⟨h2, .str k2 t2, .str v2 u2⟩, ⟨h3, .str k3 t3, .str v3 u3⟩])
  (c1 : k1 = S [41]) (c2 : k2 = S [93]) (c3 : k3 = S [125]) (d1 : v1 = S [40]) (d2 : v2 = S [91]) (d3 : v3 = S [123]) (hs : (a == sysModules) = false) :
  ∃ a m, mg "OPENING" = some (.ref a) /\ (a == sysModules) = false /\ (∀ h' : Heap, (∀ b o, h.get? b = some o -> h'.get? b = some o) -> h'.MapOf (strKind prog w) a m) /\
   ∀ x, (∀ y, openF x = some y -> ∃ t, m x = some (.str y t)) /\ (openF x = none -> m x = none) := by
 refine ⟨a, _, mg_of X G e, hs, fun h' hh => mapOf_K (prog := prog) (X.keeps fun b o e => hh b o e) hl hk, fun x => ?_⟩
 subst c1 c2 c3 d1 d2 d3
 have key : ∀ l : List Nat, (S l == x) = decide (cs x = l) := fun l => by
  cases hx : decide (cs x = l) with
  | true => rw [<- k6 hx, D8, beq_self_eq_true]
  | false => exact w2 fun q => of_decide_eq_false hx (by rw [<- eq_of_beq q, O5])
 unfold findBy openF
 rw [List.find?_toArray]
 simp only [List.find?, Value.isStrOf, key]
 by_cases e1 : cs x = [41]
 . simp [e1]
 . by_cases e2 : cs x = [93]
   . simp [e2]
   . by_cases e3 : cs x = [125]
     . simp [e3]
     . simp [e1, e2, e3]
theorem x3q (T : Top p loose mean mg mb s.heap) (hb : x1D p loose = true) (g0 : PyProof.Rows.valOf p "MOST_ROWS" = some (.int 64)) (g1 : PyProof.Rows.valOf p "MOST_SIGNS" = some (.int 120)) (g2 : PyProof.Rows.valOf p "OPENERS" = some (.str (S [40, 91, 123])))
  (hs : ∃ o, s.heap.get? sysModules = some o)
  (ho : ∃ a m, mg "OPENING" = some (.ref a) /\ (a == sysModules) = false /\ (∀ h' : Heap, (∀ b o, s.heap.get? b = some o -> h'.get? b = some o) -> h'.MapOf (strKind prog w) a m) /\
   ∀ x, (∀ y, openF x = some y -> ∃ t, m x = some (.str y t)) /\ (openF x = none -> m x = none)) : (C0 prog w s mg mb K pc as).Ok := by
 refine ⟨T.g, T.b, T.nolimit, hs, fun k x d hk => ?_, fun x v hx => ?_, ho⟩
 . have key : ∀ {x : Str} {d : PyData}, PyProof.Rows.valOf p x = some d -> ∃ v, mg x = some v /\ ∀ W, Rep W v d := fun g => let ⟨v, h1, h2⟩ := T.const _ _ g; ⟨v, h1, fun W => ⟨[], h2 _⟩⟩
   match k, hk with
   | 0, hk => cases hk; exact key g0
   | 1, hk => cases hk; exact key g1
   | 2, hk => cases hk; exact key g2
   | k + 3, hk => cases hk
 . have hm := mem_of_lookup hx
   have hc := List.all_eq_true.mp hb _ hm
   simp only [Bool.and_eq_true, Bool.not_eq_true', List.contains_eq_mem, decide_eq_false_iff_not] at hc
   obtain ⟨⟨⟨⟨c1, c2⟩, c3⟩, c4⟩, c5⟩ := hc
   obtain ⟨b1, b2⟩ := x6s _ hm
   exact ⟨T.free x c1 c2 c3 c4 c5, (T.builtins x b1).trans b2⟩
noncomputable def nM (K : Frag) (pc : Addr) : Bool := findIn K (.ref pc) "__getattribute__" == some (some (.builtin "object.__getattribute__")) && findIn K (.ref pc) "__getattr__" == some none && ((List.range 6).all fun j => findIn K (.ref pc) (m9 j) == some none) &&
 (clsIn K pc).any (·.hasDict) && findIn K (.ref pc) "__setattr__" == some (some (.builtin "object.__setattr__")) && plainOver K pc && keepIn K (.ref pc) && makesIn K pc && nsIn K mainGlobals "Page" == some (some (.ref pc))
theorem x4A (X : K.In s.heap) (G : s.heap.Ns mainGlobals mg) (e : nM K pc = true) : PgCls (C0 prog w s mg mb K pc as) := by
 obtain ⟨e, c9⟩ := and2 e
 obtain ⟨e, c8⟩ := and2 e
 obtain ⟨e, c7⟩ := and2 e
 obtain ⟨e, c6⟩ := and2 e
 obtain ⟨e, c5⟩ := and2 e
 obtain ⟨e, c4⟩ := and2 e
 obtain ⟨e, c3⟩ := and2 e
 obtain ⟨c1, c2⟩ := and2 e
 exact ⟨X, eq_of_beq c1, eq_of_beq c2, fun j hj => eq_of_beq (List.all_eq_true.mp c3 j (List.mem_range.mpr hj)), c4, eq_of_beq c5, c6, c7, c8, mg_of X G (eq_of_beq c9)⟩
noncomputable def vC (K : Frag) (as : List Addr) (k : Nat) : Bool := (List.range 7).all fun c => subIn K (D6 as k) (D6 as c) == some (y7 k c)
noncomputable def oH (K : Frag) (as : List Addr) (c : Nat) : Bool := (clsIn K (as.getD c 0)).isSome && typeIn K (D6 as c) == some (.type "type") && subIn K (D6 as c) (.type "BaseException") == some true && nsIn K mainGlobals (y0 c) == some (some (D6 as c))
theorem x2i {C : Addr} (X : K.In h) (e : (clsIn K C).isSome = true) (M : Model) : Looks M h (isType (.ref C)) true := by
 delta clsIn at e
 cases ho : K.lookup C with
 | none => rw [ho] at e; cases e
 | some o =>
  obtain ⟨c', d', dd, sl'⟩ := o
  rw [ho] at e
  cases dd with
  | cls cd =>
   intro A' Q' E' s' k q
   unfold isType loadHead
   exact wpAny_bind (wpAny_loadPart (k _ _ (X _ _ ho)) (wpAny_pure q))
  | _ => cases e
theorem x0y : typeOf (.type "ValueError") = pure (.type "type") := by
 show (pure (Value.type ((Manifest.find? "ValueError").elim "type" (·.metatype))) : Sem Value) = pure (.type "type")
 rw [find?_eq_fast]; kernel_rfl
theorem x0P {c : Nat} (h : c <= 5) : D6 as c = .ref (as.getD c 0) := if_neg fun q => by rw [q] at h; exact absurd h (by decide)
section
variable (X : K.In s.heap) (G : s.heap.Ns mainGlobals mg) (e1 : ((List.range 5).all fun k => vC K as k) = true) (e2 : ((List.range 6).all fun c => oH K as c) = true)
include X e2
theorem x3J {c : Nat} (hc : c <= 6) (M : Model) : Looks M s.heap (typeOf (D6 as c)) (.type "type") := by
 rcases Nat.lt_or_ge c 6 with q | q
 . have := and2 (and2 (and2 (List.all_eq_true.mp e2 c (List.mem_range.mpr q))).1).1
   exact looks_typeIn X (eq_of_beq this.2)
 . cases Nat.le_antisymm hc q; exact Looks.of_pure x0y
theorem x6G {c : Nat} (hc : c <= 6) (M : Model) : Looks M s.heap (isType (D6 as c)) true := by
 rcases Nat.lt_or_ge c 6 with q | q
 . have := and2 (and2 (and2 (List.all_eq_true.mp e2 c (List.mem_range.mpr q))).1).1
   rw [x0P (Nat.le_of_lt_succ q)]
   exact x2i X this.1 M
 . cases Nat.le_antisymm hc q; exact Looks.of_pure rfl
include G e1
theorem yL : ∀ c, c <= 5 -> mg (y0 c) = some (D6 as c) := fun c hc => mg_of X G (eq_of_beq (and2 (List.all_eq_true.mp e2 c (List.mem_range.mpr (Nat.lt_succ_of_le hc)))).2)
theorem x3U : XcLk (C0 prog w s mg mb K pc as) := by
 refine ⟨fun c hc => (x3J X e2 (Nat.le_succ_of_le hc) _).andThen (looks_subIn X (by kernel_rfl)), fun c hc => ?_, fun k c hk hc => looks_subIn X (eq_of_beq (List.all_eq_true.mp (List.all_eq_true.mp e1 k (List.mem_range.mpr hk)) c (List.mem_range.mpr (Nat.lt_succ_of_le hc))))⟩
 exact (x6G X e2 (Nat.le_succ_of_le hc) _).andThen (looks_subIn X (eq_of_beq (and2 (and2 (List.all_eq_true.mp e2 c (List.mem_range.mpr (Nat.lt_succ_of_le hc)))).1).2))
theorem x1B (T : Top p loose mean mg mb s.heap) (hs : ∀ k, k < 5 -> specOf p (y0 k) = some ("ValueError.__new__", [.type "ValueError", .type "Exception", .type "BaseException", .type "object"])) : jZ (C0 prog w s mg mb K pc as) := fun k hk => by
 obtain ⟨C, O, _⟩ := T.ownAt (hs k hk)
 refine ⟨C, _, _, _, ?_, O, F.excBase_ValueError, by decide +kernel⟩
 have h1 := mg_of X G (eq_of_beq (and2 (List.all_eq_true.mp e2 k (List.mem_range.mpr (Nat.lt_succ_of_lt hk)))).2)
 exact Option.some.inj (h1.symm.trans O.bound)
end
end
end Mine.Internal
end
section
open PySem.W
namespace Mine.Internal
noncomputable def topT (h : Heap) : Tags := fun b => if (h.get? b).isSome then .fz else .junk
theorem qS {h : Heap} {b : Addr} {o : Obj} (e : h.get? b = some o) : topT h b = .fz := by unfold topT; rw [e]; rfl
theorem x5Z {T : Tp} : Wok T true [] ⟨topT T.s.heap, T.s.heap⟩ := by
 have no : ∀ b, topT T.s.heap b = .fz \/ topT T.s.heap b = .junk := fun b => by
  unfold topT
  cases (T.s.heap.get? b).isSome with
  | true => exact .inl rfl
  | false => exact .inr rfl
 refine ⟨fun b e => ?_, fun b o e => ⟨e, qS e⟩, fun k fl e => (nomatch e), fun x y k e => ?_, fun _ x k e => ?_, fun b o d e => ?_⟩
 . show topT T.s.heap b = _
   unfold topT
   rw [show T.s.heap.get? b = none from e]; rfl
 . rcases no x with q | q <;> cases q.symm.trans e
 . rcases no x with q | q <;> cases q.symm.trans e
 . rcases no b with q | q <;> cases q.symm.trans e
theorem x6F {T : Tp} {P : Tab} {k N : Nat} {d : FnDef} {fa : Addr} {A : Around} {vs : List Value} {ds : List PyData} {p' : List Slots} {Q : VP} {E : VP}
  (X : Text T P) (hk : P.lookup k = some d) (h1 : d.kind = 1) (hm : T.mg d.name = some (.ref fa)) (hR : Room N A) (hf : A.frames = some []) (hv : RepAll ⟨topT T.s.heap, T.s.heap⟩ vs ds) (hr : Gam P N k [] (ds.map .val) = .ret (.val (.bool true)) p')
  (hq : ∀ h' tk, (∀ b o, T.s.heap.get? b = some o -> h'.get? b = some o) -> Q (.bool true) { T.s with heap := h', toks := tk }) :
  wpAny (model T.prog T.w) A (call (.ref fa) vs) Q E T.s := by
 obtain ⟨f, o, fd, body, H⟩ := X.defs k d hk
 cases (H.top (by rw [h1]; decide)).symm.trans hm
 have F := x6k X N k d fa o fd body hk H { T := T, A := A, env := default, nm := [], d := 0, c := true, full := false, h := false } rfl hR
 rw [h1] at F
 have args : ∀ {vs : List Value} {ds : List PyData}, RepAll ⟨topT T.s.heap, T.s.heap⟩ vs ds -> ArgR (Cx.up { T := T, A := A, env := default, nm := [], d := 0, c := true, full := false, h := false } true) ⟨topT T.s.heap, T.s.heap⟩ vs (ds.map .val) := fun {vs ds} h => by
  induction ds generalizing vs with
  | nil => cases h.inv0; trivial
  | cons d ds ih => obtain ⟨v, vs', rfl, r, r'⟩ := h.inv; exact ⟨⟨rfl, r⟩, ih r'⟩
 refine wpAny_call (codeAny_mono (F ⟨topT T.s.heap, T.s.heap⟩ T.s.toks vs _ [] (fun r s => match r with | .ok (.ret v) => Q v s | _ => False) x5Z ⟨[], hf, fun e he => nomatch he⟩ (args hv) ?_) fun r s h => ?_)
 . rw [hr]
   intro W' tk v l K' r _
   cases show v = .bool true from Rep.inv (d := .bool true) r
   exact hq W'.h tk fun b o e => (K'.top b o e).1
 . rcases r with e | (v | _ | _ | _) <;> first | exact h | exact h.elim
theorem oA {W : Ws} : ∀ {vs : List Value} {xs : List Int}, IntsAre vs xs -> RepAll W vs (xs.map .int)
 | _, _, .nil => .nil
 | _, _, .cons _ _ h => .cons .int (oA h)
end Mine.Internal
end
section
namespace Mine.Internal
section
variable {U : Nat -> Fn} {st st1 st2 : St} {f : F} {fs ys : List F} {a b c e es : CE} {s t : CS} {k : Nat} {o : Op} {p : Pl}
theorem d5 (h1 : ev U a st = .ok [f] st1) (h2 : ev U b st1 = .ok ys st2) : ev U (.cons a b) st = .ok (f.frz :: ys) st2 := by
 show (ev U a st).bind _ = _
 rw [h1]
 show (ev U b st1).bind _ = _
 rw [h2]; rfl
theorem f0 {i : Int} (h1 : ev U a st = .ok [.val (.int i)] st1) (h2 : ev U b st1 = .ok ys st2) : ev U (.cons a b) st = .ok (.val (.int i) :: ys) st2 := d5 h1 h2
theorem m6 {l : List Nat} (h1 : ev U a st = .ok [.val (.str (S l))] st1) (h2 : ev U b st1 = .ok ys st2) : ev U (.cons a b) st = .ok (.val (.str (S l)) :: ys) st2 := d5 h1 h2
theorem d6 (h : ev U es st = .ok fs st1) : ev U (.op o es) st = o3 o fs st1 := by show (ev U es st).bind _ = _; rw [h]; rfl
theorem qA {pure : Bool} (h : ev U es st = .ok fs st1) : ev U (.call pure k es) st = callE U pure k fs st1 := by show (ev U es st).bind _ = _; rw [h]; rfl
theorem x3I (h : ev U es st = .ok fs st1) : ev U (.new es) st = Y4 U fs st1 := by show (ev U es st).bind _ = _; rw [h]; rfl
theorem j5 (h : ev U e st = .ok fs st1) : ex U (.assign p e) st = R3 p fs st1 := by show (ev U e st).bind _ = _; rw [h]; rfl
theorem d4 (h : ex U s st = .ok .next st1) : ex U (.seq s t) st = ex U t st1 := by show (ex U s st).bind _ = _; rw [h]; rfl
theorem f8 (h : ex U s st = .ok (.ret f) st1) : ex U (.seq s t) st = .ok (.ret f) st1 := by show (ex U s st).bind _ = _; rw [h]; rfl
theorem p0 (h : ex U s st = .exc k st1) : ex U (.seq s t) st = .exc k st1 := by show (ex U s st).bind _ = _; rw [h]; rfl
theorem eV {q : Bool} (h : ev U c st = .ok [bV q] st1) : ex U (.iff c s t) st = if q then ex U s st1 else ex U t st1 := by show (toB (ev U c st)).bind _ = _; rw [h]; rfl
theorem i9 (h : ev U c st = .ok [bV true] st1) : ex U (.iff c s t) st = ex U s st1 := (eV h).trans rfl
theorem j3 (h : ev U c st = .ok [bV false] st1) : ex U (.seq (.iff c s .nil) t) st = ex U t st1 := d4 ((eV h).trans rfl)
theorem nU (h : ev U e st = .ok fs st1) : ex U (.ret e) st = P5 fs st1 := by show (ev U e st).bind _ = _; rw [h]; rfl
theorem k4 {d : PyData} (h : ev U e st = .ok [.val d] st1) : ex U (.ret e) st = .ok (.ret (.val d)) st1 := (nU h).trans rfl
theorem x6C (h : ev U e st = .exc k st1) : ex U (.ret e) st = .exc k st1 := by show (ev U e st).bind _ = _; rw [h]; rfl
theorem L8 (h : ev U e st = .exc k st1) : ex U (.drop e) st = .exc k st1 := by show (ev U e st).bind _ = _; rw [h]; rfl
theorem R2 (h : ex U s st = .exc k st1) : ex U (.try_ s t) st = ex U t { st1 with x := k } := by show tryE (ex U s st) _ = _; rw [h]; rfl
end
end Mine.Internal
end
section
namespace Mine.Internal.S
noncomputable abbrev b9 (a : CE) : CE := .cons a .nil
noncomputable abbrev a9 (a b : CE) : CE := .cons a (.cons b .nil)
noncomputable abbrev bA (a b : CE) : CE := .op (.bin .Add) (a9 a b)
noncomputable abbrev bM (a b : CE) : CE := .op (.bin .Mod) (a9 a b)
noncomputable abbrev bX (a b : CE) : CE := .op (.bin .Mult) (a9 a b)
noncomputable abbrev o0 (a b : CE) : CE := .op (.bin .Sub) (a9 a b)
noncomputable abbrev bF (a b : CE) : CE := .op (.bin .FloorDiv) (a9 a b)
noncomputable abbrev j9 (a b c : CE) : CE := .cons a (.cons b (.cons c .nil))
noncomputable abbrev Q6 (a b c d : CE) : CE := .cons a (.cons b (.cons c (.cons d .nil)))
noncomputable abbrev x3Y (a b c d e : CE) : CE := .cons a (.cons b (.cons c (.cons d (.cons e .nil))))
noncomputable abbrev vA (a b c d e f : CE) : CE := .cons a (.cons b (.cons c (.cons d (.cons e (.cons f .nil)))))
noncomputable abbrev x3D (a b c d e f g h i j : CE) : CE := .cons a (.cons b (.cons c (.cons d (.cons e (.cons f (.cons g (.cons h (.cons i (.cons j .nil)))))))))
noncomputable abbrev d8 : CE := .get (.loc 0)
noncomputable abbrev d7 : CE := .get (.loc 1)
noncomputable abbrev f6 : CE := .get (.loc 2)
noncomputable abbrev f5 : CE := .get (.loc 3)
noncomputable abbrev g7 : CE := .get (.loc 4)
noncomputable abbrev i8 : CE := .get (.loc 5)
noncomputable abbrev j7 : CE := .get (.loc 6)
noncomputable abbrev n3 : CE := .get (.loc 7)
noncomputable abbrev C4 : CE := .get (.loc 8)
noncomputable abbrev rZ : CE := .get (.loc 9)
noncomputable abbrev p7 : CE := .get (.loc 10)
noncomputable abbrev iH : CE := .get (.loc 11)
noncomputable abbrev lN : CE := .get (.loc 12)
noncomputable abbrev j0 : CE := .lit (.int 0)
noncomputable abbrev f7 : CE := .lit (.int 1)
noncomputable abbrev j4 : CE := .lit (.int 2)
noncomputable abbrev w9 : CE := .lit (.int 3)
noncomputable abbrev y4 : CE := .lit (.int 4)
noncomputable abbrev B8 : CE := .lit (.int 5)
noncomputable abbrev E3 : CE := .lit (.int 6)
noncomputable abbrev B9 : CE := .lit (.int 7)
noncomputable abbrev gU : CE := .lit (.int 8)
noncomputable abbrev aQ : CE := .lit (.int 9)
noncomputable abbrev cV : CE := .lit (.int 10)
noncomputable abbrev iN : CE := .lit (.int 11)
noncomputable abbrev qG : CE := .lit (.int 13)
noncomputable abbrev oY : CE := .lit (.int 14)
noncomputable abbrev mM : CE := .lit (.int 24)
noncomputable abbrev x5O : CE := .lit (.int 32)
noncomputable abbrev yU : CE := .lit (.int 37)
noncomputable abbrev O2 : CE := .lit (.int 56)
noncomputable abbrev z7 : CE := .lit (.int 63)
noncomputable abbrev dF : CE := .lit (.int 64)
noncomputable abbrev x4s : CE := .lit (.int 94)
noncomputable abbrev nG : CE := .lit (.int 100)
noncomputable abbrev fY : CE := .lit (.int 118)
noncomputable abbrev R7 : CE := .lit (.int 120)
noncomputable abbrev x2d : CE := .lit (.int 126)
noncomputable abbrev hU : CE := .lit (.int 10007)
noncomputable abbrev Z2 : CE := .lit (.int 10009)
noncomputable abbrev bJ : CE := .lit (.int 16807)
noncomputable abbrev I9 : CE := .lit (.int 48271)
noncomputable abbrev x2G : CE := .lit (.int 69621)
noncomputable abbrev uX : CE := .lit (.int 100003)
noncomputable abbrev x2j : CE := .lit (.int 100019)
noncomputable abbrev sV : CE := .lit (.int 2147483647)
noncomputable def dY : CS := .seq (.iff (.not (.call true 1 (b9 d7))) (.seq (.ret (.lit (.bool false))) .nil) .nil) .nil
noncomputable def gZ : CS := .seq (.iff (.not (.call true 2 (b9 d7))) (.seq (.ret (.lit (.bool false))) .nil) .nil) .nil
noncomputable def jB : CS := .seq (.iff (.cmpNil false (.loc 5)) (.seq (.append (.loc 3) (.call true 7 (a9 j7 f6))) .nil) (.seq (.iff (.cmp .NotEq (a9 (.op .idx (a9 (.peek .pop (.loc 5) .nil) j0)) (.op .getOpen (b9 (.op .idx (a9 j7 j0)))))) (.seq (.ret (.op .tup (j9 f5 (.call true 7 (a9 j7 f6)) (.op .lst .nil)))) .nil) .nil) .nil)) .nil
noncomputable def rB : CS := .seq (.iff (.call true 4 (b9 f5)) (.seq (.assign (.loc 5) (.op .tup (j9 f5 j0 f6))) (.seq (.assign (.loc 6) (.op .tup (j9 (.op .lst .nil) (.lit .none) (.op .lst (b9 i8))))) (.seq (.iff (.inOpen f5) (.seq (.assign (.loc 6) (.op .tup (j9 (.op .lst (b9 i8)) (.lit .none) (.op .lst .nil)))) .nil) .nil) (.seq (.assign (.loc 1) (.call true 9 (j9 d7 j7 j0))) .nil)))) .nil) .nil
noncomputable def aA : CS := .iff (.and i8 (.cmp .IsNot (a9 f6 (.lit .none)))) (.seq (.append (.loc 1) (.op .tup (j9 f6 (.op (.slc true true) (j9 d8 f6 f5)) f5))) (.seq (.assign (.loc 2) (.lit .none)) .nil)) .nil
noncomputable def aC : CS := .iff (.call true 4 (b9 g7)) (.seq (.append (.loc 1) (.op .tup (j9 f5 g7 (bA f5 f7)))) .nil) (.seq (.iff (.and (.not i8) (.cmp .Is (a9 f6 (.lit .none)))) (.seq (.assign (.loc 2) f5) .nil) .nil) .nil)
noncomputable def aE : CE := .or (.cmp .Eq (a9 g7 (.lit (.str (S [32]))))) (.call true 4 (b9 g7))
noncomputable def aB : CS := .seq (.assign (.loc 5) aE) (.seq aA (.seq aC .nil))
noncomputable def s4 : CS := (.iff (.cmp .Eq (a9 n3 B9)) (.seq (.assign (.loc 8) (.call true 31 (b9 (bF i8 z7)))) (.seq (.assign (.loc 3) (bA f5 (.op .idx (a9 (.op .lst (a9 (.lit (.str (S [97]))) C4)) (.op .toInt (b9 (.cmp .NotIn (a9 C4 (.lit (.str (S [40, 41, 91, 93, 123, 125]))))))))))) .nil)) (.seq (.assign (.loc 3) (bA f5 (.op .idx (a9 (.lit (.str (S [32, 120]))) (bM (bF i8 z7) j4))))) .nil))
noncomputable def s3 : CS := (.iff (.and (.cmp .Lt (a9 n3 B8)) (.cmp .NotEq (a9 g7 (.lit (.str (S [])))))) (.seq (.assign (.loc 3) (bA f5 (.op .idx (a9 g7 j0)))) (.seq (.assign (.loc 4) (.op (.slc true false) (a9 g7 f7))) .nil)) (.seq s4 .nil))
noncomputable def s2 : CS := (.iff (.cmp .Lt (a9 n3 j4)) (.seq (.assign (.loc 4) (bA (.op .idx (a9 (.lit (.str (S [41, 93, 125]))) (bM (bF i8 z7) w9))) g7)) (.seq (.assign (.loc 3) (bA f5 (.op .idx (a9 (.lit (.str (S [40, 91, 123]))) (bM (bF i8 z7) w9))))) .nil)) (.seq s3 .nil))
noncomputable def s1 : CS := (.iff (.or (.and f6 (.cmp .Eq (a9 (bM j7 j4) f7))) (.and (.cmp .Eq (a9 n3 E3)) (.not f6))) (.seq (.assign (.loc 3) (bA f5 (.lit (.str (S [10]))))) .nil) (.seq s2 .nil))
noncomputable def sB : CS := (.seq (.assign (.loc 5) (bM (bA (bA (bX i8 I9) (bX iN j7)) B9) sV)) (.seq (.assign (.loc 7) (bM (bF i8 B9) aQ)) (.seq s1 .nil)))
noncomputable def t5 : CS := (.iff (.cmp .Eq (a9 (bM (.call true 30 (a9 d8 j4)) y4) f7)) (.seq (.assign (.loc 3) (bA (bA (.op (.slc false true) (a9 f5 g7)) (.op .idx (a9 (.lit (.str (S [40, 91, 123, 41, 93, 125, 32, 122]))) (bM (bM (bX d7 bJ) Z2) gU)))) (.op (.slc true false) (a9 f5 g7)))) .nil) .nil)
noncomputable def t6 : CS := (.iff (.cmp .Eq (a9 (bM (.call true 30 (a9 d8 j4)) y4) j4)) (.seq (.assign (.loc 3) (bA (.op (.slc false true) (a9 f5 g7)) (.op (.slc true false) (a9 f5 (bA g7 f7))))) .nil) .nil)
noncomputable def t7 : CS := (.iff (.cmp .Eq (a9 (bM (.call true 30 (a9 d8 j4)) y4) w9)) (.seq (.assign (.loc 3) (.op (.slc false true) (a9 f5 g7))) .nil) .nil)
noncomputable def t9 : CS := (.iff (.cmp .Eq (a9 (bM (bF (.call true 30 (a9 d8 j4)) y4) E3) f7)) (.seq (.assign (.loc 6) (.comp 7 1 (b9 (o0 nG (bM d7 O2))) (.call true 31 (b9 (bA (.call true 30 (a9 d8 j0)) (bX B9 n3)))) .nil)) (.seq (.append (.loc 5) (.sm .join (.lit (.str (S []))) (b9 (.comp 7 0 j7 n3 (.cmp .NotIn (a9 n3 (.lit (.str (S [32, 40, 41, 91, 93, 123, 125]))))))))) .nil)) .nil)
noncomputable def x2o : CS := (.iff (.cmp .Eq (a9 (bM (bF (.call true 30 (a9 d8 j4)) mM) E3) f7)) (.seq (.setidx (.loc 5) j0 (bA (bX (.op .idx (a9 (.lit (.str (S [32, 120]))) (bM d7 j4))) (o0 fY (.op .len (b9 (.peek .idx (.loc 5) (b9 j0)))))) (.peek .idx (.loc 5) (b9 j0)))) .nil) .nil)
noncomputable def c1 : CE := .comp 7 1 (b9 (o0 nG (bM d7 O2))) (.call true 31 (b9 (bA (.call true 30 (a9 d8 j0)) (bX B9 n3)))) .nil
noncomputable def c2 : CE := .comp 7 0 j7 n3 (.cmp .NotIn (a9 n3 (.lit (.str (S [32, 40, 41, 91, 93, 123, 125])))))
noncomputable def dX : CS := .seq (.iff (.inOpen j7) (.seq (.assign (.loc 8) (.peek .pop (.loc 2) .nil)) (.seq (.setidx (.loc 1) C4 (bA (.op (.slc false true) (a9 (.peek .idx (.loc 1) (b9 C4)) y4)) (.op .tup (a9 f5 n3)))) .nil)) (.seq (.append (.loc 1) (.op .tup (vA (.peek .len (.loc 2) .nil) j7 f5 i8 f5 n3))) (.seq (.iff (.call true 4 (b9 j7)) (.seq (.append (.loc 2) (o0 (.peek .len (.loc 1) .nil) f7)) .nil) .nil) .nil))) .nil
noncomputable def tW : CS := .seq (.append (.fld 0 5) (.op .tup (a9 g7 (o0 (bA g7 (.peek .len (.loc 3) .nil)) f6)))) .nil
noncomputable def uT : CS := .loop false [4] 1 (a9 (bA d7 f6) (.peek .len (.fld 0 0) .nil)) tW
noncomputable def iV : CS := .iff (.cmp .In (a9 g7 (.lit (.str (S [40, 91, 123]))))) (.seq (.append (.loc 1) (.op .tup (j9 g7 f6 f5))) .nil) .nil
noncomputable def zR : CS := .seq (.iff (.cmpNil false (.loc 1)) (.seq (.ret (.op .tup (j9 f6 f5 (.lit (.str (S [99, 108, 111, 115, 101, 115, 32, 110, 111, 116, 104, 105, 110, 103])))))) .nil) .nil) (.seq (.iff (.cmp .NotEq (a9 (.sm .find (.lit (.str (S [40, 91, 123]))) (b9 (.op .idx (a9 (.peek .pop (.loc 1) .nil) j0)))) (.sm .find (.lit (.str (S [41, 93, 125]))) (b9 g7)))) (.seq (.ret (.op .tup (j9 f6 f5 (.lit (.str (S [99, 108, 111, 115, 101, 115, 32, 97, 110, 111, 116, 104, 101, 114])))))) .nil) .nil) .nil)
noncomputable def fB : CS := .seq iV (.seq (.iff (.cmp .In (a9 g7 (.lit (.str (S [41, 93, 125]))))) zR .nil) .nil)
noncomputable def gB : CS := .seq (.loop true [3, 4] 2 (b9 (.op .idx (a9 d8 f6))) fB) .nil
noncomputable def Z0 : CE := .op .lst (x3D (.lit (.str (S [40]))) (.lit (.str (S [41]))) (.lit (.str (S [91]))) (.lit (.str (S [93]))) (.lit (.str (S [123]))) (.lit (.str (S [125]))) (.lit (.str (S [10]))) (.lit (.str (S [32]))) (.lit (.str (S [97]))) (.call true 31 (b9 (bF d7 iN))))
noncomputable def dP : CS := .seq (.assign (.loc 4) Z0) (.seq (.assign (.loc 5) (.op .idx (a9 g7 (bM (bM (bX d7 I9) hU) cV)))) (.seq (.iff (.or (.and (.cmp .Eq (a9 i8 (.lit (.str (S [10]))))) (.cmp .Eq (a9 (.op .len (b9 d8)) dF))) (.and (.cmp .NotEq (a9 i8 (.lit (.str (S [10]))))) (.cmp .Eq (a9 (.op .len (b9 (.op .idx (a9 d8 f6)))) R7)))) (.seq (.ret (.lit .none)) .nil) .nil) (.seq (.ret (.op .tup (Q6 j0 f6 f5 i8))) .nil)))
noncomputable def dC : CS := .seq (.iff (.cmp .Lt (a9 f5 (.op .len (b9 (.op .idx (a9 d8 f6)))))) (.seq (.ret (.op .tup (Q6 f7 f6 f5 (.lit (.str (S [])))))) .nil) .nil) (.seq (.iff (.or (.cmp .Eq (a9 (bA f6 f7) (.op .len (b9 d8)))) (.cmp .Gt (a9 (bA (.op .len (b9 (.op .idx (a9 d8 f6)))) (.op .len (b9 (.op .idx (a9 d8 (bA f6 f7)))))) R7))) (.seq (.ret (.lit .none)) .nil) .nil) (.seq (.ret (.op .tup (Q6 f7 f6 f5 (.lit (.str (S [])))))) .nil))
noncomputable def fV : CS := .seq (.loop true [5, 6, 7] 0 g7 dX) .nil
noncomputable def mI : CE := .or (.not (.op (.isinst .str) (b9 f5))) (.or (.cmp .NotEq (a9 (.op .len (b9 f5)) f7)) (.and (.cmp .NotEq (a9 f5 (.lit (.str (S [10]))))) (.not (.call true 1 (b9 f5)))))
noncomputable abbrev sI (i : Int) : Option F := some (.val (.int i))
noncomputable abbrev sG (c : Nat) : Option F := some (.val (sgn c))
noncomputable abbrev sT (l : List Nat) : Option F := some (.val (.str (S l)))
noncomputable def bR : FnDef := ⟨3, "__init__", ["self", "rows"], [], (.seq (.iff (.not (.call true 3 (b9 (.lend 1)))) (.seq (.raise 0) .nil) .nil) (.seq (.assign (.fld 0 0) (.peek .copy (.loc 1) .nil)) (.seq (.assign (.fld 0 1) (.comp 2 0 (.lend 1) (.call true 5 (b9 f6)) .nil)) (.seq (.assign (.fld 0 2) (.comp 2 0 (.lend 1) f7 .nil)) (.seq (.setd (.fld 0 3)) (.seq (.assign (.fld 0 4) j0) (.seq (.assign (.fld 0 5) (.op .lst .nil)) (.seq (.drop (.meth 15 d8 .nil)) .nil))))))))⟩
noncomputable def aZ : FnDef := ⟨2, "join_all", ["self"], [], (.seq (.setd (.fld 0 3)) (.seq (.drop (.meth 16 d8 (j9 j0 (.peek .len (.fld 0 0) .nil) (.lit .none)))) .nil))⟩
noncomputable def I3 : FnDef := ⟨2, "join_over", ["self", "low", "high", "changed"], ["found", "middle", "first"], (.seq (.iff (.and (.cmp .IsNot (a9 f5 (.lit .none))) (.not (.chain (a9 d7 f5) .LtE .Lt f6))) (.seq (.ret (.peek .key (.fld 0 3) (b9 (.op .tup (a9 d7 f6))))) .nil) .nil) (.seq (.iff (.cmp .Eq (a9 (o0 f6 d7) f7)) (.seq (.assign (.loc 4) (.call true 8 (b9 (.peek .idx (.fld 0 1) (b9 d7))))) .nil) (.seq (.assign (.loc 5) (bA d7 (bF (o0 f6 d7) j4))) (.seq (.assign (.loc 6) (.meth 16 d8 (j9 d7 i8 f5))) (.seq (.assign (.loc 4) (.call true 9 (j9 j7 (.meth 16 d8 (j9 i8 f6 f5)) (o0 i8 d7)))) (.seq (.assign (.fld 0 4) (bA (.get (.fld 0 4)) f7)) .nil))))) (.seq (.setkey (.fld 0 3) (.op .tup (a9 d7 f6)) g7) (.seq (.ret g7) .nil))))⟩
noncomputable def V9 : FnDef := ⟨2, "need_place", ["self", "row", "place"], [], (.seq (.iff (.or (.not (.chain (a9 j0 d7) .LtE .Lt (.peek .len (.fld 0 0) .nil))) (.not (.chain (a9 j0 f6) .LtE .LtE (.op .len (b9 (.peek .idx (.fld 0 0) (b9 d7))))))) (.seq (.raise 1) .nil) .nil) .nil)⟩
noncomputable def cK : FnDef := ⟨2, "change_row", ["self", "row", "fresh"], [], (.seq (.setidx (.fld 0 0) d7 f6) (.seq (.setidx (.fld 0 1) d7 (.call true 5 (b9 (.lend 2)))) (.seq (.setidx (.fld 0 2) d7 (bA (.peek .idx (.fld 0 2) (b9 d7)) f7)) (.seq (.assign (.fld 0 5) (.comp 3 1 (b9 (.peek .len (.fld 0 0) .nil)) (.op .tup (a9 f5 f5)) (.cmp .NotEq (a9 f5 d7)))) (.seq (.drop (.meth 16 d8 (j9 j0 (.peek .len (.fld 0 0) .nil) d7))) .nil)))))⟩
noncomputable def Z9 : FnDef := ⟨2, "change_rows", ["self", "row", "gone", "fresh"], ["k"], (.seq (.assign (.fld 0 5) (.comp 5 1 (b9 d7) (.op .tup (a9 i8 i8)) .nil)) (.seq uT (.seq (.assign (.fld 0 0) (bA (bA (.op (.slc false true) (a9 (.get (.fld 0 0)) d7)) f5) (.op (.slc true false) (a9 (.get (.fld 0 0)) (bA d7 f6))))) (.seq (.assign (.fld 0 1) (bA (bA (.op (.slc false true) (a9 (.get (.fld 0 1)) d7)) (.comp 5 0 (.lend 3) (.call true 5 (b9 i8)) .nil)) (.op (.slc true false) (a9 (.get (.fld 0 1)) (bA d7 f6))))) (.seq (.assign (.fld 0 2) (bA (bA (.op (.slc false true) (a9 (.get (.fld 0 2)) d7)) (.comp 5 0 (.lend 3) f7 .nil)) (.op (.slc true false) (a9 (.get (.fld 0 2)) (bA d7 f6))))) (.seq (.drop (.meth 15 d8 .nil)) .nil))))))⟩
noncomputable def J0 : FnDef := ⟨2, "put", ["self", "row", "place", "sign"], ["text"], (.seq (.drop (.meth 17 d8 (a9 d7 f6))) (.seq (.iff mI (.seq (.raise 2) .nil) .nil) (.seq (.assign (.loc 4) (.peek .idx (.fld 0 0) (b9 d7))) (.seq (.iff (.cmp .Eq (a9 f5 (.lit (.str (S [10]))))) (.seq (.iff (.cmp .Eq (a9 (.peek .len (.fld 0 0) .nil) (.glob 0))) (.seq (.raise 3) .nil) .nil) (.seq (.drop (.meth 19 d8 (j9 d7 f7 (.op .lst (a9 (.op (.slc false true) (a9 g7 f6)) (.op (.slc true false) (a9 g7 f6))))))) .nil)) (.seq (.iff (.cmp .Eq (a9 (.op .len (b9 g7)) (.glob 1))) (.seq (.raise 3) .nil) .nil) (.seq (.drop (.meth 18 d8 (a9 d7 (bA (bA (.op (.slc false true) (a9 g7 f6)) f5) (.op (.slc true false) (a9 g7 f6)))))) .nil))) .nil))))⟩
noncomputable def I2 : FnDef := ⟨2, "cut", ["self", "row", "place"], ["text"], (.seq (.drop (.meth 17 d8 (a9 d7 f6))) (.seq (.assign (.loc 3) (.peek .idx (.fld 0 0) (b9 d7))) (.seq (.iff (.cmp .Lt (a9 f6 (.op .len (b9 f5)))) (.seq (.drop (.meth 18 d8 (a9 d7 (bA (.op (.slc false true) (a9 f5 f6)) (.op (.slc true false) (a9 f5 (bA f6 f7))))))) (.seq .retN .nil)) .nil) (.seq (.iff (.cmp .Eq (a9 d7 (o0 (.peek .len (.fld 0 0) .nil) f7))) (.seq (.raise 1) .nil) .nil) (.seq (.iff (.cmp .Gt (a9 (bA (.op .len (b9 f5)) (.op .len (b9 (.peek .idx (.fld 0 0) (b9 (bA d7 f7)))))) (.glob 1))) (.seq (.raise 3) .nil) .nil) (.seq (.drop (.meth 19 d8 (j9 d7 j4 (.op .lst (b9 (bA f5 (.peek .idx (.fld 0 0) (b9 (bA d7 f7))))))))) .nil))))))⟩
noncomputable def Z4 : FnDef := ⟨2, "text", ["self"], [], (.seq (.ret (.peek .copy (.fld 0 0) .nil)) .nil)⟩
noncomputable def bU : FnDef := ⟨2, "fault", ["self"], [], (.seq (.ret (.call true 10 (b9 (.peek .key (.fld 0 3) (b9 (.op .tup (a9 j0 (.peek .len (.fld 0 0) .nil)))))))) .nil)⟩
noncomputable def aW : FnDef := ⟨2, "tree", ["self"], [], (.seq (.iff (.cmp .IsNot (a9 (.meth 23 d8 .nil) (.lit .none))) (.seq (.raise 4) .nil) .nil) (.seq (.ret (.callP 6 (.fld 0 1))) .nil))⟩
noncomputable def hM : FnDef := ⟨0, "is_sign", ["sign"], [], (.seq (.ret (.and (.chain (a9 x5O (.op .ord (b9 d8))) .LtE .LtE x2d) (.cmp .NotEq (a9 (.op .ord (b9 d8)) yU)))) .nil)⟩
noncomputable def cR : FnDef := ⟨0, "is_row", ["thing"], ["sign"], (.seq (.iff (.or (.not (.op (.isinst .str) (b9 d8))) (.cmp .Gt (a9 (.op .len (b9 d8)) (.glob 1)))) (.seq (.ret (.lit (.bool false))) .nil) .nil) (.seq (.loop false [1] 0 d8 dY) (.seq (.ret (.lit (.bool true))) .nil)))⟩
noncomputable def fQ : FnDef := ⟨0, "is_text", ["rows"], ["row"], (.seq (.iff (.not (.chain (a9 f7 (.peek .len (.loc 0) .nil)) .LtE .LtE (.glob 0))) (.seq (.ret (.lit (.bool false))) .nil) .nil) (.seq (.loop false [1] 0 (.lend 0) gZ) (.seq (.ret (.lit (.bool true))) .nil)))⟩
noncomputable def Y0 : FnDef := ⟨0, "is_bracket", ["sign"], [], (.seq (.ret (.or (.cmp .In (a9 d8 (.glob 2))) (.inOpen d8))) .nil)⟩
noncomputable def gS : FnDef := ⟨0, "taken_apart", ["row"], ["found", "begin", "place", "sign", "ends"], (.seq (.assign (.loc 1) (.op .lst .nil)) (.seq (.assign (.loc 2) (.lit .none)) (.seq (.loop true [3, 4] 2 (b9 (bA d8 (.lit (.str (S [32]))))) aB) (.seq (.ret d7) .nil))))⟩
noncomputable def dU : FnDef := ⟨0, "lower", ["mark", "rows"], [], (.seq (.ret (.op .tup (j9 (.op .idx (a9 d8 j0)) (bA (.op .idx (a9 d8 f7)) d7) (.op .idx (a9 d8 j4))))) .nil)⟩
noncomputable def jC : FnDef := ⟨0, "reading_of", ["triples"], ["reading", "place", "what", "behind", "mark", "one"], (.seq (.assign (.loc 1) (.op .tup (j9 (.op .lst .nil) (.lit .none) (.op .lst .nil)))) (.seq (.loop true [2, 3, 4] 0 d8 rB) (.seq (.ret d7) .nil)))⟩
noncomputable def eN : FnDef := ⟨0, "joined", ["first", "second", "rows"], ["closing", "fault", "waiting", "mark"], (.seq (.unpack [3, 4, 5] d8) (.seq (.iff (.cmp .IsNot (a9 g7 (.lit .none))) (.seq (.ret d8) .nil) .nil) (.seq (.assign (.loc 3) (.peek .copy (.loc 3) .nil)) (.seq (.assign (.loc 5) (.peek .copy (.loc 5) .nil)) (.seq (.loop false [6] 0 (.op .idx (a9 d7 j0)) jB) (.seq (.iff (.cmp .IsNot (a9 (.op .idx (a9 d7 f7)) (.lit .none))) (.seq (.ret (.op .tup (j9 f5 (.call true 7 (a9 (.op .idx (a9 d7 f7)) f6)) (.op .lst .nil)))) .nil) .nil) (.seq (.ret (.op .tup (j9 f5 (.lit .none) (bA i8 (.comp 7 0 (.op .idx (a9 d7 j4)) (.call true 7 (a9 n3 f6)) .nil))))) .nil)))))))⟩
noncomputable def jV : FnDef := ⟨0, "fault_in", ["reading"], ["closing", "fault", "waiting"], (.seq (.unpack [1, 2, 3] d8) (.seq (.iff (.cmpNil true (.loc 1)) (.seq (.ret (.op .tup (j9 (.op .idx (a9 (.peek .idx (.loc 1) (b9 j0)) f7)) (.op .idx (a9 (.peek .idx (.loc 1) (b9 j0)) j4)) (.lit (.str (S [99, 108, 111, 115, 101, 115, 32, 110, 111, 116, 104, 105, 110, 103])))))) .nil) .nil) (.seq (.iff (.cmp .IsNot (a9 f6 (.lit .none))) (.seq (.ret (.op .tup (j9 (.op .idx (a9 f6 f7)) (.op .idx (a9 f6 j4)) (.lit (.str (S [99, 108, 111, 115, 101, 115, 32, 97, 110, 111, 116, 104, 101, 114])))))) .nil) .nil) (.seq (.iff (.cmpNil true (.loc 3)) (.seq (.ret (.op .tup (j9 (.op .idx (a9 (.peek .idx (.loc 3) (b9 (.op .neg (b9 f7)))) f7)) (.op .idx (a9 (.peek .idx (.loc 3) (b9 (.op .neg (b9 f7)))) j4)) (.lit (.str (S [108, 101, 102, 116, 32, 111, 112, 101, 110])))))) .nil) .nil) (.seq (.ret (.lit .none)) .nil)))))⟩
noncomputable def dK : FnDef := ⟨0, "_law_cell_at", ["_law_script", "_law_k"], [], (.seq (.iff (.cmp .Lt (a9 d7 (.op .len (b9 d8)))) (.seq (.ret (.op .idx (a9 d8 d7))) .nil) .nil) (.seq (.ret j0) .nil))⟩
noncomputable def gL : FnDef := ⟨0, "_law_any_sign", ["_law_cell"], ["_law_some"], (.seq (.assign (.loc 1) (.lit (.str (S [32, 33, 34, 35, 36, 38, 39, 40, 41, 42, 43, 44, 45, 46, 47, 48, 49, 50, 51, 52, 53, 54, 55, 56, 57, 58, 59, 60, 61, 62, 63, 64, 65, 66, 67, 68, 69, 70, 71, 72, 73, 74, 75, 76, 77, 78, 79, 80, 81, 82, 83, 84, 85, 86, 87, 88, 89, 90, 91, 92, 93, 94, 95, 96])))) (.seq (.assign (.loc 1) (bA d7 (.lit (.str (S [97, 98, 99, 100, 101, 102, 103, 104, 105, 106, 107, 108, 109, 110, 111, 112, 113, 114, 115, 116, 117, 118, 119, 120, 121, 122, 123, 124, 125, 126]))))) (.seq (.ret (.op .idx (a9 d7 (bM d8 x4s)))) .nil)))⟩
noncomputable def jX : FnDef := ⟨0, "_law_stream", ["_law_cell", "_law_size", "_law_parted"], ["_law_signs", "_law_opened", "_law_number", "_law_k", "_law_way", "_law_sign"], (.seq (.assign (.loc 3) (.lit (.str (S [])))) (.seq (.assign (.loc 4) (.lit (.str (S [])))) (.seq (.assign (.loc 5) (.op .abs (b9 d8))) (.seq (.loop false [6] 1 (b9 d7) (.seq (.assign (.loc 5) (bM (bA (bA (bX i8 I9) (bX iN j7)) B9) sV)) (.seq (.assign (.loc 7) (bM (bF i8 B9) aQ)) (.seq (.iff (.or (.and f6 (.cmp .Eq (a9 (bM j7 j4) f7))) (.and (.cmp .Eq (a9 n3 E3)) (.not f6))) (.seq (.assign (.loc 3) (bA f5 (.lit (.str (S [10]))))) .nil) (.seq (.iff (.cmp .Lt (a9 n3 j4)) (.seq (.assign (.loc 4) (bA (.op .idx (a9 (.lit (.str (S [41, 93, 125]))) (bM (bF i8 z7) w9))) g7)) (.seq (.assign (.loc 3) (bA f5 (.op .idx (a9 (.lit (.str (S [40, 91, 123]))) (bM (bF i8 z7) w9))))) .nil)) (.seq (.iff (.and (.cmp .Lt (a9 n3 B8)) (.cmp .NotEq (a9 g7 (.lit (.str (S [])))))) (.seq (.assign (.loc 3) (bA f5 (.op .idx (a9 g7 j0)))) (.seq (.assign (.loc 4) (.op (.slc true false) (a9 g7 f7))) .nil)) (.seq (.iff (.cmp .Eq (a9 n3 B9)) (.seq (.assign (.loc 8) (.call true 31 (b9 (bF i8 z7)))) (.seq (.assign (.loc 3) (bA f5 (.op .idx (a9 (.op .lst (a9 (.lit (.str (S [97]))) C4)) (.op .toInt (b9 (.cmp .NotIn (a9 C4 (.lit (.str (S [40, 41, 91, 93, 123, 125]))))))))))) .nil)) (.seq (.assign (.loc 3) (bA f5 (.op .idx (a9 (.lit (.str (S [32, 120]))) (bM (bF i8 z7) j4))))) .nil)) .nil)) .nil)) .nil)) .nil)))) (.seq (.ret (bA f5 g7)) .nil)))))⟩
noncomputable def jD : FnDef := ⟨0, "_law_text", ["_law_script"], ["_law_way", "_law_parted", "_law_signs", "_law_at", "_law_rows", "_law_some"], (.seq (.assign (.loc 1) (.call true 30 (a9 d8 f7))) (.seq (.assign (.loc 2) (.cmp .Eq (a9 (bM (bF d7 O2) E3) f7))) (.seq (.assign (.loc 3) (.call true 32 (j9 (.call true 30 (a9 d8 j0)) (bX (bM d7 O2) (bA f7 (.op .toInt (b9 f6)))) f6))) (.seq (.assign (.loc 4) (bM (bM (bX d7 I9) uX) (bA (.op .len (b9 f5)) f7))) (.seq (.iff (.cmp .Eq (a9 (bM (.call true 30 (a9 d8 j4)) y4) f7)) (.seq (.assign (.loc 3) (bA (bA (.op (.slc false true) (a9 f5 g7)) (.op .idx (a9 (.lit (.str (S [40, 91, 123, 41, 93, 125, 32, 122]))) (bM (bM (bX d7 bJ) Z2) gU)))) (.op (.slc true false) (a9 f5 g7)))) .nil) .nil) (.seq (.iff (.cmp .Eq (a9 (bM (.call true 30 (a9 d8 j4)) y4) j4)) (.seq (.assign (.loc 3) (bA (.op (.slc false true) (a9 f5 g7)) (.op (.slc true false) (a9 f5 (bA g7 f7))))) .nil) .nil) (.seq (.iff (.cmp .Eq (a9 (bM (.call true 30 (a9 d8 j4)) y4) w9)) (.seq (.assign (.loc 3) (.op (.slc false true) (a9 f5 g7))) .nil) .nil) (.seq (.assign (.loc 5) (.sm .splitNl f5 .nil)) (.seq (.iff (.cmp .Eq (a9 (bM (bF (.call true 30 (a9 d8 j4)) y4) E3) f7)) (.seq (.assign (.loc 6) c1) (.seq (.append (.loc 5) (.sm .join (.lit (.str (S []))) (b9 c2))) .nil)) .nil) (.seq (.iff (.cmp .Eq (a9 (bM (bF (.call true 30 (a9 d8 j4)) mM) E3) f7)) (.seq (.setidx (.loc 5) j0 (bA (bX (.op .idx (a9 (.lit (.str (S [32, 120]))) (bM d7 j4))) (o0 fY (.op .len (b9 (.peek .idx (.loc 5) (b9 j0)))))) (.peek .idx (.loc 5) (b9 j0)))) .nil) .nil) (.seq (.ret i8) .nil)))))))))))⟩
end Mine.Internal.S
end
section
namespace Mine.Internal
section
variable {U : Nat -> Fn} {st st1 : St} {f : F} {fs ys : List F} {a b c e es ab : CE} {s t body : CS} {k kd : Nat} {x y q q1 q2 : Bool} {u v w d : PyData} {o1 o2 op : CmpOp} {xs : List PyData} {is : List Nat} {many : Bool} {pg : List Slots}
theorem k9 (h : ev U es st = .ok [.val u, .val v] st1) (h1 : cmpF op u v = some q) : ev U (.cmp op es) st = .ok [bV q] st1 := by
 show (ev U es st).bind _ = _
 rw [h]
 show oneO ((cmpF op u v).map bV) st1 = _
 rw [h1]; rfl
theorem K4 (h : ev U ab st = .ok [.val u, .val v] st) (h1 : cmpF o1 u v = some q1) (h2 : ev U c st = .ok [.val w] st) (h3 : cmpF o2 v w = some q2) : ev U (.chain ab o1 o2 c) st = .ok [bV (q1 && q2)] st := by
 show (ev U ab st).bind _ = _
 rw [h]
 show (match cmpF o1 u v with | some true => _ | some false => _ | none => _) = _
 rw [h1]
 cases q1 with
 | false => rfl
 | true =>
  show (ev U c st).bind _ = _
  rw [h2]
  show oneO ((cmpF o2 v w).map bV) st = _
  rw [h3]; rfl
theorem y2 (h : ev U a st = .ok [bV x] st1) : ev U (.not a) st = .ok [bV (!x)] st1 := by show (toB (ev U a st)).bind _ = _; rw [h]; rfl
theorem q7 (h : ev U a st = .ok [bV x] st) (h2 : x = true -> ev U b st = .ok [bV y] st) : ev U (.and a b) st = .ok [bV (x && y)] st := by
 show (toB (ev U a st)).bind _ = _
 rw [h]
 cases x with
 | false => rfl
 | true => exact h2 rfl
theorem v8 (h : ev U a st = .ok [bV x] st) (h2 : x = false -> ev U b st = .ok [bV y] st) : ev U (.or a b) st = .ok [bV (x || y)] st := by
 show (toB (ev U a st)).bind _ = _
 rw [h]
 cases x with
 | true => rfl
 | false => exact h2 rfl
theorem n8 (h : ev U es st = .ok fs st1) (ha : args st1.v fs = some ys) (hr : U k [] ys = .ret f []) : ev U (.call true k es) st = .ok [f] st1 := (qA h).trans (by
 show (match args st1.v fs with | some as => outE true (U k [] as) st1 | none => .stuck) = _
 rw [ha]
 show outE true (U k [] ys) st1 = _
 rw [hr]; rfl)
theorem o5 (h : ev U c st = .ok [bV false] st1) : ex U (.iff c s t) st = ex U t st1 := (eV h).trans rfl
theorem A9 (h : (ev U e st).bind (itE kd) = .ok xs st1) : ex U (.loop many is kd e body) st = forL (stepB U many is body) xs st1 := by show R.bind _ _ = _; rw [h]; rfl
theorem t8 (h : ev U e st = .ok fs st1) (hi : itF kd st1.v fs = some xs) : (ev U e st).bind (itE kd) = .ok xs st1 := by
 rw [h]
 show (match itF kd st1.v fs with | some xs => R.ok xs st1 | none => .stuck) = _
 rw [hi]
theorem u6 {step : PyData -> St -> R Fl} (h : step d st = .ok .next st1) : forL step (d :: xs) st = forL step xs st1 := by show (match step d st with | .ok .next st => _ | .ok (.ret f) st => _ | _ => _) = _; rw [h]
theorem T5 {step : PyData -> St -> R Fl} (h : step d st = .ok (.ret f) st1) : forL step (d :: xs) st = .ok (.ret f) st1 := by show (match step d st with | .ok .next st => _ | .ok (.ret f) st => _ | _ => _) = _; rw [h]
theorem p8 (h : bindT many is d st = some st1) : stepB U many is body d st = ex U body st1 := by show (match bindT many is d st with | some st' => ex U body st' | none => .stuck) = _; rw [h]
theorem j2 {np nv x' : Nat} {v' : Slots} {p' : List Slots} (hl : ys.length = np) (h : ex U body ⟨ys.map some ++ List.replicate nv none, pg, 0⟩ = .ok (.ret f) ⟨v', p', x'⟩) : w7 U np nv body pg ys = .ret f p' := by unfold w7; rw [if_pos hl, h]; rfl
theorem I1 {np nv j x' : Nat} {v' : Slots} {p' : List Slots} (hl : ys.length = np) (h : ex U body ⟨ys.map some ++ List.replicate nv none, pg, 0⟩ = .exc j ⟨v', p', x'⟩) : w7 U np nv body pg ys = .exc j p' := by unfold w7; rw [if_pos hl, h]; rfl
theorem D1 (h : ev U e st = .ok [.own xs] st1) : ex U (.ret e) st = .ok (.ret (.own xs)) st1 := (nU h).trans rfl
end
end Mine.Internal
namespace Mine.Internal.S
noncomputable abbrev strD (l : List Nat) : PyData := .str (S l)
noncomputable def m5 (c : Nat) : Bool := (decide ((32 : Int) <= c) && decide ((c : Int) <= 126)) && !((c : Int) == 37)
noncomputable def m8 (c : Nat) : Bool := A0 (S [40, 91, 123]) (S [c]) || (openF (S [c])).isSome
section
variable {U : Nat -> Fn} {c : Nat} {l : List Nat} {d : PyData} {ds : List PyData}
noncomputable abbrev B (U : Nat -> Fn) (d : FnDef) (fs : List F) : Out := w7 U d.ps.length d.vs.length d.body [] fs
theorem x1q : B U hM [.val (sgn c)] = .ret (.val (.bool (m5 c))) [] :=
 j2 rfl (f8 (k4 (q7 (K4 (u := .int 32) (v := .int c) (w := .int 126) rfl rfl rfl rfl) fun _ => k9 (u := .int c) (v := .int 37) rfl rfl)))
noncomputable def Z3 (U : Nat -> Fn) : Prop := ∀ c, U 1 [] [.val (sgn c)] = .ret (.val (.bool (m5 c))) []
theorem x1V : B U Y0 [.val (sgn c)] = .ret (.val (.bool (m8 c))) [] :=
 j2 rfl (f8 (k4 (v8 (k9 (u := sgn c) (v := strD [40, 91, 123]) rfl rfl) fun _ => rfl)))
noncomputable def n4 (l : List Nat) : Bool := decide (l.length <= 120) && l.all m5
noncomputable def G6 (d : PyData) : Bool := match asS d with
 | some x => n4 (cs x)
 | none => false
noncomputable def G9 (d : PyData) : Bool := match asS d with
 | some x => okLen (cs x).length
 | none => d.ctorIdx != 6
theorem pN (h : Z3 U) {a : Option F} : ∀ (l : List Nat) (b : Option F), ∃ b', forL (stepB U false [1] dY) (l.map sgn) ⟨[a, b], [], 0⟩ = if l.all m5 then .ok .next ⟨[a, b'], [], 0⟩ else .ok (.ret (.val (.bool false))) ⟨[a, b'], [], 0⟩
 | [], b => ⟨b, rfl⟩
 | c :: l, b => by
  have hc : ev U (.not (.call true 1 (b9 d7))) ⟨[a, some (.val (sgn c))], [], 0⟩ = .ok [bV (!m5 c)] _ := y2 (n8 (fs := [.val (sgn c)]) (d5 (f := .val (sgn c)) rfl rfl) rfl (h c))
  cases hs : m5 c with
  | true =>
   rw [hs] at hc
   obtain ⟨b', e⟩ := pN h (a := a) l (sG c)
   refine ⟨b', (u6 ((p8 rfl).trans (j3 hc))).trans (e.trans ?_)⟩
   rw [List.all_cons, hs]; rfl
  | false =>
   rw [hs] at hc
   refine ⟨some (.val (sgn c)), (T5 ((p8 rfl).trans (f8 ((i9 hc).trans (f8 (k4 rfl)))))).trans ?_⟩
   rw [List.all_cons, hs]; rfl
theorem x6o (h : Z3 U) (hd : G9 d = true) : B U cR [.val d] = .ret (.val (.bool (G6 d))) [] := by
 unfold G6
 unfold G9 at hd
 cases hx : asS d with
 | none =>
  rw [hx] at hd
  have e1 : ev U (.op (.isinst .str) (b9 d8)) ⟨[some (.val d), none], [], 0⟩ = .ok [bV false] ⟨[some (.val d), none], [], 0⟩ := (d6 (fs := [.val d]) (d5 (f := .val d) rfl rfl)).trans (by
   show oneO (gd (d.ctorIdx != 6) (.val (.bool (d.ctorIdx == 3)))) _ = _
   have : (d.ctorIdx == 3) = false := by
    cases hq : d.ctorIdx == 3 with
    | false => rfl
    | true => unfold asS at hx; rw [dif_pos (eq_of_beq hq)] at hx; cases d <;> first | cases hx | cases hq
   rw [show (d.ctorIdx != 6) = true from hd, this]; rfl)
  exact j2 rfl (f8 ((i9 (v8 (y := false) (y2 e1) fun q => nomatch q)).trans (f8 (k4 rfl))))
 | some x =>
  rw [hx] at hd
  cases fJ hx
  have hd : okLen (cs x).length = true := hd
  have e2 : ev U (.op .len (b9 d8)) ⟨[some (.val (.str x)), none], [], 0⟩ = .ok [.val (.int (cs x).length)] ⟨[some (.val (.str x)), none], [], 0⟩ := (d6 (fs := [.val (.str x)]) (d5 (f := .val (.str x)) rfl rfl)).trans (by
   show oneO ((((lenL (cs x)).or none).or none).map intV) _ = _
   unfold lenL; rw [hd]; rfl)
  have e3 := v8 (y := decide ((120 : Int) < (cs x).length)) (y2 (a := .op (.isinst .str) (b9 d8)) (x := true) (U := U) (st := ⟨[some (.val (.str x)), none], [], 0⟩) (st1 := ⟨[some (.val (.str x)), none], [], 0⟩) rfl) fun _ => k9 (op := .Gt) (es := .cons (.op .len (b9 d8)) (b9 (.glob 1))) (u := .int (cs x).length) (v := .int 120) (d5 e2 rfl) rfl
  show _ = Out.ret (.val (.bool (n4 (cs x)))) []
  unfold n4
  by_cases hl : (cs x).length <= 120
  . rw [show decide ((120 : Int) < (cs x).length) = false from dff (by lia)] at e3
    rw [dtt hl]
    obtain ⟨b', e⟩ := pN h (a := some (.val (.str x))) (cs x) none
    have e4 := A9 (many := false) (is := [1]) (body := dY) (t8 (kd := 0) (e := .get (.loc 0)) (U := U) (st := ⟨[some (.val (.str x)), none], [], 0⟩) (xs := (cs x).map sgn) rfl (by
     show ((gd (okLen (cs x).length) ((cs x).map sgn)).or none).or none = _
     rw [hd]; rfl))
    cases ha : (cs x).all m5 with
    | true => rw [ha] at e; exact j2 rfl ((j3 e3).trans ((d4 (e4.trans e)).trans (f8 (k4 rfl))))
    | false => rw [ha] at e; exact j2 rfl ((j3 e3).trans (f8 (e4.trans e)))
  . rw [show decide ((120 : Int) < (cs x).length) = true from dtt (by lia)] at e3
    rw [dff hl]
    exact j2 rfl (f8 ((i9 e3).trans (f8 (k4 rfl))))
noncomputable def jR (U : Nat -> Fn) : Prop := ∀ d, G9 d = true -> U 2 [] [.val d] = .ret (.val (.bool (G6 d))) []
noncomputable def S0 (ds : List PyData) : Bool := (decide ((1 : Int) <= ds.length) && decide ((ds.length : Int) <= 64)) && ds.all G6
theorem lU (h : jR U) {a : Option F} : ∀ (ds : List PyData) (b : Option F), ds.all G9 = true -> ∃ b', forL (stepB U false [1] gZ) ds ⟨[a, b], [], 0⟩ = if ds.all G6 then .ok .next ⟨[a, b'], [], 0⟩ else .ok (.ret (.val (.bool false))) ⟨[a, b'], [], 0⟩
 | [], b, _ => ⟨b, rfl⟩
 | d :: ds, b, hr => by
  obtain ⟨h1, h2⟩ := and2 (List.all_cons ▸ hr)
  have hc : ev U (.not (.call true 2 (b9 d7))) ⟨[a, some (.val d)], [], 0⟩ = .ok [bV (!G6 d)] _ := y2 (n8 (fs := [.val d]) (d5 (f := .val d) rfl rfl) rfl (h d h1))
  cases hs : G6 d with
  | true =>
   rw [hs] at hc
   obtain ⟨b', e⟩ := lU h (a := a) ds (some (.val d)) h2
   refine ⟨b', (u6 ((p8 rfl).trans (j3 hc))).trans (e.trans ?_)⟩
   rw [List.all_cons, hs]; rfl
  | false =>
   rw [hs] at hc
   refine ⟨some (.val d), (T5 ((p8 rfl).trans (f8 ((i9 hc).trans (f8 (k4 rfl)))))).trans ?_⟩
   rw [List.all_cons, hs]; rfl
theorem x4F (h : jR U) (hz : okLen ds.length = true) (hr : ds.all G9 = true) : B U fQ [.val (.list ds)] = .ret (.val (.bool (S0 ds))) [] := by
 have e2 : ev U (.peek .len (.loc 0) .nil) ⟨[some (.val (.list ds)), none], [], 0⟩ = .ok [.val (.int ds.length)] ⟨[some (.val (.list ds)), none], [], 0⟩ := by
  show oneO ((lenL ds).map intV) _ = _
  unfold lenL; rw [hz]; rfl
 have e3 := y2 (K4 (o1 := .LtE) (o2 := .LtE) (c := .glob 0) (u := .int 1) (w := .int 64) (d5 (a := .lit (.int 1)) (f := .val (.int 1)) rfl (d5 (b := .nil) e2 rfl)) rfl rfl rfl)
 unfold S0
 cases hb : decide ((1 : Int) <= ds.length) && decide ((ds.length : Int) <= 64) with
 | false => rw [hb] at e3; exact j2 rfl (f8 ((i9 e3).trans (f8 (k4 rfl))))
 | true =>
  rw [hb] at e3
  obtain ⟨b', e⟩ := lU h (a := some (.val (.list ds))) ds none hr
  have e4 := A9 (many := false) (is := [1]) (body := gZ) (t8 (kd := 0) (e := .lend 0) (U := U) (st := ⟨[some (.val (.list ds)), none], [], 0⟩) (xs := ds) rfl (by
   show (((none : Option (List PyData)).or (gd (okLen ds.length) ds)).or none) = _
   rw [hz]; rfl))
  cases ha : ds.all G6 with
  | true => rw [ha] at e; exact j2 rfl ((j3 e3).trans ((d4 (e4.trans e)).trans (f8 (k4 rfl))))
  | false => rw [ha] at e; exact j2 rfl ((j3 e3).trans (f8 (e4.trans e)))
noncomputable def vL (U : Nat -> Fn) : Prop := ∀ ds : List PyData, okLen ds.length = true -> ds.all G9 = true -> U 3 [] [.val (.list ds)] = .ret (.val (.bool (S0 ds))) []
end
end Mine.Internal.S
end
section
namespace Mine.Internal.S
noncomputable def isOp (c : Nat) : Bool := decide (c ∈ [40, 91, 123])
noncomputable def isCl (c : Nat) : Bool := decide (c ∈ [41, 93, 125])
noncomputable def p5 (c : Nat) : Nat := if c = 41 then 40 else if c = 93 then 91 else 123
theorem jL (l : List Nat) (c : Nat) : A0 (S l) (S [c]) = decide (c ∈ l) := by
 unfold A0
 exact PySem.StrLaws.found_one (S l) c
theorem bD (c : Nat) : openF (S [c]) = if isCl c then some (S [p5 c]) else none := by
 unfold openF isCl p5
 simp only [O5, List.cons.injEq, and_true]
 by_cases h1 : c = 41
 . simp [h1]
 . by_cases h2 : c = 93
   . simp [h2]
   . by_cases h3 : c = 125
     . simp [h3]
     . simp [h1, h2, h3]
theorem C5 (c : Nat) : m8 c = (isOp c || isCl c) := by
 unfold m8
 rw [jL, bD]
 show (isOp c || _) = _
 cases isCl c <;> rfl
noncomputable abbrev Mk := Nat × Nat × Nat
structure Rd where
 cl : List Mk
 ft : Option Mk
 wt : List Mk
noncomputable def Rd.nil : Rd := ⟨[], none, []⟩
noncomputable def step (R : Rd) (m : Mk) : Rd :=
 if R.ft.isSome then R
 else if isCl m.1 then (match R.wt.getLast? with
  | none => { R with cl := R.cl ++ [m] }
  | some t => if t.1 = p5 m.1 then { R with wt := R.wt.dropLast } else ⟨R.cl, some m, []⟩)
 else { R with wt := R.wt ++ [m] }
noncomputable def run (R : Rd) (ms : List Mk) : Rd := ms.foldl step R
theorem jT (R : Rd) (a b : List Mk) : run R (a ++ b) = run (run R a) b := List.foldl_append
theorem x1l (R : Rd) (a : List Mk) (m : Mk) : run R (a ++ [m]) = step (run R a) m := by rw [jT]; rfl
noncomputable def low (n : Nat) (m : Mk) : Mk := (m.1, m.2.1 + n, m.2.2)
noncomputable def jl (n : Nat) : List Mk -> List Mk -> List Mk -> Rd ⊕ (List Mk × List Mk)
 | [], cl, wt => .inr (cl, wt)
 | m :: ms, cl, wt => match wt.getLast? with
  | none => jl n ms (cl ++ [low n m]) wt
  | some t => if t.1 = p5 m.1 then jl n ms cl wt.dropLast else .inl ⟨cl, some (low n m), []⟩
theorem x0D {n : Nat} {cl wt : List Mk} : jl n [] cl wt = .inr (cl, wt) := rfl
theorem G0 {n : Nat} {m : Mk} {ms cl wt : List Mk} : jl n (m :: ms) cl wt = (match wt.getLast? with | none => jl n ms (cl ++ [low n m]) wt | some t => if t.1 = p5 m.1 then jl n ms cl wt.dropLast else .inl ⟨cl, some (low n m), []⟩) := rfl
noncomputable def join (a b : Rd) (n : Nat) : Rd :=
 if a.ft.isSome then a
 else match jl n b.cl a.cl a.wt with
  | .inl r => r
  | .inr (cl, wt) => match b.ft with
   | some m => ⟨cl, some (low n m), []⟩
   | none => ⟨cl, none, wt ++ b.wt.map (low n)⟩
theorem Y1 (n : Nat) (m : Mk) : ∀ (ms cl wt : List Mk), jl n (ms ++ [m]) cl wt = match jl n ms cl wt with | .inl r => .inl r | .inr (cl', wt') => jl n [m] cl' wt'
 | [], cl, wt => rfl
 | k :: ms, cl, wt => by
  rw [List.cons_append, G0, G0]
  cases h : wt.getLast? with
  | none => exact Y1 n m ms _ _
  | some t =>
   dsimp only
   split
   . exact Y1 n m ms _ _
   . rfl
theorem aP (n : Nat) : ∀ (ms cl wt : List Mk) (r : Rd), jl n ms cl wt = .inl r -> r.ft.isSome = true
 | [], cl, wt, r, h => by cases h
 | k :: ms, cl, wt, r, h => by
  rw [G0] at h
  cases e : wt.getLast? with
  | none => rw [e] at h; exact aP n ms _ _ r h
  | some t =>
   rw [e] at h
   dsimp only at h
   split at h
   . exact aP n ms _ _ r h
   . cases h; rfl
theorem W7 {R : Rd} (h : R.ft.isSome = true) (m : Mk) : step R m = R := by delta step; rw [if_pos h]
theorem aL {R : Rd} {m : Mk} (hf : R.ft = none) (hc : isCl m.1 = true) (hw : R.wt.getLast? = none) : step R m = ⟨R.cl ++ [m], none, R.wt⟩ := by delta step; rw [hf, hc, hw]; rfl
theorem cH {R : Rd} {m t : Mk} (hf : R.ft = none) (hc : isCl m.1 = true) (hw : R.wt.getLast? = some t) (ho : t.1 = p5 m.1) : step R m = ⟨R.cl, none, R.wt.dropLast⟩ := by delta step; rw [hf, hc, hw]; simp [ho]
theorem Z6 {R : Rd} {m t : Mk} (hf : R.ft = none) (hc : isCl m.1 = true) (hw : R.wt.getLast? = some t) (ho : ¬ t.1 = p5 m.1) : step R m = ⟨R.cl, some m, []⟩ := by delta step; rw [hf, hc, hw]; simp [ho]
theorem aJ {R : Rd} {m : Mk} (hf : R.ft = none) (hc : isCl m.1 = false) : step R m = ⟨R.cl, none, R.wt ++ [m]⟩ := by delta step; rw [hf, hc]; rfl
theorem F8 {a b : Rd} {n : Nat} {r : Rd} (ha : a.ft = none) (hj : jl n b.cl a.cl a.wt = .inl r) : join a b n = r := by delta join; rw [ha, hj]; rfl
theorem Q1 {a b : Rd} {n : Nat} {cl wt : List Mk} (ha : a.ft = none) (hj : jl n b.cl a.cl a.wt = .inr (cl, wt)) (hb : b.ft = none) : join a b n = ⟨cl, none, wt ++ b.wt.map (low n)⟩ := by delta join; rw [ha, hj, hb]; rfl
theorem iE {a b : Rd} {n : Nat} {cl wt : List Mk} {m : Mk} (ha : a.ft = none) (hj : jl n b.cl a.cl a.wt = .inr (cl, wt)) (hb : b.ft = some m) : join a b n = ⟨cl, some (low n m), []⟩ := by delta join; rw [ha, hj, hb]; rfl
theorem x1Z (a b : Rd) (n : Nat) (m : Mk) : join a (step b m) n = step (join a b n) (low n m) := by
 cases ha : a.ft with
 | some k =>
  have : ∀ b, join a b n = a := fun b => by delta join; rw [ha]; rfl
  rw [this, this, W7 (by rw [ha]; rfl)]
 | none =>
 cases hb : b.ft with
 | some k =>
  rw [W7 (by rw [hb]; rfl)]
  symm
  apply W7
  cases hj : jl n b.cl a.cl a.wt with
  | inl r => rw [F8 ha hj]; exact aP n _ _ _ r hj
  | inr p => rw [iE ha (show _ = Sum.inr (p.1, p.2) from hj) hb]; rfl
 | none =>
 cases hj : jl n b.cl a.cl a.wt with
 | inl r =>
  have hr := aP n _ _ _ r hj
  rw [F8 ha hj, W7 hr]
  cases hc : isCl m.1 with
  | false => rw [aJ hb hc]; exact F8 ha hj
  | true =>
   cases hw : b.wt.getLast? with
   | none =>
    rw [aL hb hc hw]
    refine F8 ha ?_
    show jl n (b.cl ++ [m]) a.cl a.wt = _
    rw [Y1, hj]
   | some t =>
    by_cases ho : t.1 = p5 m.1
    . rw [cH hb hc hw ho]; exact F8 ha hj
    . rw [Z6 hb hc hw ho]; exact F8 ha hj
 | inr p =>
  obtain ⟨cl, wt⟩ := p
  rw [Q1 ha hj hb]
  cases hc : isCl m.1 with
  | false =>
   rw [aJ hb hc, aJ rfl (show isCl (low n m).1 = false from hc), Q1 (b := ⟨b.cl, none, b.wt ++ [m]⟩) ha hj rfl]
   simp
  | true =>
   have hc' : isCl (low n m).1 = true := hc
   cases hw : b.wt.getLast? with
   | none =>
    have hw' : b.wt = [] := by simpa using hw
    rw [aL hb hc hw, hw']
    have hj' : jl n (b.cl ++ [m]) a.cl a.wt = jl n [m] cl wt := by rw [Y1, hj]
    cases hl : wt.getLast? with
    | none =>
     have h1 : jl n [m] cl wt = .inr (cl ++ [low n m], wt) := by rw [G0, hl]; rfl
     rw [Q1 (b := ⟨b.cl ++ [m], none, []⟩) ha (hj'.trans h1) rfl, aL rfl hc' (by simpa using hl)]
    | some t =>
     by_cases ho : t.1 = p5 m.1
     . have h1 : jl n [m] cl wt = .inr (cl, wt.dropLast) := by rw [G0, hl]; simp only [ho, if_true]; rfl
       rw [Q1 (b := ⟨b.cl ++ [m], none, []⟩) ha (hj'.trans h1) rfl, cH (t := t) rfl hc' (by simpa using hl) ho]
       simp
     . have h1 : jl n [m] cl wt = .inl ⟨cl, some (low n m), []⟩ := by rw [G0, hl]; simp only [ho, if_false]
       rw [F8 (b := ⟨b.cl ++ [m], none, []⟩) ha (hj'.trans h1), Z6 (t := t) rfl hc' (by simpa using hl) ho]
   | some t =>
    have hne : b.wt ≠ [] := fun e => by rw [e] at hw; cases hw
    have hl : (wt ++ b.wt.map (low n)).getLast? = some (low n t) := by
     rw [List.getLast?_append, List.getLast?_map, hw]; rfl
    by_cases ho : t.1 = p5 m.1
    . rw [cH hb hc hw ho, cH (t := low n t) rfl hc' hl ho, Q1 (b := ⟨b.cl, none, b.wt.dropLast⟩) ha hj rfl]
      have hdl : (wt ++ b.wt.map (low n)).dropLast = wt ++ b.wt.dropLast.map (low n) := by
       rw [List.dropLast_append_of_ne_nil (by simpa using hne), List.map_dropLast]
      rw [hdl]
    . rw [Z6 hb hc hw ho, Z6 (t := low n t) rfl hc' hl ho, iE (b := ⟨b.cl, some m, []⟩) ha hj rfl]
theorem lE (a : Rd) (n : Nat) (ms : List Mk) : join a (run .nil ms) n = run a (ms.map (low n)) := by
 suffices h : ∀ l : List Mk, join a (run .nil l.reverse) n = run a (l.reverse.map (low n)) by simpa using h ms.reverse
 intro l
 induction l with
 | nil =>
  show join a .nil n = a
  delta join Rd.nil
  simp only [x0D, List.map_nil, List.append_nil]
  cases hf : a.ft with
  | none => simp [<- hf]
  | some m => simp
 | cons m l ih =>
  rw [List.reverse_cons, x1l, x1Z, ih, List.map_append, jT]
  rfl
theorem iI (R : Rd) (h : ∀ m ∈ R.cl, isCl m.1 = true) : ∀ ms, ∀ m ∈ (run R ms).cl, isCl m.1 = true
 | [] => h
 | k :: ms => by
  refine iI (step R k) ?_ ms
  delta step
  split
  . exact h
  . split
    . rename_i hk
      split
      . intro m hm
        rcases List.mem_append.mp hm with hm | hm
        . exact h m hm
        . rw [lsm hm]; exact hk
      . split
        . exact h
        . exact h
    . exact h
noncomputable def Rd.sz (R : Rd) : Nat := R.cl.length + R.wt.length
theorem iC (R : Rd) : ∀ ms, (run R ms).sz <= R.sz + ms.length
 | [] => Nat.le_refl _
 | k :: ms => by
  have h1 : (step R k).sz <= R.sz + 1 := by
   delta step Rd.sz
   split
   . lia
   . split
     . split
       . simp; lia
       . split
         . simp; lia
         . simp; lia
     . simp; lia
  have := iC (step R k) ms
  rw [List.length_cons]
  show (run (step R k) ms).sz <= _
  lia
inductive Fa where
 | ok
 | no (r p : Nat)
 | ano (r p : Nat)
 | lft (r p : Nat)
noncomputable def faultR (R : Rd) : Fa := match R.cl with
 | m :: _ => .no m.2.1 m.2.2
 | [] => match R.ft with
  | some m => .ano m.2.1 m.2.2
  | none => match R.wt.getLast? with
   | some m => .lft m.2.1 m.2.2
   | none => .ok
noncomputable def lf : List Mk -> List Mk -> Fa ⊕ List Mk
 | [], wt => .inr wt
 | m :: ms, wt => if isCl m.1 then (match wt.getLast? with
   | none => .inl (.no m.2.1 m.2.2)
   | some t => if t.1 = p5 m.1 then lf ms wt.dropLast else .inl (.ano m.2.1 m.2.2))
  else lf ms (wt ++ [m])
theorem gY {m : Mk} {ms wt : List Mk} : lf (m :: ms) wt = if isCl m.1 then (match wt.getLast? with | none => .inl (.no m.2.1 m.2.2) | some t => if t.1 = p5 m.1 then lf ms wt.dropLast else .inl (.ano m.2.1 m.2.2)) else lf ms (wt ++ [m]) := rfl
noncomputable def cJ (wt : List Mk) : Fa := match wt.getLast? with
 | some m => .lft m.2.1 m.2.2
 | none => .ok
theorem oO {k : Mk} : ∀ (ms : List Mk) (R : Rd) (l : List Mk), R.cl = k :: l -> ∃ l', (run R ms).cl = k :: l'
 | [], R, l, h => ⟨l, h⟩
 | m :: ms, R, l, h => by
  have : ∃ l', (step R m).cl = k :: l' := by
   delta step
   split
   . exact ⟨l, h⟩
   . split
     . split
       . exact ⟨l ++ [m], by simp [h]⟩
       . split
         . exact ⟨l, h⟩
         . exact ⟨l, h⟩
     . exact ⟨l, h⟩
  obtain ⟨l', h'⟩ := this
  exact oO ms (step R m) l' h'
theorem mP : ∀ (ms : List Mk) (R : Rd), R.ft.isSome = true -> run R ms = R
 | [], R, h => rfl
 | m :: ms, R, h => by
  show run (step R m) ms = R
  rw [W7 h]; exact mP ms R h
theorem hO : ∀ (ms wt : List Mk), (match lf ms wt with | .inl f => faultR (run ⟨[], none, wt⟩ ms) = f | .inr wt' => run ⟨[], none, wt⟩ ms = ⟨[], none, wt'⟩)
 | [], wt => rfl
 | m :: ms, wt => by
  rw [gY]
  have hrun : run ⟨[], none, wt⟩ (m :: ms) = run (step ⟨[], none, wt⟩ m) ms := rfl
  rw [hrun]
  delta step
  simp only [Option.isSome_none, Bool.false_eq_true, if_false]
  by_cases hc : isCl m.1 = true
  . simp only [hc, if_true]
    cases hw : wt.getLast? with
    | none =>
     dsimp only
     obtain ⟨l', h'⟩ := oO (k := m) ms ⟨[] ++ [m], none, wt⟩ [] rfl
     unfold faultR; rw [h']
    | some t =>
     dsimp only
     by_cases ho : t.1 = p5 m.1
     . simp only [ho, if_true]; exact hO ms wt.dropLast
     . simp only [ho, if_false]; rw [mP ms _ rfl]; rfl
  . simp only [hc, if_false]; exact hO ms (wt ++ [m])
theorem vX (ms : List Mk) : faultR (run .nil ms) = match lf ms [] with | .inl f => f | .inr wt => cJ wt := by
 have := hO ms []
 cases h : lf ms [] with
 | inl f => rw [h] at this; exact this
 | inr wt =>
  rw [h] at this
  dsimp only at this ⊢
  show faultR (run ⟨[], none, []⟩ ms) = _
  rw [this]; rfl
end Mine.Internal.S
end
section
namespace Mine.Internal
section
variable {U : Nat -> Fn} {st : St} {f : F} {ys : List F} {e es src elt : CE} {k n kd i : Nat} {o : Op} {x y q : Bool} {u v d : PyData} {xs : List PyData} {vv : Slots} {pp : List Slots}
theorem big {n m k : Nat} (h : n <= m) (q : Nat.ble m k = true := by rfl) : n <= k := nlt h (Nat.le_of_ble_eq_true q)
theorem kD {n : Nat} (h : n <= 100000) : okInt (n : Int) = true := by unfold okInt; rw [dtt (by lia), dtt (by lia)]; rfl
theorem i6 {n : Nat} (h : n <= 200000) : okLen n = true := dtt (nlt h (by decide))
theorem rD (hs : slot st.v i = some f) (hl : lstOf f = some xs) (hz : okLen xs.length = true) : ev U (.peek .len (.loc i) .nil) st = .ok [.val (.int xs.length)] st := by
 show (if (slot st.v i).isSome then oneO (((slot st.v i).bind lstOf).bind fun xs => (lenL xs).map intV) st else .stuck) = _
 rw [hs]
 show oneO ((lstOf f).bind fun xs => (lenL xs).map intV) st = _
 rw [hl]
 show oneO ((lenL xs).map intV) st = _
 unfold lenL; rw [hz]; rfl
theorem tF (hs : slot st.v i = some f) (hl : lstOf f = some xs) (hz : okLen xs.length = true) : ev U (.peek .copy (.loc i) .nil) st = .ok [.own xs] st := by
 show (if (slot st.v i).isSome then oneO (((slot st.v i).bind lstOf).bind fun xs => gd (okLen xs.length) (.own xs)) st else .stuck) = _
 rw [hs]
 show oneO ((lstOf f).bind fun xs => gd (okLen xs.length) (.own xs)) st = _
 rw [hl]
 show oneO (gd (okLen xs.length) (.own xs)) st = _
 rw [hz]; rfl
theorem M4 {m : Int} (hs : slot st.v i = some f) (hl : lstOf f = some xs) (he : ev U es st = .ok [.val (.int m)] st) (ha : atL xs m = some d) : ev U (.peek .idx (.loc i) es) st = .ok [.val d] st := by
 show (if (slot st.v i).isSome then (ev U es st).bind fun x st' => H0 .idx (.loc i) x st' else .stuck) = _
 rw [hs, he]
 show oneO (((slot st.v i).bind lstOf).bind fun xs => (atL xs m).map .val) st = _
 rw [hs]
 show oneO ((lstOf f).bind fun xs => (atL xs m).map .val) st = _
 rw [hl]
 show oneO ((atL xs m).map .val) st = _
 rw [ha]; rfl
theorem iM (hs : slot st.v i = some (.own xs)) (hz : okLen xs.length = true) (hl : xs.getLast? = some d) (hi : i < st.v.length) : ev U (.peek .pop (.loc i) .nil) st = .ok [.val d] { st with v := st.v.set i (some (.own xs.dropLast)) } := by
 show (if (slot st.v i).isSome then H0 .pop (.loc i) [] st else .stuck) = _
 rw [hs]
 show (match (((slot st.v i).bind ownOf).bind fun xs => (xs.getLast?).bind fun d => (gd (okLen xs.length) ()).bind fun _ => (setP st (some (.own xs.dropLast)) (.loc i)).map fun st' => (d, st')) with | some q => R.ok [F.val q.1] q.2 | none => .stuck) = _
 rw [hs]
 show (match ((xs.getLast?).bind fun d => (gd (okLen xs.length) ()).bind fun _ => (setP st (some (.own xs.dropLast)) (.loc i)).map fun st' => (d, st')) with | some q => R.ok [F.val q.1] q.2 | none => .stuck) = _
 rw [hl, hz]
 show (match ((gd (decide (i < st.v.length)) { st with v := st.v.set i (some (.own xs.dropLast)) }).map fun st' => (d, st')) with | some q => R.ok [F.val q.1] q.2 | none => .stuck) = _
 rw [dtt hi]; rfl
theorem N7 (hs : slot st.v i = some (.own xs)) (hz : okLen xs.length = true) (he : ev U e st = .ok [.val d] st) (hi : i < st.v.length) : ex U (.append (.loc i) e) st = .ok .next { st with v := st.v.set i (some (.own (xs ++ [d]))) } := by
 show (if ((slot st.v i).bind ownOf).isSome then (ev U e st).bind fun x st => T1 (.loc i) x st else .stuck) = _
 rw [hs, he]
 show nextO (((slot st.v i).bind ownOf).bind fun xs => (gd (okLen xs.length) ()).bind fun _ => setP st (some (.own (xs ++ [d]))) (.loc i)) = _
 rw [hs]
 show nextO ((gd (okLen xs.length) ()).bind fun _ => gd (decide (i < st.v.length)) { st with v := st.v.set i (some (.own (xs ++ [d]))) }) = _
 rw [hz, dtt hi]; rfl
theorem J8 {ne : Bool} (hs : slot st.v i = some f) (hl : lstOf f = some xs) : ev U (.cmpNil ne (.loc i)) st = .ok [bV (if ne then !xs.isEmpty else xs.isEmpty)] st := by
 show oneO (((slot st.v i).bind lstOf).map fun xs => bV (if ne then !xs.isEmpty else xs.isEmpty)) st = _
 rw [hs]
 show oneO ((lstOf f).map fun xs => bV (if ne then !xs.isEmpty else xs.isEmpty)) st = _
 rw [hl]; rfl
theorem F6 (hs : slot st.v i = some (.val d)) : ev U (.get (.loc i)) st = .ok [.val d] st := by
 show (match slot st.v i with | some (.val d) => R.ok [F.val d] st | some (.pg k) => .ok [.pg k] st | some (.own xs) => (match setP st (some (.val (.list xs))) (.loc i) with | some st' => .ok [.val (.list xs)] st' | none => .stuck) | _ => .stuck) = _
 rw [hs]
theorem x3a (h : vv.length = n) : slot (inV vv d) n = some (.val d) := by
 unfold slot inV
 rw [<- h, List.getElem?_append_right (by rw [i7]; exact Nat.le_refl _), i7, Nat.sub_self]; rfl
theorem x0i {u : PyData} (h : slot vv i = some (.val u)) : slot (inV vv d) i = some (.val u) := by
 unfold slot at h ⊢
 unfold inV
 cases hq : vv[i]? with
 | none => rw [hq] at h; cases h
 | some o =>
  rw [hq] at h
  cases show o = _ from h
  obtain ⟨hi, _⟩ := n5 hq
  rw [List.getElem?_append_left (by rw [i7]; exact hi), List.getElem?_map, hq]; rfl
theorem H9 {g : PyData -> PyData} (hs : (ev U src st).bind (itE kd) = .ok xs ⟨vv, pp, n⟩) (he : ∀ d ∈ xs, ev U elt ⟨inV vv d, pp, 0⟩ = .ok [.val (g d)] ⟨inV vv d, pp, 0⟩) (hz : okLen xs.length = true) (hl : (vv.length == k) = true) :
  ev U (.comp k kd src elt .nil) st = .ok [.own (xs.map g)] ⟨vv, pp, n⟩ := by
 show ((ev U src st).bind (itE kd)).bind (fun xs st => E1 k (stepC U elt .nil st.v) xs st) = _
 rw [hs]
 have hm : ∀ ys : List PyData, (∀ d ∈ ys, d ∈ xs) -> mapR (stepC U elt .nil vv) ys pp = some (ys.map g, pp) := fun ys => by
  induction ys with
  | nil => exact fun _ => rfl
  | cons y ys ih =>
   intro h
   have e1 : stepC U elt .nil vv y pp = .ok [g y] ⟨inV vv y, pp, 0⟩ := by
    show ((ev U elt ⟨inV vv y, pp, 0⟩).bind Q4) = _
    rw [he y (h y (.head _))]; rfl
   rw [T4]
   rw [e1]
   show (mapR (stepC U elt .nil vv) ys pp).map _ = _
   rw [ih fun d hd => h d (.tail _ hd)]; rfl
 show (match mapR (stepC U elt .nil vv) xs pp with | some q => (if okLen xs.length && vv.length == k then R.ok [F.own q.1] ⟨vv, q.2, n⟩ else .stuck) | none => .stuck) = _
 rw [hm xs fun _ h => h]
 show (if okLen xs.length && vv.length == k then R.ok [F.own (xs.map g)] ⟨vv, pp, n⟩ else .stuck) = _
 rw [hz, hl]; rfl
end
end Mine.Internal
namespace Mine.Internal.S
noncomputable def encM (m : Mk) : PyData := .tuple [sgn m.1, .int m.2.1, .int m.2.2]
noncomputable def K5 : Option Mk -> PyData
 | none => .none
 | some m => encM m
noncomputable def encL (l : List Mk) : List PyData := l.map encM
noncomputable def g9 (R : Rd) : PyData := .tuple [.list (encL R.cl), K5 R.ft, .list (encL R.wt)]
section
variable {U : Nat -> Fn} {m : Mk} {n : Nat}
theorem x6c : B U dU [.val (encM m), .val (.int n)] = .ret (.val (encM (low n m))) [] := rfl
noncomputable def Z8 (U : Nat -> Fn) : Prop := ∀ m (n : Nat), U 7 [] [.val (encM m), .val (.int n)] = .ret (.val (encM (low n m))) []
theorem eH : ∀ {ms cl wt : List Mk} {cl' wt' : List Mk}, jl n ms cl wt = .inr (cl', wt') -> cl'.length + wt'.length <= cl.length + wt.length + ms.length
 | [], cl, wt, cl', wt', h => by cases h; exact Nat.le_refl _
 | m :: ms, cl, wt, cl', wt', h => by
  rw [G0] at h
  cases hw : wt.getLast? with
  | none => rw [hw] at h; have := eH h; simp at this ⊢; lia
  | some t =>
   rw [hw] at h
   dsimp only at h
   split at h
   . have := eH h; simp at this ⊢; lia
   . cases h
noncomputable abbrev jS (A C : F) (n : Nat) (cl wt : List Mk) (s6 : Option F) : St := ⟨[some A, some C, some (.val (.int n)), some (.own (encL cl)), some (.val .none), some (.own (encL wt)), s6], [], 0⟩
theorem A2 (l : List Mk) : (encL l).length = l.length := i7 ..
theorem x6v (h : isCl m.1 = true) : ev U (.op .getOpen (b9 (.op .idx (a9 j7 j0)))) ⟨[A, C, N, X, Y, Z, some (.val (encM m))], [], 0⟩ = .ok [.val (sgn (p5 m.1))] ⟨[A, C, N, X, Y, Z, some (.val (encM m))], [], 0⟩ := by
 show oneO ((openF (S [m.1])).map fun y => .val (.str y)) _ = _
 rw [bD, h]; rfl
theorem tL {A C X Y Z : Option F} (h7 : Z8 U) : ev U (.call true 7 (a9 j7 f6)) ⟨[A, C, some (.val (.int n)), X, Y, Z, some (.val (encM m))], [], 0⟩ = .ok [.val (encM (low n m))] ⟨[A, C, some (.val (.int n)), X, Y, Z, some (.val (encM m))], [], 0⟩ :=
 n8 (fs := [.val (encM m), .val (.int n)]) (d5 (f := .val (encM m)) rfl (f0 (i := n) rfl rfl)) rfl (h7 m n)
theorem jJ (h7 : Z8 U) (A C : F) : ∀ (ms cl wt : List Mk) (s6 : Option F), (∀ m ∈ ms, isCl m.1 = true) -> cl.length + wt.length + ms.length <= 100000 ->
  ∃ v' s', forL (stepB U false [6] jB) (encL ms) (jS A C n cl wt s6) = match jl n ms cl wt with
   | .inl r => .ok (.ret (.val (g9 r))) ⟨v', [], 0⟩
   | .inr q => .ok .next (jS A C n q.1 q.2 s')
 | [], cl, wt, s6, _, _ => ⟨[], s6, rfl⟩
 | m :: ms, cl, wt, s6, hc, hz => by
  have hz : cl.length + wt.length + (ms.length + 1) <= 100000 := hz
  have hm := hc m (.head _)
  have hl : ∀ m ∈ ms, isCl m.1 = true := fun k hk => hc k (.tail _ hk)
  rw [G0]
  cases hw : wt.getLast? with
  | none =>
   have : wt = [] := List.getLast?_eq_none_iff.mp hw
   subst this
   obtain ⟨v', s', ih⟩ := jJ h7 A C ms (cl ++ [low n m]) [] (some (.val (encM m))) hl (by simp; simp at hz; lia)
   refine ⟨v', s', (u6 ((p8 rfl).trans (d4 ((i9 (J8 (f := .own []) rfl rfl)).trans ((d4 (N7 (xs := encL cl) rfl (i6 (by rw [A2]; lia)) (tL h7) (show 3 < 7 by decide))).trans rfl))))).trans ?_⟩
   exact (congrArg (forL (stepB U false [6] jB) (encL ms)) (by unfold jS encL; rw [List.map_append]; rfl)).trans ih
  | some t =>
   obtain ⟨ws, rfl⟩ := List.getLast?_eq_some_iff.mp hw
   have e1 : (encL (ws ++ [t])).getLast? = some (encM t) := by unfold encL; rw [List.map_append]; exact List.getLast?_concat ..
   have e2 : (encL (ws ++ [t])).dropLast = encL ws := by unfold encL; rw [List.map_append]; exact List.dropLast_concat ..
   have e3 : ev U (.cmpNil false (.loc 5)) (jS A C n cl (ws ++ [t]) (some (.val (encM m)))) = .ok [bV false] (jS A C n cl (ws ++ [t]) (some (.val (encM m)))) := (J8 (f := .own (encL (ws ++ [t]))) rfl rfl).trans (by unfold encL; rw [List.map_append]; cases ws <;> rfl)
   have e4 : ev U (.peek .pop (.loc 5) .nil) (jS A C n cl (ws ++ [t]) (some (.val (encM m)))) = .ok [.val (encM t)] (jS A C n cl ws (some (.val (encM m)))) := (iM (xs := encL (ws ++ [t])) rfl (i6 (by rw [A2]; simp at hz ⊢; lia)) e1 (show 5 < 7 by decide)).trans (by rw [e2]; rfl)
   have e6 : ev U (.op .idx (a9 (.peek .pop (.loc 5) .nil) j0)) (jS A C n cl (ws ++ [t]) (some (.val (encM m)))) = .ok [.val (sgn t.1)] (jS A C n cl ws (some (.val (encM m)))) := (d6 (fs := [.val (encM t), .val (.int 0)]) (d5 (f := .val (encM t)) e4 rfl)).trans rfl
   have e5 := k9 (U := U) (op := .NotEq) (q := !([t.1] == [p5 m.1])) (d5 (f := .val (sgn t.1)) e6 (d5 (b := .nil) (x6v (U := U) hm) rfl)) rfl
   rw [List.dropLast_concat]
   dsimp only
   by_cases ht : t.1 = p5 m.1
   . rw [if_pos ht]
     rw [show (!([t.1] == [p5 m.1])) = false by rw [ht, beq_self_eq_true]; rfl] at e5
     obtain ⟨v', s', ih⟩ := jJ h7 A C ms cl ws (some (.val (encM m))) hl (by simp at hz; lia)
     exact ⟨v', s', (u6 ((p8 rfl).trans ((d4 ((o5 e3).trans ((j3 e5).trans rfl))).trans rfl))).trans ih⟩
   . rw [if_neg ht]
     have hq : (!([t.1] == [p5 m.1])) = true := by
      cases hb : [t.1] == [p5 m.1] with
      | false => rfl
      | true => exact absurd (List.cons.inj (eq_of_beq hb)).1 ht
     rw [hq] at e5
     refine ⟨_, none, (T5 ((p8 rfl).trans (f8 ((o5 e3).trans (f8 ((i9 e5).trans (f8 (k4 (d := g9 ⟨cl, some (low n m), []⟩) ((d6 (fs := [.val (.list (encL cl)), .val (encM (low n m)), .val (.list [])]) (d5 (f := .val (.list (encL cl))) rfl (d5 (tL h7) rfl))).trans rfl))))))))).trans rfl⟩
noncomputable def Q8 (U : Nat -> Fn) : Prop := ∀ a b (n : Nat), (∀ m ∈ b.cl, isCl m.1 = true) -> a.sz + b.sz <= 100000 -> U 9 [] [.val (g9 a), .val (g9 b), .val (.int n)] = .ret (.val (g9 (join a b n))) []
theorem T8 {a b c d : Nat} (h : a + b + (c + d) <= 100000) : (a <= 100000 /\ b <= 100000) /\ (c <= 100000 /\ d <= 100000) /\ a + b + c <= 100000 := ⟨⟨nlt (nlt (Nat.le_add_right a b) (Nat.le_add_right _ _)) h, nlt (nlt (Nat.le_add_left b a) (Nat.le_add_right _ _)) h⟩, ⟨nlt (nlt (Nat.le_add_right c d) (Nat.le_add_left _ _)) h, nlt (nlt (Nat.le_add_left d c) (Nat.le_add_left _ _)) h⟩, nlt (Nat.add_le_add_left (Nat.le_add_right c d) _) h⟩
theorem yZ {a b c d x y : Nat} (h : a + b + (c + d) <= 100000) (hq : x + y <= a + b + c) : y + d <= 200000 := by lia
theorem x0b (h7 : Z8 U) {a b : Rd} (hc : ∀ m ∈ b.cl, isCl m.1 = true) (hz : a.sz + b.sz <= 100000) : B U eN [.val (g9 a), .val (g9 b), .val (.int n)] = .ret (.val (g9 (join a b n))) [] := by
 unfold Rd.sz at hz
 obtain ⟨cl, ft, wt⟩ := a
 obtain ⟨bc, bf, bw⟩ := b
 dsimp only at hz hc
 cases ft with
 | some f => exact j2 rfl ((d4 rfl).trans (f8 ((i9 (k9 (u := encM f) (v := .none) rfl rfl)).trans (f8 (k4 rfl)))))
 | none =>
  obtain ⟨v', s', hl⟩ := jJ (n := n) h7 (.val (g9 ⟨cl, none, wt⟩)) (.val (g9 ⟨bc, bf, bw⟩)) bc cl wt none hc (T8 hz).2.2
  have e0 : ex U (.unpack [3, 4, 5] d8) ⟨[some (.val (g9 ⟨cl, none, wt⟩)), some (.val (g9 ⟨bc, bf, bw⟩)), some (.val (.int n)), none, none, none, none], [], 0⟩ = .ok .next ⟨[some (.val (g9 ⟨cl, none, wt⟩)), some (.val (g9 ⟨bc, bf, bw⟩)), some (.val (.int n)), some (.val (.list (encL cl))), some (.val .none), some (.val (.list (encL wt))), none], [], 0⟩ := rfl
  have e1 : ex U (.assign (.loc 3) (.peek .copy (.loc 3) .nil)) ⟨[some (.val (g9 ⟨cl, none, wt⟩)), some (.val (g9 ⟨bc, bf, bw⟩)), some (.val (.int n)), some (.val (.list (encL cl))), some (.val .none), some (.val (.list (encL wt))), none], [], 0⟩ = .ok .next ⟨[some (.val (g9 ⟨cl, none, wt⟩)), some (.val (g9 ⟨bc, bf, bw⟩)), some (.val (.int n)), some (.own (encL cl)), some (.val .none), some (.val (.list (encL wt))), none], [], 0⟩ := (j5 (tF (f := .val (.list (encL cl))) rfl rfl (i6 (by rw [A2]; exact big (T8 hz).1.1)))).trans rfl
  have e2 : ex U (.assign (.loc 5) (.peek .copy (.loc 5) .nil)) ⟨[some (.val (g9 ⟨cl, none, wt⟩)), some (.val (g9 ⟨bc, bf, bw⟩)), some (.val (.int n)), some (.own (encL cl)), some (.val .none), some (.val (.list (encL wt))), none], [], 0⟩ = .ok .next (jS (.val (g9 ⟨cl, none, wt⟩)) (.val (g9 ⟨bc, bf, bw⟩)) n cl wt none) := (j5 (tF (f := .val (.list (encL wt))) rfl rfl (i6 (by rw [A2]; exact big (T8 hz).1.2)))).trans rfl
  have e3 := A9 (many := false) (is := [6]) (body := jB) (t8 (kd := 0) (e := .op .idx (a9 d7 j0)) (U := U) (st := jS (.val (g9 ⟨cl, none, wt⟩)) (.val (g9 ⟨bc, bf, bw⟩)) n cl wt none) (fs := [.val (.list (encL bc))]) (xs := encL bc) rfl (by
   show (((none : Option (List PyData)).or (gd (okLen (encL bc).length) (encL bc))).or none) = _
   rw [i6 (by rw [A2]; exact big (T8 hz).2.1.1)]; rfl))
  have e4 : ∀ {t : CS}, ex U (.seq (.iff (.cmp .IsNot (a9 g7 (.lit .none))) (.seq (.ret d8) .nil) .nil) t) ⟨[some (.val (g9 ⟨cl, none, wt⟩)), some (.val (g9 ⟨bc, bf, bw⟩)), some (.val (.int n)), some (.val (.list (encL cl))), some (.val .none), some (.val (.list (encL wt))), none], [], 0⟩ = ex U t ⟨[some (.val (g9 ⟨cl, none, wt⟩)), some (.val (g9 ⟨bc, bf, bw⟩)), some (.val (.int n)), some (.val (.list (encL cl))), some (.val .none), some (.val (.list (encL wt))), none], [], 0⟩ := j3 rfl
  cases hj : jl n bc cl wt with
  | inl r =>
   rw [hj] at hl
   rw [F8 (a := ⟨cl, none, wt⟩) (b := ⟨bc, bf, bw⟩) rfl hj]
   exact j2 rfl ((d4 e0).trans (e4.trans ((d4 e1).trans ((d4 e2).trans (f8 (e3.trans hl))))))
  | inr q =>
   obtain ⟨cl', wt'⟩ := q
   rw [hj] at hl
   have hq := eH hj
   cases bf with
   | some f =>
    rw [iE (a := ⟨cl, none, wt⟩) (b := ⟨bc, some f, bw⟩) rfl hj rfl]
    exact j2 rfl ((d4 e0).trans (e4.trans ((d4 e1).trans ((d4 e2).trans ((d4 (e3.trans hl)).trans (f8 ((i9 (k9 (u := encM f) (v := .none) rfl rfl)).trans (f8 (k4 (d := g9 ⟨cl', some (low n f), []⟩)
     ((d6 (fs := [.val (.list (encL cl')), .val (encM (low n f)), .val (.list [])]) (d5 (f := .val (.list (encL cl'))) rfl (d5 (f := .val (encM (low n f))) (n8 (fs := [.val (encM f), .val (.int n)]) (d5 (f := .val (encM f)) rfl (f0 (i := n) rfl rfl)) rfl (h7 f n)) rfl))).trans rfl))))))))))
   | none =>
    rw [Q1 (a := ⟨cl, none, wt⟩) (b := ⟨bc, none, bw⟩) rfl hj rfl]
    have hb : okLen (encL bw).length = true := i6 (by rw [A2]; exact big (T8 hz).2.1.2)
    have e5 : ∀ vv, vv.length = 7 -> slot vv 1 = some (.val (g9 ⟨bc, none, bw⟩)) -> slot vv 2 = some (.val (.int n)) -> ev U (.comp 7 0 (.op .idx (a9 d7 j4)) (.call true 7 (a9 n3 f6)) .nil) ⟨vv, [], 0⟩ = .ok [.own (encL (bw.map (low n)))] ⟨vv, [], 0⟩ := fun vv hv h1 h2 => by
     have g1 : ∀ {st : St} {i : Nat} {d : PyData}, slot st.v i = some (.val d) -> ev U (.get (.loc i)) st = .ok [.val d] st := fun {st i d} h => F6 h
     refine (H9 (g := fun d => match d with | .tuple [x, .int r, y] => .tuple [x, .int (r + n), y] | _ => d) (t8 (fs := [.val (.list (encL bw))]) (xs := encL bw) ((d6 (fs := [.val (g9 ⟨bc, none, bw⟩), .val (.int 2)]) (d5 (f := .val (g9 ⟨bc, none, bw⟩)) (g1 h1) rfl)).trans rfl) (by
      show (((none : Option (List PyData)).or (gd (okLen (encL bw).length) (encL bw))).or none) = _
      rw [hb]; rfl)) (fun d hd => ?_) hb (by rw [hv]; rfl)).trans ?_
     . obtain ⟨k, hk, rfl⟩ := List.mem_map.mp hd
       exact n8 (fs := [.val (encM k), .val (.int n)]) (d5 (f := .val (encM k)) (g1 (x3a hv)) (f0 (i := n) (g1 (x0i h2)) rfl)) rfl (h7 k n)
     . refine congrArg (fun l => R.ok [F.own l] _) ?_
       unfold encL
       rw [List.map_map, List.map_map]; rfl
    have e6 : ∀ st, o3 (.bin .Add) [.val (.list (encL wt')), .val (.list (encL (bw.map (low n))))] st = .ok [.own (encL (wt' ++ bw.map (low n)))] st := fun st => by
     show oneO (((none : Option F).or none).or ((gd (okLen ((encL wt').length + (encL (bw.map (low n))).length)) (.own (encL wt' ++ encL (bw.map (low n))))).or none)) _ = _
     rw [i6 (by rw [A2, A2, i7]; exact yZ hz hq)]
     unfold encL; rw [List.map_append]; rfl
    exact j2 rfl ((d4 e0).trans (e4.trans ((d4 e1).trans ((d4 e2).trans ((d4 (e3.trans hl)).trans ((j3 rfl).trans (f8 (k4 (d := g9 ⟨cl', none, wt' ++ bw.map (low n)⟩)
     ((d6 (fs := [.val (.list (encL cl')), .val .none, .val (.list (encL (wt' ++ bw.map (low n))))]) (d5 (f := .val (.list (encL cl'))) rfl (d5 (f := .val .none) rfl (d5 (f := .own (encL (wt' ++ bw.map (low n)))) ((d6 (fs := [.val (.list (encL wt')), .val (.list (encL (bw.map (low n))))]) (d5 (f := .val (.list (encL wt'))) rfl (d5 (f := .own (encL (bw.map (low n)))) (e5 _ rfl rfl rfl) rfl))).trans (e6 _)) rfl)))).trans rfl)))))))))
end
end Mine.Internal.S
end
section
namespace Mine.Internal.S
theorem x6W {l w : List Nat} (hw : w ≠ []) (h : ∀ c ∈ w, c ∉ l) : A0 (S l) (S w) = false := by
 cases hi : A0 (S l) (S w) with
 | false => rfl
 | true =>
  exfalso
  unfold A0 at hi
  obtain ⟨i, h1, h2⟩ := (PySem.StrLaws.found_iff _ _).mp hi
  cases w with
  | nil => exact hw rfl
  | cons c w =>
   have hm : c ∈ l := by
    rw [PySem.StrLaws.subAt_eq, beq_iff_eq] at h2
    have h3 : (l.drop i).take (S (c :: w)).length = c :: w := by simpa [S] using h2
    have h4 : c ∈ (l.drop i).take (S (c :: w)).length := by rw [h3]; exact .head _
    exact List.mem_of_mem_drop (List.mem_of_mem_take h4)
   exact h c (.head _) hm
theorem x5n {U : Nat -> Fn} {w : List Nat} (hw : w ≠ []) (h : ∀ c ∈ w, m8 c = false) : B U Y0 [.val (strD w)] = .ret (.val (.bool false)) [] := by
 have h1 : A0 (S [40, 91, 123]) (S w) = false := x6W hw fun c hc hm => by
  have := h c hc
  rw [C5] at this
  unfold isOp at this
  rw [dtt hm] at this; cases this
 have h2 : openF (S w) = none := by
  unfold openF
  rw [O5]
  have n : ∀ k, m8 k = true -> w ≠ [k] := fun k hk e => by rw [h k (by rw [e]; exact .head _)] at hk; cases hk
  rw [if_neg (n 41 (by rw [C5]; rfl)), if_neg (n 93 (by rw [C5]; rfl)), if_neg (n 125 (by rw [C5]; rfl))]
 refine j2 rfl (f8 (k4 ((v8 (x := false) (y := false) (k9 (op := .In) (u := strD w) (v := strD [40, 91, 123]) rfl (show cmpF .In (strD w) (strD [40, 91, 123]) = some false from congrArg some h1)) fun _ => ?_).trans rfl)))
 show oneO ((some (S w)).map fun s => bV (openF s).isSome) _ = _
 show Mine.Internal.R.ok [bV (openF (S w)).isSome] _ = _
 rw [h2]; rfl
noncomputable def D4 (U : Nat -> Fn) : Prop := (∀ c, U 4 [] [.val (sgn c)] = .ret (.val (.bool (m8 c))) []) /\ ∀ w, w ≠ [] -> (∀ c ∈ w, m8 c = false) -> U 4 [] [.val (strD w)] = .ret (.val (.bool false)) []
inductive Tk where
 | word (b : Nat) (w : List Nat) (e : Nat)
 | br (p c : Nat)
noncomputable def encT : Tk -> PyData
 | .word b w e => .tuple [.int b, strD w, .int e]
 | .br p c => .tuple [.int p, sgn c, .int (p + 1)]
noncomputable def Tk.good : Tk -> Prop
 | .word _ w _ => w ≠ [] /\ ∀ c ∈ w, m8 c = false
 | .br _ c => m8 c = true
noncomputable def y5 : List Tk -> List Mk
 | [] => []
 | .word .. :: r => y5 r
 | .br p c :: r => (c, 0, p) :: y5 r
theorem gP {p c : Nat} {r : List Tk} : y5 (.br p c :: r) = (c, 0, p) :: y5 r := rfl
theorem aG : ∀ a b, y5 (a ++ b) = y5 a ++ y5 b
 | [], b => rfl
 | .word .. :: r, b => aG r b
 | .br p c :: r, b => by rw [List.cons_append, gP, gP, aG r b]; rfl
section
variable {U : Nat -> Fn}
noncomputable abbrev rS (T : F) (R : Rd) (a b c d e : Option F) : St := ⟨[some T, some (.val (g9 R)), a, b, c, d, e], [], 0⟩
theorem x4i (a : Rd) (m : Mk) : join a (step .nil m) 0 = step a m := lE a 0 [m]
theorem qE (R : Rd) (m : Mk) : (step R m).sz <= R.sz + 1 := iC R [m]
theorem dE (h4 : D4 U) (h9 : Q8 U) (T : F) : ∀ (ts : List Tk) (R : Rd) (a b c d e : Option F), (∀ k ∈ ts, k.good) -> R.sz + ts.length <= 50000 -> ∃ a' b' c' d' e', forL (stepB U true [2, 3, 4] rB) (ts.map encT) (rS T R a b c d e) = .ok .next (rS T (run R (y5 ts)) a' b' c' d' e')
 | [], R, a, b, c, d, e, _, _ => ⟨a, b, c, d, e, rfl⟩
 | .word p w q :: ts, R, a, b, c, d, e, hg, hz => by
  obtain ⟨h1, h2⟩ := hg _ (.head _)
  obtain ⟨a', b', c', d', e', ih⟩ := dE h4 h9 T ts R (sI p) (sT w) (sI q) d e (fun k hk => hg k (.tail _ hk)) (by simp at hz; lia)
  exact ⟨a', b', c', d', e', (u6 ((p8 rfl).trans (j3 (n8 (fs := [.val (strD w)]) (m6 (l := w) rfl rfl) rfl (h4.2 w h1 h2))))).trans ih⟩
 | .br p k :: ts, R, a, b, c, d, e, hg, hz => by
  have hb : m8 k = true := hg _ (.head _)
  have hs := qE R (k, 0, p)
  obtain ⟨a', b', c', d', e', ih⟩ := dE h4 h9 T ts (step R (k, 0, p)) (sI p) (sG k) (sI (p + 1)) (some (.val (encM (k, 0, p)))) (some (.val (g9 (step .nil (k, 0, p))))) (fun k hk => hg k (.tail _ hk)) (by simp at hz; lia)
  have e1 : ev U (.call true 4 (b9 f5)) (rS T R (sI p) (sG k) (sI (p + 1)) d e) = .ok [bV true] (rS T R (sI p) (sG k) (sI (p + 1)) d e) := n8 (fs := [.val (sgn k)]) (d5 (f := .val (sgn k)) rfl rfl) rfl ((h4.1 k).trans (by rw [hb]; rfl))
  have e2 : ∀ {d0 e0 : Option F}, ev U (.inOpen f5) (rS T R (sI p) (sG k) (sI (p + 1)) d0 e0) = .ok [bV (isCl k)] (rS T R (sI p) (sG k) (sI (p + 1)) d0 e0) := fun {d0 e0} => by
   show Mine.Internal.R.ok [bV (openF (S [k])).isSome] _ = _
   rw [bD]
   cases isCl k <;> rfl
  have e3 : ∀ {d0 : Option F}, ex U (.assign (.loc 1) (.call true 9 (j9 d7 j7 j0))) (rS T R (sI p) (sG k) (sI (p + 1)) d0 (some (.val (g9 (step .nil (k, 0, p)))))) = .ok .next (rS T (step R (k, 0, p)) (sI p) (sG k) (sI (p + 1)) d0 (some (.val (g9 (step .nil (k, 0, p)))))) := fun {d0} =>
   (j5 (n8 (fs := [.val (g9 R), .val (g9 (step .nil (k, 0, p))), .val (.int 0)]) (d5 (f := .val (g9 R)) rfl (d5 (f := .val (g9 (step .nil (k, 0, p)))) rfl rfl)) rfl ((h9 R (step .nil (k, 0, p)) 0 (iI .nil (fun m hm => (nomatch hm)) [(k, 0, p)]) (by have := qE .nil (k, 0, p); simp at hz; have : Rd.nil.sz = 0 := rfl; lia)).trans (by rw [x4i])))).trans rfl
  refine ⟨a', b', c', d', e', (u6 ((p8 rfl).trans ((d4 ((i9 e1).trans ((d4 rfl).trans ((d4 rfl).trans ?_)))).trans rfl))).trans ih⟩
  cases hc : isCl k with
  | true =>
   have hst : step .nil (k, 0, p) = ⟨[(k, 0, p)], none, []⟩ := aL rfl hc rfl
   rw [hc] at e2
   rw [hst] at e3 ⊢
   exact (d4 ((i9 e2).trans rfl)).trans ((d4 e3).trans rfl)
  | false =>
   have hst : step .nil (k, 0, p) = ⟨[], none, [(k, 0, p)]⟩ := aJ rfl hc
   rw [hc] at e2
   rw [hst] at e3 ⊢
   exact (j3 e2).trans ((d4 e3).trans rfl)
theorem x2b (h4 : D4 U) (h9 : Q8 U) (ts : List Tk) (hg : ∀ k ∈ ts, k.good) (hz : ts.length <= 40000) : B U jC [.val (.list (ts.map encT))] = .ret (.val (g9 (run .nil (y5 ts)))) [] := by
 obtain ⟨a', b', c', d', e', h⟩ := dE h4 h9 (.val (.list (ts.map encT))) ts .nil none none none none none hg (by have : Rd.nil.sz = 0 := rfl; lia)
 have e1 := A9 (many := true) (is := [2, 3, 4]) (body := rB) (t8 (kd := 0) (e := .get (.loc 0)) (U := U) (st := rS (.val (.list (ts.map encT))) .nil none none none none none) (fs := [.val (.list (ts.map encT))]) (xs := ts.map encT) rfl (by
  show (((none : Option (List PyData)).or (gd (okLen (ts.map encT).length) (ts.map encT))).or none) = _
  rw [i6 (by rw [i7]; lia)]; rfl))
 exact j2 rfl ((d4 rfl).trans ((d4 (e1.trans h)).trans (f8 (k4 rfl))))
noncomputable def Sp8 (U : Nat -> Fn) : Prop := ∀ ts : List Tk, (∀ k ∈ ts, k.good) -> ts.length <= 40000 -> U 8 [] [.val (.list (ts.map encT))] = .ret (.val (g9 (run .nil (y5 ts)))) []
end
noncomputable def ends (c : Nat) : Bool := decide (c = 32) || m8 c
noncomputable def D7 (L : List Nat) (i : Nat) (bg : Option Nat) (c : Nat) : List Tk :=
 (if ends c then (match bg with | some b => [.word b ((L.take i).drop b) i] | none => []) else []) ++ (if m8 c then [.br i c] else [])
noncomputable def G7 (i : Nat) (bg : Option Nat) (c : Nat) : Option Nat := if ends c then none else (match bg with | some b => some b | none => some i)
noncomputable def tk (L : List Nat) : Nat -> Option Nat -> List Nat -> List Tk
 | _, _, [] => []
 | i, bg, c :: rest => D7 L i bg c ++ tk L (i + 1) (G7 i bg c) rest
theorem R6 {L rest : List Nat} {i c : Nat} {bg : Option Nat} : tk L i bg (c :: rest) = D7 L i bg c ++ tk L (i + 1) (G7 i bg c) rest := rfl
noncomputable def toks (L : List Nat) : List Tk := tk L 0 none (L ++ [32])
noncomputable def q6 : Nat -> List Nat -> List Mk
 | _, [] => []
 | i, c :: l => if m8 c then (c, 0, i) :: q6 (i + 1) l else q6 (i + 1) l
theorem kW {i : Nat} : q6 i [] = [] := rfl
theorem S8 {i c : Nat} {l : List Nat} : q6 i (c :: l) = if m8 c then (c, 0, i) :: q6 (i + 1) l else q6 (i + 1) l := rfl
theorem x0E (L : List Nat) (i : Nat) (bg : Option Nat) (c : Nat) : y5 (D7 L i bg c) = if m8 c then [(c, 0, i)] else [] := by
 unfold D7
 rw [aG]
 cases m8 c <;> cases ends c <;> cases bg <;> rfl
theorem oZ (L : List Nat) : ∀ (rest : List Nat) (i : Nat) (bg : Option Nat), y5 (tk L i bg rest) = q6 i rest
 | [], _, _ => rfl
 | c :: rest, i, bg => by
  rw [R6, aG, x0E, oZ L rest, S8]
  cases m8 c <;> rfl
theorem uO : ∀ (a b : List Nat) (i : Nat), q6 i (a ++ b) = q6 i a ++ q6 (i + a.length) b
 | [], b, i => by simp [kW]
 | c :: a, b, i => by
  rw [List.cons_append, S8, S8, uO a b (i + 1)]
  have : i + 1 + a.length = i + (c :: a).length := by simp; lia
  rw [this]
  cases m8 c <;> simp
theorem uW (L : List Nat) : y5 (toks L) = q6 0 L := by
 unfold toks
 rw [oZ, uO]
 simp [S8, kW, C5, isOp, isCl]
theorem lR (L : List Nat) (i : Nat) (bg : Option Nat) (c : Nat) : (D7 L i bg c).length <= 2 := by
 unfold D7
 cases m8 c <;> cases ends c <;> cases bg <;> simp
theorem oX (L : List Nat) : ∀ (rest : List Nat) (i : Nat) (bg : Option Nat), (tk L i bg rest).length <= 2 * rest.length
 | [], _, _ => Nat.le_refl _
 | c :: rest, i, bg => by
  rw [R6, lap, List.length_cons]
  have := lR L i bg c
  have := oX L rest (i + 1) (G7 i bg c)
  lia
theorem lJ (L : List Nat) : (toks L).length <= 2 * L.length + 2 := by
 have := oX L (L ++ [32]) 0 none
 unfold toks
 simp at this ⊢
 lia
noncomputable def nO (L : List Nat) (i : Nat) : Option Nat -> Prop
 | none => True
 | some b => b < i /\ i <= L.length /\ ∀ c ∈ (L.take i).drop b, m8 c = false
theorem sA (L : List Nat) : ∀ (rest pre : List Nat) (bg : Option Nat), L ++ [32] = pre ++ rest -> nO L pre.length bg -> ∀ k ∈ tk L pre.length bg rest, k.good
 | [], _, _, _, _ => fun k hk => nomatch hk
 | c :: rest, pre, bg, hL, hb => by
  intro k hk
  rw [R6] at hk
  rcases List.mem_append.mp hk with hk | hk
  . unfold D7 at hk
    rcases List.mem_append.mp hk with hk | hk
    . split at hk
      . split at hk
        . rename_i b
          rw [lsm hk]
          obtain ⟨h1, h2, h3⟩ := hb
          refine ⟨fun e => ?_, h3⟩
          have := congrArg List.length e
          simp at this
          lia
        . cases hk
      . cases hk
    . split at hk
      . rename_i hbr
        rw [lsm hk]; exact hbr
      . cases hk
  . have hp : (pre ++ [c]).length = pre.length + 1 := by simp
    rw [<- hp] at hk
    refine sA L rest (pre ++ [c]) _ (by rw [hL]; simp) ?_ k hk
    unfold G7
    cases he : ends c with
    | true => simp [nO]
    | false =>
     simp only [Bool.false_eq_true, if_false]
     unfold ends at he
     simp only [Bool.or_eq_false_iff, decide_eq_false_iff_not] at he
     have hlt : pre.length < L.length := by
      rcases Nat.lt_or_ge pre.length L.length with q | q
      . exact q
      . exfalso
        have h1 := congrArg List.length hL
        simp at h1
        have hr : rest = [] := by cases rest with | nil => rfl | cons _ _ => simp at h1; lia
        subst hr
        have : (L ++ [32]).getLast? = some c := by rw [hL]; simp
        simp at this
        exact he.1 this.symm
     have hc : L[pre.length]? = some c := by
      have h1 : (L ++ [32])[pre.length]? = some c := by rw [hL]; simp
      rwa [List.getElem?_append_left hlt] at h1
     have htake : L.take (pre.length + 1) = L.take pre.length ++ [c] := by
      rw [List.take_add_one, hc]; rfl
     cases bg with
     | none =>
      refine ⟨by rw [hp]; exact Nat.lt_succ_self _, by rw [hp]; exact hlt, fun d hd => ?_⟩
      rw [hp, htake] at hd
      have hl : (L.take pre.length).length = pre.length := by rw [List.length_take]; exact Nat.min_eq_left (Nat.le_of_lt hlt)
      rw [List.drop_append_of_le_length (Nat.le_of_eq hl.symm), List.drop_of_length_le (Nat.le_of_eq hl)] at hd
      have hdc : d = c := by simpa using hd
      rw [hdc]; exact he.2
     | some b =>
      obtain ⟨h1, h2, h3⟩ := hb
      refine ⟨by rw [hp]; exact Nat.lt_succ_of_lt h1, by rw [hp]; exact hlt, fun d hd => ?_⟩
      rw [hp, htake] at hd
      have hl : (L.take pre.length).length = pre.length := by rw [List.length_take]; exact Nat.min_eq_left (Nat.le_of_lt hlt)
      rw [List.drop_append_of_le_length (by rw [hl]; exact Nat.le_of_lt h1)] at hd
      rcases List.mem_append.mp hd with hd | hd
      . exact h3 d hd
      . rw [lsm hd]; exact he.2
theorem vW (L : List Nat) : ∀ k ∈ toks L, k.good := sA L (L ++ [32]) [] none rfl trivial
noncomputable def uR : Option Nat -> PyData
 | none => .none
 | some b => .int b
section
variable {U : Nat -> Fn} {L : List Nat} {ts : List Tk} {bg : Option Nat} {i c : Nat} {en : Bool} {a3 a4 a5 : Option F}
noncomputable abbrev aS (L : List Nat) (ts : List Tk) (bg : Option Nat) (a3 a4 a5 : Option F) : St := ⟨[some (.val (strD L)), some (.own (ts.map encT)), some (.val (uR bg)), a3, a4, a5], [], 0⟩
noncomputable def tkA (L : List Nat) (i : Nat) (en : Bool) (bg : Option Nat) : List Tk := if en then (match bg with | some b => [.word b ((L.take i).drop b) i] | none => []) else []
theorem bnd_ok {b d : Nat} (h : b <= 100000) : bnd (some (.int b)) d = some b := by
 unfold bnd
 dsimp only
 rw [wR, Option.bind_some]
 rw [show decide ((0 : Int) <= (b : Int) /\ (b : Int) < 4611686018427387904) = true from dtt (by lia)]; rfl
theorem x4p {α : Type} {xs : List α} {b : Nat} (hL : xs.length <= 100000) (hb : b <= 100000) (hi : i <= 100000) : cutL xs (some (.int b)) (some (.int i)) = some ((xs.take i).drop b) := by
 unfold cutL lenL
 rw [i6 (by lia), show gd true xs.length = some xs.length from rfl, Option.bind_some, bnd_ok hb, Option.bind_some, bnd_ok hi]; rfl
theorem wN {b : Nat} (hL : L.length <= 1000) (hb : b <= 1000) (hi : i <= 1000) {st : St} : o3 (.slc true true) [.val (strD L), .val (.int b), .val (.int i)] st = .ok [.val (strD ((L.take i).drop b))] st := by
 show oneO (((cutL L (some (.int b)) (some (.int i))).map fun l => F.val (.str (S l))).or none) st = _
 rw [x4p (by lia) (by lia) (by lia)]; rfl
theorem sW {x : Tk} : ts.map encT ++ [encT x] = (ts ++ [x]).map encT := by rw [List.map_append]; rfl
theorem x2g (hL : L.length <= 1000) (hi : i <= 1000) (hb : ∀ b, bg = some b -> b <= 1000) (hz : ts.length <= 100000) : ex U aA (aS L ts bg (sI i) a4 (some (.val (.bool en)))) = .ok .next (aS L (ts ++ tkA L i en bg) (if en then none else bg) (sI i) a4 (some (.val (.bool en)))) := by
 cases en with
 | false => rw [show ts ++ tkA L i false bg = ts from List.append_nil _]; exact (o5 (q7 (x := false) (y := false) rfl fun q => nomatch q)).trans rfl
 | true =>
  cases bg with
  | none => rw [show ts ++ tkA L i true none = ts from List.append_nil _]; exact (o5 (q7 (x := true) (y := false) rfl fun _ => rfl)).trans rfl
  | some b =>
   refine (i9 (q7 (x := true) (y := true) rfl fun _ => rfl)).trans ((d4 (N7 (xs := ts.map encT) (d := encT (.word b ((L.take i).drop b) i)) rfl (i6 (by rw [i7]; lia)) ((d6 (fs := [.val (.int b), .val (strD ((L.take i).drop b)), .val (.int i)]) (f0 (i := b) rfl (m6 (l := ((L.take i).drop b)) ((d6 (fs := [.val (strD L), .val (.int b), .val (.int i)]) rfl).trans (wN hL (hb b rfl) hi)) rfl))).trans rfl) (show 1 < 6 by decide))).trans ((d4 rfl).trans ?_))
   exact congrArg (fun l => Mine.Internal.R.ok Fl.next ⟨[some (.val (strD L)), some (.own l), some (.val .none), some (.val (.int i)), a4, some (.val (.bool true))], [], 0⟩) sW
theorem x1p (h4 : D4 U) (hz : ts.length <= 100000) : ex U aC (aS L ts bg (sI i) (sG c) (some (.val (.bool en)))) = .ok .next (aS L (ts ++ if m8 c then [.br i c] else []) (if m8 c then bg else if en then bg else some (bg.getD i)) (sI i) (sG c) (some (.val (.bool en)))) := by
 have e1 : ev U (.call true 4 (b9 g7)) (aS L ts bg (sI i) (sG c) (some (.val (.bool en)))) = .ok [bV (m8 c)] _ := n8 (fs := [.val (sgn c)]) (d5 (f := .val (sgn c)) rfl rfl) rfl (h4.1 c)
 cases hb : m8 c with
 | true =>
  rw [hb] at e1
  refine (i9 e1).trans ((d4 (N7 (xs := ts.map encT) (d := encT (.br i c)) rfl (i6 (by rw [i7]; lia)) rfl (show 1 < 6 by decide))).trans ?_)
  exact congrArg (fun l => Mine.Internal.R.ok Fl.next ⟨[some (.val (strD L)), some (.own l), some (.val (uR bg)), some (.val (.int i)), some (.val (sgn c)), some (.val (.bool en))], [], 0⟩) sW
 | false =>
  rw [hb] at e1
  rw [if_neg Bool.false_ne_true, if_neg Bool.false_ne_true, List.append_nil]
  refine (o5 e1).trans ?_
  cases en with
  | true => exact (j3 (q7 (x := false) (y := false) rfl fun q => nomatch q)).trans rfl
  | false =>
   cases bg with
   | none => exact (d4 ((i9 (q7 (x := true) (y := true) rfl fun _ => rfl)).trans rfl)).trans rfl
   | some b => exact (j3 (q7 (x := true) (y := false) rfl fun _ => rfl)).trans rfl
theorem x1i (h4 : D4 U) : ev U aE (aS L ts bg (sI i) (sG c) a5) = .ok [bV (ends c)] (aS L ts bg (sI i) (sG c) a5) := by
 refine v8 (k9 (op := .Eq) (u := sgn c) (v := strD [32]) rfl ?_) fun _ => n8 (fs := [.val (sgn c)]) (d5 (f := .val (sgn c)) rfl rfl) rfl (h4.1 c)
 show some ([c] == [32]) = _
 by_cases h : c = 32
 . rw [h]; rfl
 . rw [dff h]
   exact congrArg some (w2 fun q => h (List.cons.inj (eq_of_beq q)).1)
theorem tQ (h4 : D4 U) (L : List Nat) (hL : L.length <= 500) : ∀ (rest : List Nat) (i : Nat) (bg : Option Nat) (ts : List Tk) (a3 a4 a5 : Option F), i + rest.length <= 600 -> (∀ b, bg = some b -> b <= 600) -> ts.length + 2 * rest.length <= 5000 ->
  ∃ b' a3' a4' a5', forL (stepB U true [3, 4] aB) (enumFrom i (rest.map sgn)) (aS L ts bg a3 a4 a5) = .ok .next (aS L (ts ++ tk L i bg rest) b' a3' a4' a5')
 | [], i, bg, ts, a3, a4, a5, _, _, _ => ⟨bg, a3, a4, a5, by rw [show tk _ _ _ [] = [] from rfl, List.append_nil]; rfl⟩
 | c :: rest, i, bg, ts, a3, a4, a5, hi, hb, hz => by
  simp only [List.length_cons] at hi hz
  have hA : (tkA L i (ends c) bg).length <= 1 := by unfold tkA; cases ends c <;> cases bg <;> first | exact Nat.le_refl _ | exact Nat.zero_le _
  have hst : ts ++ tkA L i (ends c) bg ++ (if m8 c then [.br i c] else []) = ts ++ D7 L i bg c := by rw [List.append_assoc]; rfl
  have hbg : (if m8 c then (if ends c then none else bg) else if ends c then (if ends c then none else bg) else some ((if ends c then none else bg : Option Nat).getD i)) = G7 i bg c := by
   unfold G7 ends
   cases m8 c <;> cases decide (c = 32) <;> cases bg <;> rfl
  obtain ⟨b', a3', a4', a5', ih⟩ := tQ h4 L hL rest (i + 1) (G7 i bg c) (ts ++ D7 L i bg c) (sI i) (sG c) (some (.val (.bool (ends c)))) (by rw [Nat.add_assoc, Nat.add_comm 1]; exact hi) (fun b h => by
   unfold G7 at h
   split at h
   . cases h
   . cases bg with
     | none => cases h; exact nlt (Nat.le_add_right i _) hi
     | some b0 => cases h; exact hb _ rfl) (by have := lR L i bg c; rw [lap]; lia)
  refine ⟨b', a3', a4', a5', (u6 ((p8 rfl).trans ((d4 ((j5 (x1i h4)).trans rfl)).trans ((d4 (x2g (big hL) (big (nlt (Nat.le_add_right i _) hi)) (fun b h => big (hb b h)) (big (nlt (Nat.le_add_right _ _) hz)))).trans ((d4 ((x1p h4 (by rw [lap]; exact big (Nat.add_le_add (nlt (Nat.le_add_right _ _) hz) hA))).trans (by rw [hst, hbg]))).trans rfl))))).trans (ih.trans ?_)⟩
  rw [R6, List.append_assoc]
theorem xF (h4 : D4 U) (hL : L.length <= 500) : B U gS [.val (strD L)] = .ret (.val (.list ((toks L).map encT))) [] := by
 obtain ⟨b', a3, a4, a5, h⟩ := tQ h4 L hL (L ++ [32]) 0 none [] none none none (by simp; lia) (fun b h => nomatch h) (by simp; lia)
 have e1 := A9 (many := true) (is := [3, 4]) (body := aB) (t8 (kd := 2) (e := .cons (bA d8 (.lit (.str (S [32])))) .nil) (U := U) (st := aS L [] none none none none) (fs := [.val (strD (L ++ [32]))]) (st1 := aS L [] none none none none) (xs := enumFrom 0 ((L ++ [32]).map sgn)) (m6 (l := (L ++ [32])) ((d6 (fs := [.val (strD L), .val (strD [32])]) rfl).trans (by
  show oneO (((none : Option F).or (gd (okLen (L.length + 1)) (.val (.str (S (L ++ [32])))))).or ((none : Option F).or none)) _ = _
  rw [i6 (by lia)]; rfl)) rfl) (by
  show (((gd (okLen (L ++ [32]).length) ((L ++ [32]).map sgn)).or none)).map (enumFrom 0) = _
  rw [i6 (by simp; lia)]; rfl))
 exact j2 rfl ((d4 rfl).trans ((d4 rfl).trans ((d4 (e1.trans h)).trans (f8 (k4 rfl)))))
noncomputable def bW (U : Nat -> Fn) : Prop := ∀ L : List Nat, L.length <= 500 -> U 5 [] [.val (strD L)] = .ret (.val (.list ((toks L).map encT))) []
end
noncomputable def T0 (rows : LL) : Prop := ∀ l ∈ rows, n4 l = true
structure OkText (rows : LL) : Prop where
 one : 1 <= rows.length
 most : rows.length <= 64
 rows : T0 rows
theorem n9 {l : List Nat} (h : n4 l = true) : l.length <= 120 := k6 (and2 h).1
noncomputable def sRows (rows : LL) : List PyData := rows.map strD
noncomputable abbrev sR (r : LL) : Option F := some (.val (.list (sRows r)))
noncomputable abbrev vR (r : LL) : F := .val (.list (sRows r))
theorem k8 (rows : LL) : (sRows rows).length = rows.length := i7 ..
theorem x6U {rows : LL} (h : OkText rows) : S0 (sRows rows) = true := by
 unfold S0
 rw [k8, dtt (by have := h.one; lia), dtt (by have := h.most; lia)]
 refine List.all_eq_true.mpr fun d hd => ?_
 obtain ⟨l, hl, rfl⟩ := List.mem_map.mp hd
 exact h.rows l hl
theorem x5s {rows : LL} (h : ∀ l ∈ rows, l.length <= 200000) : (sRows rows).all G9 = true := List.all_eq_true.mpr fun d hd => by
 obtain ⟨l, hl, rfl⟩ := List.mem_map.mp hd
 exact i6 (h l hl)
theorem OkText.like {rows : LL} (h : OkText rows) : (sRows rows).all G9 = true := x5s fun l hl => by have := n9 (h.rows l hl); lia
noncomputable def q4 : Fa -> PyData
 | .ok => .none
 | .no r p => .tuple [.int r, .int p, strD [99, 108, 111, 115, 101, 115, 32, 110, 111, 116, 104, 105, 110, 103]]
 | .ano r p => .tuple [.int r, .int p, strD [99, 108, 111, 115, 101, 115, 32, 97, 110, 111, 116, 104, 101, 114]]
 | .lft r p => .tuple [.int r, .int p, strD [108, 101, 102, 116, 32, 111, 112, 101, 110]]
section
variable {U : Nat -> Fn} {R : Rd} {rows : LL} {ds : List PyData}
theorem sY {d : PyData} {ds : List PyData} (h : (d :: ds).length <= 200000) : atL (d :: ds) 0 = some d := by
 unfold atL lenL
 rw [i6 h]
 show (at? (d :: ds).length 0).bind _ = _
 have : at? (d :: ds).length 0 = some 0 := by
  unfold at? seqIndex?
  simp
 rw [this]; rfl
theorem iS {d : PyData} {ds : List PyData} (h : ds.length < 200000) : atL (ds ++ [d]) (-1) = some d := by
 unfold atL lenL
 rw [i6 (by rw [lap]; exact h)]
 have : at? (ds ++ [d]).length (-1) = some ds.length := by
  unfold at? seqIndex?
  have h1 : (-1 : Int) < 0 := by decide
  have h2 : (-1 : Int) + ((ds ++ [d]).length : Nat) = (ds.length : Int) := by rw [lap]; simp; lia
  rw [if_pos h1, h2]
  simp
  lia
 show (at? (ds ++ [d]).length (-1)).bind _ = _
 rw [this]
 show (ds ++ [d])[ds.length]? = _
 rw [List.getElem?_append_right (Nat.le_refl _), Nat.sub_self]; rfl
theorem zQ (hz : R.sz <= 100000) : B U jV [.val (g9 R)] = .ret (.val (q4 (faultR R))) [] := by
 obtain ⟨cl, ft, wt⟩ := R
 unfold Rd.sz at hz
 dsimp only at hz
 have e1 : ev U (.cmpNil true (.loc 1)) ⟨[some (.val (g9 ⟨cl, ft, wt⟩)), some (.val (.list (encL cl))), some (.val (K5 ft)), some (.val (.list (encL wt)))], [], 0⟩ = .ok [bV (!(encL cl).isEmpty)] _ := J8 (f := .val (.list (encL cl))) rfl rfl
 have e2 : ev U (.cmpNil true (.loc 3)) ⟨[some (.val (g9 ⟨cl, ft, wt⟩)), some (.val (.list (encL cl))), some (.val (K5 ft)), some (.val (.list (encL wt)))], [], 0⟩ = .ok [bV (!(encL wt).isEmpty)] _ := J8 (f := .val (.list (encL wt))) rfl rfl
 cases cl with
 | cons m cl =>
  have e3 : ev U (.peek .idx (.loc 1) (b9 j0)) ⟨[some (.val (g9 ⟨m :: cl, ft, wt⟩)), some (.val (.list (encL (m :: cl)))), some (.val (K5 ft)), some (.val (.list (encL wt)))], [], 0⟩ = .ok [.val (encM m)] ⟨[some (.val (g9 ⟨m :: cl, ft, wt⟩)), some (.val (.list (encL (m :: cl)))), some (.val (K5 ft)), some (.val (.list (encL wt)))], [], 0⟩ := M4 (f := .val (.list (encL (m :: cl)))) (m := 0) rfl rfl rfl (sY (by have := A2 cl; simp at hz ⊢; lia))
  exact j2 rfl ((d4 rfl).trans (f8 ((i9 e1).trans (f8 (k4 (d := q4 (.no m.2.1 m.2.2)) ((d6 (fs := [.val (.int m.2.1), .val (.int m.2.2), .val (strD [99, 108, 111, 115, 101, 115, 32, 110, 111, 116, 104, 105, 110, 103])]) (f0 (i := m.2.1) ((d6 (fs := [.val (encM m), .val (.int 1)]) (d5 e3 rfl)).trans rfl) (f0 (i := m.2.2) ((d6 (fs := [.val (encM m), .val (.int 2)]) (d5 e3 rfl)).trans rfl) rfl))).trans rfl))))))
 | nil =>
  cases ft with
  | some m => exact j2 rfl ((d4 rfl).trans ((j3 e1).trans (f8 ((i9 (k9 (u := encM m) (v := .none) rfl rfl)).trans (f8 (k4 rfl))))))
  | none =>
   cases hw : wt.getLast? with
   | none =>
    cases List.getLast?_eq_none_iff.mp hw
    exact j2 rfl ((d4 rfl).trans ((j3 e1).trans ((j3 rfl).trans ((j3 e2).trans (f8 (k4 rfl))))))
   | some m =>
    obtain ⟨ws, rfl⟩ := List.getLast?_eq_some_iff.mp hw
    have he : encL (ws ++ [m]) = encL ws ++ [encM m] := by unfold encL; rw [List.map_append]; rfl
    have hf : faultR ⟨[], none, ws ++ [m]⟩ = .lft m.2.1 m.2.2 := by unfold faultR; dsimp only; rw [hw]
    rw [hf]
    have e3 : ev U (.peek .idx (.loc 3) (b9 (.op .neg (b9 f7)))) ⟨[some (.val (g9 ⟨[], none, ws ++ [m]⟩)), some (.val (.list (encL []))), some (.val (K5 none)), some (.val (.list (encL (ws ++ [m]))))], [], 0⟩ = .ok [.val (encM m)] ⟨[some (.val (g9 ⟨[], none, ws ++ [m]⟩)), some (.val (.list (encL []))), some (.val (K5 none)), some (.val (.list (encL (ws ++ [m]))))], [], 0⟩ := M4 (f := .val (.list (encL (ws ++ [m])))) (m := -1) rfl rfl rfl (by rw [he]; exact iS (by rw [A2]; simp at hz; lia))
    have e4 : (!(encL (ws ++ [m])).isEmpty) = true := by rw [he]; cases encL ws <;> rfl
    rw [e4] at e2
    exact j2 rfl ((d4 rfl).trans ((j3 e1).trans ((j3 rfl).trans (f8 ((i9 e2).trans (f8 (k4 (d := q4 (.lft m.2.1 m.2.2)) ((d6 (fs := [.val (.int m.2.1), .val (.int m.2.2), .val (strD [108, 101, 102, 116, 32, 111, 112, 101, 110])]) (f0 (i := m.2.1) ((d6 (fs := [.val (encM m), .val (.int 1)]) (d5 e3 rfl)).trans rfl) (f0 (i := m.2.2) ((d6 (fs := [.val (encM m), .val (.int 2)]) (d5 e3 rfl)).trans rfl) rfl))).trans rfl))))))))
noncomputable def qJ (U : Nat -> Fn) : Prop := ∀ R : Rd, R.sz <= 100000 -> U 10 [] [.val (g9 R)] = .ret (.val (q4 (faultR R))) []
noncomputable def encP (l : List Nat) : PyData := .list ((toks l).map encT)
noncomputable def marksAll : Nat -> LL -> List Mk
 | _, [] => []
 | n, l :: ls => (q6 0 l).map (low n) ++ marksAll (n + 1) ls
theorem x5i {n : Nat} : marksAll n [] = [] := rfl
theorem K2 {n : Nat} {l : List Nat} {ls : LL} : marksAll n (l :: ls) = (q6 0 l).map (low n) ++ marksAll (n + 1) ls := rfl
theorem tH : ∀ (l : List Nat) (i : Nat), (q6 i l).length <= l.length
 | [], _ => Nat.le_refl _
 | c :: l, i => by
  rw [S8]
  have := tH l (i + 1)
  split <;> simp <;> lia
theorem kN : ∀ (rows : LL) (n : Nat), T0 rows -> (marksAll n rows).length <= 120 * rows.length
 | [], _, _ => Nat.le_refl _
 | l :: rows, n, h => by
  rw [K2, lap, i7, List.length_cons]
  have := kN rows (n + 1) fun k hk => h k (.tail _ hk)
  have := nlt (tH l 0) (n9 (h l (.head _)))
  lia
noncomputable def rd (rows : LL) : Rd := run .nil (marksAll 0 rows)
theorem x3W (h8 : Sp8 U) {l : List Nat} (hl : n4 l = true) : U 8 [] [.val (encP l)] = .ret (.val (g9 (run .nil (q6 0 l)))) [] := by
 have := h8 (toks l) (vW l) (by have := lJ l; have := n9 hl; lia)
 rwa [uW] at this
theorem jO (h : OkText rows) : (rd rows).sz <= 8000 := by
 have h1 := iC .nil (marksAll 0 rows)
 have h2 := kN rows 0 h.rows
 have h3 := h.most
 have h4 : (Rd.nil).sz = 0 := rfl
 unfold rd; lia
end
end Mine.Internal.S
end
section
namespace Mine.Internal
section
variable {st : St} {a b n : Int} {l r : List Nat}
theorem V1 (h : small a = true \/ small b = true) : o3 (.bin .Mult) [.val (.int a), .val (.int b)] st = .ok [.val (.int (a * b))] st := by
 show oneO (binF .Mult (.int a) (.int b)) st = _
 have e : o8 asI (.int a) (.int b) (fun a b => gd (small a || small b) (F.val (.int (a * b)))) = some (.val (.int (a * b))) := by
  show gd (small a || small b) _ = _
  rw [show (small a || small b) = true from Bool.or_eq_true_iff.mpr h]; rfl
 unfold binF
 dsimp only
 rw [e]; rfl
theorem v6 (h : l.length + r.length <= 200000) : o3 (.bin .Add) [.val (.str (S l)), .val (.str (S r))] st = .ok [.val (.str (S (l ++ r)))] st := by
 show oneO (((none : Option F).or (gd (okLen (l.length + r.length)) (.val (.str (S (l ++ r)))))).or ((none : Option F).or none)) st = _
 rw [i6 h]; rfl
theorem F3 {α : Type} {l : List α} (hz : l.length <= 200000) (h0 : 0 <= n) (h1 : n < l.length) : atL l n = l[n.toNat]? := by
 unfold atL lenL
 rw [i6 hz, show gd true l.length = some l.length from rfl, Option.bind_some]
 have : at? l.length n = some n.toNat := by
  unfold at? seqIndex?
  have : ¬ n < 0 := by lia
  simp [this, h0, h1]
 rw [this, Option.bind_some]
theorem W5 (hz : l.length <= 200000) (h0 : 0 <= n) (h1 : n < l.length) : o3 .idx [.val (.str (S l)), .val (.int n)] st = .ok [.val (sgn (l[n.toNat]?.getD 32))] st := by
 show oneO (((((atL l n).map sgn).or none).or none).map .val) st = _
 rw [F3 hz h0 h1]
 have : n.toNat < l.length := by lia
 rw [geg this]; rfl
end
end Mine.Internal
namespace Mine.Internal.S
theorem F9 (a : Int) {b : Int} (hb : 0 < b) : 0 <= a.fmod b := Int.fmod_nonneg_of_pos a hb
theorem H7 (a : Int) {b : Int} (hb : 0 < b) : a.fmod b < b := Int.fmod_lt_of_pos a hb
noncomputable def signs : List Nat := [32, 33, 34, 35, 36, 38, 39, 40, 41, 42, 43, 44, 45, 46, 47, 48, 49, 50, 51, 52, 53, 54, 55, 56, 57, 58, 59, 60, 61, 62, 63, 64, 65, 66, 67, 68, 69, 70, 71, 72, 73, 74, 75, 76, 77, 78, 79, 80, 81, 82, 83, 84, 85, 86, 87, 88, 89, 90, 91, 92, 93, 94, 95, 96, 97, 98, 99, 100, 101, 102, 103, 104, 105, 106, 107, 108, 109, 110, 111, 112, 113, 114, 115, 116, 117, 118, 119, 120, 121, 122, 123, 124, 125, 126]
noncomputable def s7 (c : Int) : Nat := (signs[(c.fmod 94).toNat]?).getD 32
theorem x4t : ∀ c ∈ signs, m5 c = true := by decide +kernel
theorem gA (c : Int) : m5 (s7 c) = true := by
 unfold s7
 cases e : signs[(c.fmod 94).toNat]? with
 | none => rfl
 | some d => exact x4t d (mog e)
noncomputable def nl (l : List Nat) : Nat := (l.filter (· == 10)).length
noncomputable def nn (l : List Nat) : Nat := (l.filter (· != 10)).length
theorem J7 (a b : List Nat) : nl (a ++ b) = nl a + nl b := by simp [nl]
theorem M3 (a b : List Nat) : nn (a ++ b) = nn a + nn b := by simp [nn]
noncomputable def uQ (c : Nat) : Prop := m5 c = true \/ c = 10
theorem Q3 {c : Nat} (h : m5 c = true) : c ≠ 10 := fun e => by subst e; cases h
theorem fX {c : Nat} (h : m5 c = true) : nl [c] = 0 := by have := Q3 h; simp [nl, this]
theorem vM {c : Nat} (h : m5 c = true) : nn [c] = 1 := by have := Q3 h; simp [nn, this]
theorem xB : nl [10] = 1 := rfl
theorem x2y : nn [10] = 0 := rfl
theorem sF : ∀ {l : List Nat}, (∀ c ∈ l, m5 c = true) -> nl l = 0
 | [], _ => rfl
 | c :: l, h => by
  have : nl (c :: l) = nl [c] + nl l := J7 [c] l
  rw [this, fX (h c (.head _)), sF fun d hd => h d (.tail _ hd)]
theorem wW (l : List Nat) : nn l <= l.length := List.length_filter_le _ _
structure Inv (pt : Bool) (i : Nat) (sg op : List Nat) : Prop where
 hsg : ∀ c ∈ sg, uQ c
 hop : ∀ c ∈ op, m5 c = true
 hnl : nl sg <= if pt then i / 2 else i
 hnn : nn sg + op.length <= if pt then 2 * ((i + 1) / 2) else 2 * i
theorem Inv.line {pt : Bool} {i : Nat} {sg op : List Nat} (h : Inv pt i sg op) (hi : pt = true -> i % 2 = 1) : Inv pt (i + 1) (sg ++ [10]) op := by
 refine ⟨fun c hc => ?_, h.hop, ?_, ?_⟩
 . rcases List.mem_append.mp hc with hc | hc
   . exact h.hsg c hc
   . rw [lsm hc]; exact .inr rfl
 . have := h.hnl
   rw [J7, xB]
   cases pt with
   | false => simp at this ⊢; lia
   | true => have := hi rfl; simp at *; lia
 . have := h.hnn
   rw [M3, x2y]
   cases pt with
   | false => simp at this ⊢; lia
   | true => simp at *; lia
theorem Inv.sign {pt : Bool} {i x : Nat} {sg op op' : List Nat} (h : Inv pt i sg op) (hx : m5 x = true) (hi : pt = true -> i % 2 = 0) (ho : ∀ c ∈ op', m5 c = true) (hl : op'.length <= op.length + 1) : Inv pt (i + 1) (sg ++ [x]) op' := by
 refine ⟨fun c hc => ?_, ho, ?_, ?_⟩
 . rcases List.mem_append.mp hc with hc | hc
   . exact h.hsg c hc
   . rw [lsm hc]; exact .inl hx
 . have := h.hnl
   rw [J7, fX hx]
   cases pt with
   | false => simp at this ⊢; lia
   | true => have := hi rfl; simp at *; lia
 . have := h.hnn
   rw [M3, vM hx]
   cases pt with
   | false => simp at this ⊢; lia
   | true => have := hi rfl; simp at *; lia
theorem U5 {l : List Nat} (h : ∀ c ∈ l, m5 c = true) (n : Nat) : m5 (l[n]?.getD 32) = true := by
 cases e : l[n]? with
 | none => rfl
 | some d => exact h d (mog e)
section
variable {U : Nat -> Fn} {xs : List Int} {j : Nat}
noncomputable abbrev lS (xs : List Int) : PyData := .list (xs.map .int)
theorem yK (h : xs.length <= 63) : B U dK [.val (lS xs), .val (.int j)] = .ret (.val (.int (xs.getD j 0))) [] := by
 have hl : ev U (.op .len (b9 d8)) ⟨[some (.val (lS xs)), some (.val (.int j))], [], 0⟩ = .ok [.val (.int xs.length)] ⟨[some (.val (lS xs)), some (.val (.int j))], [], 0⟩ := (d6 (fs := [.val (lS xs)]) (d5 (f := .val (lS xs)) rfl rfl)).trans (by
  show oneO ((((none : Option Nat).or (lenL (xs.map PyData.int))).or none).map intV) _ = _
  unfold lenL
  rw [i7, i6 (by lia)]; rfl)
 have hc := k9 (op := .Lt) (d5 (a := .get (.loc 1)) (st := ⟨[some (.val (lS xs)), some (.val (.int j))], [], 0⟩) (f := .val (.int j)) rfl (d5 (b := .nil) hl rfl)) rfl
 by_cases q : j < xs.length
 . rw [show decide ((j : Int) < xs.length) = true from dtt (by lia)] at hc
   have hi : ev U (.op .idx (a9 d8 d7)) ⟨[some (.val (lS xs)), some (.val (.int j))], [], 0⟩ = .ok [.val (.int (xs.getD j 0))] ⟨[some (.val (lS xs)), some (.val (.int j))], [], 0⟩ := (d6 (fs := [.val (lS xs), .val (.int j)]) (d5 (f := .val (lS xs)) rfl (f0 (i := j) rfl rfl))).trans (by
    show oneO ((((none : Option PyData).or (atL (xs.map PyData.int) j)).or none).map .val) _ = _
    rw [F3 (by rw [i7]; lia) (by lia) (by rw [i7]; lia), Int.toNat_natCast, List.getElem?_map, geg q, List.getD_eq_getElem?_getD, geg q]; rfl)
   exact j2 rfl (f8 ((i9 hc).trans (f8 (k4 hi))))
 . rw [show decide ((j : Int) < xs.length) = false from dff (by lia)] at hc
   rw [show xs.getD j 0 = 0 by rw [List.getD_eq_getElem?_getD, List.getElem?_eq_none (Nat.le_of_not_lt q)]; rfl]
   exact j2 rfl ((j3 hc).trans (f8 (k4 rfl)))
noncomputable def B6 (U : Nat -> Fn) : Prop := ∀ xs : List Int, xs.length <= 63 -> ∀ j : Nat, U 30 [] [.val (lS xs), .val (.int j)] = .ret (.val (.int (xs.getD j 0))) []
theorem x5g {c : Int} : B U gL [.val (.int c)] = .ret (.val (sgn (s7 c))) [] :=
 j2 rfl ((d4 rfl).trans ((d4 rfl).trans (f8 (k4 ((d6 (fs := [.val (strD signs), .val (.int (c.fmod 94))]) rfl).trans (W5 (l := signs) (by decide) (F9 _ (by decide)) (H7 _ (by decide))))))))
noncomputable def z9 (U : Nat -> Fn) : Prop := ∀ c : Int, U 31 [] [.val (.int c)] = .ret (.val (sgn (s7 c))) []
end
section
variable {U : Nat -> Fn} {c sz : Option F} {pt : Bool} {i : Nat} {sg op : List Nat} {N W : Int} {x8 : Option F}
noncomputable abbrev tS (c sz : Option F) (pt : Bool) (sg op : List Nat) (N : Int) (i : Nat) (W : Int) (x8 : Option F) : St := ⟨[c, sz, some (.val (.bool pt)), some (.val (strD sg)), some (.val (strD op)), some (.val (.int N)), some (.val (.int i)), some (.val (.int W)), x8], [], 0⟩
noncomputable def pick (l : List Nat) (N : Int) : Nat := l[((N.fdiv 63).fmod l.length).toNat]?.getD 32
theorem jH {l : List Nat} {n : Int} (hn : n = l.length) (h0 : 0 < l.length) (hz : l.length <= 1000) (hnn : (n != 0) = true) : ev U (.op .idx (a9 (.lit (.str (S l))) (bM (bF i8 z7) (.lit (.int n))))) (tS c sz pt sg op N i W x8) = .ok [.val (sgn (pick l N))] (tS c sz pt sg op N i W x8) := by
 have e1 : ev U (bM (bF i8 z7) (.lit (.int n))) (tS c sz pt sg op N i W x8) = .ok [.val (.int ((N.fdiv 63).fmod n))] (tS c sz pt sg op N i W x8) := by
  refine (d6 (fs := [.val (.int (N.fdiv 63)), .val (.int n)]) rfl).trans ?_
  show oneO (gd (n != 0) (.val (.int ((N.fdiv 63).fmod n)))) _ = _
  rw [hnn]; rfl
 refine (d6 (fs := [.val (strD l), .val (.int ((N.fdiv 63).fmod n))]) (m6 (l := l) rfl (d5 e1 rfl))).trans ?_
 subst hn
 exact W5 (by lia) (F9 _ (by lia)) (H7 _ (by lia))
theorem x5J (h31 : z9 U) (hz : sg.length <= 1000) : ∃ x x8', m5 x = true /\ ex U s4 (tS c sz pt sg op N i W x8) = .ok .next (tS c sz pt (sg ++ [x]) op N i W x8') := by
 have hc : ev U (.cmp .Eq (a9 n3 B9)) (tS c sz pt sg op N i W x8) = .ok [bV (W == 7)] (tS c sz pt sg op N i W x8) := rfl
 cases h7 : W == 7 with
 | true =>
  rw [h7] at hc
  have e1 : ex U (.assign (.loc 8) (.call true 31 (b9 (bF i8 z7)))) (tS c sz pt sg op N i W x8) = .ok .next (tS c sz pt sg op N i W (some (.val (sgn (s7 (N.fdiv 63)))))) := (j5 (n8 (fs := [.val (.int (N.fdiv 63))]) rfl rfl (h31 _))).trans rfl
  have e2 : ev U (.cmp .NotIn (a9 C4 (.lit (.str (S [40, 41, 91, 93, 123, 125]))))) (tS c sz pt sg op N i W (some (.val (sgn (s7 (N.fdiv 63)))))) = .ok [bV (!decide (s7 (N.fdiv 63) ∈ [40, 41, 91, 93, 123, 125]))] (tS c sz pt sg op N i W (some (.val (sgn (s7 (N.fdiv 63)))))) := (k9 (op := .NotIn) (u := sgn (s7 (N.fdiv 63))) (v := strD [40, 41, 91, 93, 123, 125]) rfl rfl).trans (by rw [jL])
  have key : ∀ {q : Bool} {x : Nat}, (!decide (s7 (N.fdiv 63) ∈ [40, 41, 91, 93, 123, 125])) = q -> (∀ st : St, o3 .idx [.val (.list [strD [97], sgn (s7 (N.fdiv 63))]), .val (.int (if q then 1 else 0))] st = .ok [.val (sgn x)] st) -> ex U s4 (tS c sz pt sg op N i W x8) = .ok .next (tS c sz pt (sg ++ [x]) op N i W (some (.val (sgn (s7 (N.fdiv 63)))))) := fun {q x} hq hi => by
   rw [hq] at e2
   have e3 := d6 (o := .toInt) (d5 (b := .nil) e2 rfl)
   exact (i9 hc).trans ((d4 e1).trans ((d4 ((j5 ((d6 (fs := [.val (strD sg), .val (sgn x)]) (m6 (l := sg) rfl (d5 (f := .val (sgn x)) ((d6 (fs := [.val (.list [strD [97], sgn (s7 (N.fdiv 63))]), .val (.int (if q then 1 else 0))]) (d5 (f := .own [strD [97], sgn (s7 (N.fdiv 63))]) rfl (d5 (b := .nil) e3 rfl))).trans (hi _)) rfl))).trans (v6 (by simp; lia)))).trans rfl)).trans rfl))
  cases hq : (!decide (s7 (N.fdiv 63) ∈ [40, 41, 91, 93, 123, 125])) with
  | true => exact ⟨_, _, gA (N.fdiv 63), key hq fun _ => rfl⟩
  | false => exact ⟨97, _, rfl, key hq fun _ => rfl⟩
 | false =>
  rw [h7] at hc
  refine ⟨pick [32, 120] N, x8, U5 (by decide) _, (o5 hc).trans ((d4 ((j5 ((d6 (fs := [.val (strD sg), .val (sgn (pick [32, 120] N))]) (m6 (l := sg) rfl (d5 (jH rfl (by decide) (by decide) rfl) rfl))).trans (v6 (by simp; lia)))).trans rfl)).trans rfl)⟩
theorem x6S (h31 : z9 U) (hz : sg.length <= 1000) (hz2 : op.length <= 1000) (hop : ∀ c ∈ op, m5 c = true) : ∃ x op' x8', m5 x = true /\ op'.length <= op.length /\ (∀ c ∈ op', m5 c = true) /\ ex U s3 (tS c sz pt sg op N i W x8) = .ok .next (tS c sz pt (sg ++ [x]) op' N i W x8') := by
 have hc : ev U (.and (.cmp .Lt (a9 n3 B8)) (.cmp .NotEq (a9 g7 (.lit (.str (S [])))))) (tS c sz pt sg op N i W x8) = .ok [bV (decide (W < 5) && !(op == []))] _ := q7 (k9 (op := .Lt) (u := .int W) (v := .int 5) rfl rfl) fun _ => k9 (op := .NotEq) (u := strD op) (v := strD []) rfl rfl
 cases hb : (decide (W < 5) && !(op == [])) with
 | false =>
  rw [hb] at hc
  obtain ⟨x, x8', hx, h4⟩ := x5J (c := c) (sz := sz) (pt := pt) (i := i) (op := op) (N := N) (W := W) (x8 := x8) h31 hz
  exact ⟨x, op, x8', hx, Nat.le_refl _, hop, (o5 hc).trans ((d4 h4).trans rfl)⟩
 | true =>
  rw [hb] at hc
  cases op with
  | nil => cases (and2 hb).2
  | cons d op =>
   have z : op.length + 1 <= 1000 := hz2
   have e5 : ex U (.assign (.loc 3) (bA f5 (.op .idx (a9 g7 j0)))) (tS c sz pt sg (d :: op) N i W x8) = .ok .next (tS c sz pt (sg ++ [d]) (d :: op) N i W x8) := (j5 ((d6 (fs := [.val (strD sg), .val (sgn d)]) (m6 (l := sg) rfl (d5 (f := .val (sgn d)) ((d6 (fs := [.val (strD (d :: op)), .val (.int 0)]) rfl).trans (W5 (l := d :: op) (n := 0) (by simp; lia) (by decide) (by simp))) rfl))).trans (v6 (by simp; lia)))).trans rfl
   have e6 : o3 (.slc true false) [.val (strD (d :: op)), .val (.int 1)] (tS c sz pt (sg ++ [d]) (d :: op) N i W x8) = .ok [.val (strD op)] (tS c sz pt (sg ++ [d]) (d :: op) N i W x8) := by
    show oneO (((cutL (d :: op) (some (.int 1)) none).map fun l => F.val (.str (S l))).or none) _ = _
    unfold cutL lenL
    rw [i6 (by simp; lia), show gd true (d :: op).length = some (d :: op).length from rfl, Option.bind_some, show (bnd (some (.int 1)) 0) = some 1 from bnd_ok (b := 1) (by decide), Option.bind_some]
    show oneO ((some (F.val (.str (S (((d :: op).take (d :: op).length).drop 1))))).or none) _ = _
    rw [List.take_length]; rfl
   exact ⟨d, op, x8, hop d (.head _), Nat.le_succ _, fun k hk => hop k (.tail _ hk), (i9 hc).trans ((d4 e5).trans ((d4 ((j5 ((d6 (fs := [.val (strD (d :: op)), .val (.int 1)]) rfl).trans e6)).trans rfl)).trans rfl))⟩
end
end Mine.Internal.S
end
section
namespace Mine.Internal.S
section
variable {U : Nat -> Fn} {c sz : Option F} {pt : Bool} {i : Nat} {sg op : List Nat} {N W : Int} {x8 : Option F}
theorem x6l (h31 : z9 U) (hz : sg.length <= 1000) (hz2 : op.length <= 1000) (hop : ∀ c ∈ op, m5 c = true) : ∃ x op' x8', m5 x = true /\ op'.length <= op.length + 1 /\ (∀ c ∈ op', m5 c = true) /\ ex U s2 (tS c sz pt sg op N i W x8) = .ok .next (tS c sz pt (sg ++ [x]) op' N i W x8') := by
 have hc : ev U (.cmp .Lt (a9 n3 j4)) (tS c sz pt sg op N i W x8) = .ok [bV (decide (W < 2))] (tS c sz pt sg op N i W x8) := rfl
 cases hb : decide (W < 2) with
 | false =>
  rw [hb] at hc
  obtain ⟨x, op', x8', hx, hl, ho, h3⟩ := x6S (c := c) (sz := sz) (pt := pt) (i := i) (N := N) (W := W) (x8 := x8) h31 hz hz2 hop
  exact ⟨x, op', x8', hx, by lia, ho, (o5 hc).trans ((d4 h3).trans rfl)⟩
 | true =>
  rw [hb] at hc
  have e5 : ex U (.assign (.loc 4) (bA (.op .idx (a9 (.lit (.str (S [41, 93, 125]))) (bM (bF i8 z7) w9))) g7)) (tS c sz pt sg op N i W x8) = .ok .next (tS c sz pt sg (pick [41, 93, 125] N :: op) N i W x8) := (j5 ((d6 (fs := [.val (sgn (pick [41, 93, 125] N)), .val (strD op)]) (d5 (f := .val (sgn (pick [41, 93, 125] N))) (jH rfl (by decide) (by decide) rfl) rfl)).trans (v6 (l := [pick [41, 93, 125] N]) (by simp; lia)))).trans rfl
  have e6 : ex U (.assign (.loc 3) (bA f5 (.op .idx (a9 (.lit (.str (S [40, 91, 123]))) (bM (bF i8 z7) w9))))) (tS c sz pt sg (pick [41, 93, 125] N :: op) N i W x8) = .ok .next (tS c sz pt (sg ++ [pick [40, 91, 123] N]) (pick [41, 93, 125] N :: op) N i W x8) := (j5 ((d6 (fs := [.val (strD sg), .val (sgn (pick [40, 91, 123] N))]) (m6 (l := sg) rfl (d5 (jH rfl (by decide) (by decide) rfl) rfl))).trans (v6 (by simp; lia)))).trans rfl
  refine ⟨pick [40, 91, 123] N, pick [41, 93, 125] N :: op, x8, U5 (by decide) _, Nat.le_refl _, fun k hk => ?_, (i9 hc).trans ((d4 e5).trans ((d4 e6).trans rfl))⟩
  rcases List.mem_cons.mp hk with rfl | hk
  . exact U5 (by decide) _
  . exact hop k hk
theorem x5Y (h31 : z9 U) (hz : sg.length <= 1000) (hz2 : op.length <= 1000) (hI : Inv pt i sg op) : ∃ sg' op' x8', Inv pt (i + 1) sg' op' /\ ex U s1 (tS c sz pt sg op N i W x8) = .ok .next (tS c sz pt sg' op' N i W x8') := by
 have hc : ev U (.or (.and f6 (.cmp .Eq (a9 (bM j7 j4) f7))) (.and (.cmp .Eq (a9 n3 E3)) (.not f6))) (tS c sz pt sg op N i W x8) = .ok [bV ((pt && ((i : Int).fmod 2 == 1)) || ((W == 6) && !pt))] (tS c sz pt sg op N i W x8) :=
  v8 (q7 (x := pt) rfl fun _ => rfl) fun _ => q7 (x := W == 6) rfl fun _ => rfl
 have hm : ((i : Int).fmod 2) = ((i % 2 : Nat) : Int) := by rw [Int.fmod_eq_emod_of_nonneg _ (by lia)]; lia
 cases hb : (pt && ((i : Int).fmod 2 == 1)) || ((W == 6) && !pt) with
 | true =>
  rw [hb] at hc
  refine ⟨sg ++ [10], op, x8, hI.line fun hp => ?_, (i9 hc).trans ((d4 ((j5 ((d6 (fs := [.val (strD sg), .val (strD [10])]) rfl).trans (v6 (by simp; lia)))).trans rfl)).trans rfl)⟩
  rw [hp, hm] at hb
  have : ((i % 2 : Nat) : Int) = 1 := by simpa using hb
  lia
 | false =>
  rw [hb] at hc
  obtain ⟨x, op', x8', hx, hl, ho, h2⟩ := x6l (c := c) (sz := sz) (pt := pt) (i := i) (N := N) (W := W) (x8 := x8) h31 hz hz2 hI.hop
  refine ⟨sg ++ [x], op', x8', hI.sign hx (fun hp => ?_) ho hl, (o5 hc).trans ((d4 h2).trans rfl)⟩
  rw [hp, hm] at hb
  have : ¬ ((i % 2 : Nat) : Int) = 1 := by simpa using hb
  lia
theorem x4c (h31 : z9 U) (hz : sg.length <= 1000) (hz2 : op.length <= 1000) (hI : Inv pt i sg op) {x6 x7 : Option F} : ∃ sg' op' N' x7' x8', Inv pt (i + 1) sg' op' /\
  stepB U false [6] sB (.int i) ⟨[c, sz, some (.val (.bool pt)), some (.val (strD sg)), some (.val (strD op)), some (.val (.int N)), x6, x7, x8], [], 0⟩ = .ok .next ⟨[c, sz, some (.val (.bool pt)), some (.val (strD sg')), some (.val (strD op')), some (.val (.int N')), some (.val (.int i)), x7', x8'], [], 0⟩ := by
 obtain ⟨sg', op', x8', hI', h1⟩ := x5Y (U := U) (c := c) (sz := sz) (N := ((N * 48271 + 11 * i + 7).fmod 2147483647)) (W := (((N * 48271 + 11 * i + 7).fmod 2147483647).fdiv 7).fmod 9) (x8 := x8) h31 hz hz2 hI
 refine ⟨sg', op', (N * 48271 + 11 * i + 7).fmod 2147483647, some (.val (.int ((((N * 48271 + 11 * i + 7).fmod 2147483647).fdiv 7).fmod 9))), x8', hI', ?_⟩
 exact (p8 rfl).trans ((d4 ((j5 ((d6 (fs := [.val (.int (N * 48271 + 11 * i + 7)), .val (.int 2147483647)]) (f0 (i := (N * 48271 + 11 * i + 7)) ((d6 (fs := [.val (.int (N * 48271 + 11 * i)), .val (.int 7)]) (f0 (i := (N * 48271 + 11 * i)) ((d6 (fs := [.val (.int (N * 48271)), .val (.int (11 * i))]) (f0 (i := (N * 48271)) ((d6 (fs := [.val (.int N), .val (.int 48271)]) rfl).trans (V1 (.inr (by decide)))) rfl)).trans rfl) rfl)).trans rfl) rfl)).trans rfl)).trans rfl)).trans ((d4 rfl).trans ((d4 h1).trans rfl)))
end
theorem rO : ∀ l : List Nat, l.length = nl l + nn l
 | [] => rfl
 | c :: l => by
  have ih := rO l
  unfold nl nn at ih ⊢
  rw [List.length_cons, ih, List.filter_cons, List.filter_cons]
  cases hc : c == 10
  . rw [show (c != 10) = true by unfold bne; rw [hc]; rfl]; exact Nat.add_assoc ..
  . rw [show (c != 10) = false by unfold bne; rw [hc]; rfl]; exact Nat.add_right_comm ..
theorem x5K {pt : Bool} {i : Nat} : (if pt then i / 2 else i) <= i := by cases pt with | false => exact Nat.le_refl _ | true => exact Nat.div_le_self ..
theorem x5D {pt : Bool} {i : Nat} : (if pt then 2 * ((i + 1) / 2) else 2 * i) <= 2 * i + 2 := by cases pt with | false => exact Nat.le_add_right .. | true => exact nlt (Nat.mul_div_le ..) (by lia)
theorem mO {pt : Bool} {i : Nat} {sg op : List Nat} (h : Inv pt i sg op) : sg.length <= 3 * i + 2 /\ op.length <= 2 * i + 2 := by
 have h1 := nlt h.hnl x5K
 have h2 := nlt h.hnn x5D
 exact ⟨by rw [rO]; exact nlt (Nat.add_le_add h1 (nlt (Nat.le_add_right ..) h2)) (by lia), nlt (Nat.le_add_left ..) h2⟩
theorem yB {a i n : Nat} (h : a <= 3 * i + 2) (hb : i + (n + 1) <= 200) : a <= 1000 := by lia
theorem len2 {a i n : Nat} (h : a <= 2 * i + 2) (hb : i + (n + 1) <= 200) : a <= 1000 := by lia
theorem lD {U : Nat -> Fn} {c sz : Option F} {pt : Bool} (h31 : z9 U) : ∀ (n i : Nat) (sg op : List Nat) (N : Int) (x6 x7 x8 : Option F), i + n <= 200 -> Inv pt i sg op ->
  ∃ sg' op' N' x6' x7' x8', Inv pt (i + n) sg' op' /\ forL (stepB U false [6] sB) ((List.range' i n).map fun (k : Nat) => PyData.int k) ⟨[c, sz, some (.val (.bool pt)), some (.val (strD sg)), some (.val (strD op)), some (.val (.int N)), x6, x7, x8], [], 0⟩ =
   .ok .next ⟨[c, sz, some (.val (.bool pt)), some (.val (strD sg')), some (.val (strD op')), some (.val (.int N')), x6', x7', x8'], [], 0⟩
 | 0, i, sg, op, N, x6, x7, x8, _, hI => ⟨sg, op, N, x6, x7, x8, hI, rfl⟩
 | n + 1, i, sg, op, N, x6, x7, x8, hb, hI => by
  obtain ⟨l1, l2⟩ := mO hI
  obtain ⟨sg1, op1, N1, x71, x81, hI1, e1⟩ := x4c (U := U) (c := c) (sz := sz) (N := N) (x8 := x8) (x6 := x6) (x7 := x7) h31 (yB l1 hb) (len2 l2 hb) hI
  obtain ⟨sg', op', N', x6', x7', x8', hI', e2⟩ := lD (U := U) (c := c) (sz := sz) h31 n (i + 1) sg1 op1 N1 (sI i) x71 x81 (by rw [Nat.add_assoc, Nat.add_comm 1]; exact hb) hI1
  refine ⟨sg', op', N', x6', x7', x8', by rw [Nat.add_comm n 1, <- Nat.add_assoc]; exact hI', ?_⟩
  rw [List.range'_succ, List.map_cons]
  exact (u6 e1).trans e2
structure OkStream (l : List Nat) (m : Nat) : Prop where
 good : ∀ c ∈ l, uQ c
 hnl : nl l <= 55
 hnn : nn l <= m
theorem x0N (l : List Nat) : l.length = nl l + nn l := by
 unfold nl nn
 induction l with
 | nil => rfl
 | cons c l ih => by_cases hc : c = 10 <;> simp [hc] <;> lia
theorem x4R {pt : Bool} {n : Nat} (hs : if pt then n <= 110 else n <= 55) : n <= 110 := by cases pt with | false => exact big (show n <= 55 from hs) | true => exact hs
theorem x4f {pt : Bool} {a n : Nat} (h : a <= if pt then n / 2 else n) (hs : if pt then n <= 110 else n <= 55) : a + 0 <= 55 := by
 cases pt with
 | false => exact nlt h hs
 | true => exact nlt h (Nat.div_le_of_le_mul hs)
theorem yF {pt : Bool} {a b c n : Nat} (h : a + b <= if pt then 2 * ((n + 1) / 2) else 2 * n) (hb : c <= b) (hs : if pt then n <= 110 else n <= 55) : a + c <= 110 := by
 refine nlt (Nat.add_le_add_left hb a) (nlt h ?_)
 cases pt with
 | false => exact Nat.mul_le_mul_left 2 hs
 | true => have hs : n <= 110 := hs; show 2 * ((n + 1) / 2) <= 110; lia
theorem x0J {n : Nat} (h : n <= 110) : rangeF 0 (n : Int) = some ((List.range' 0 n).map fun (k : Nat) => PyData.int k) := by
 unfold rangeF
 rw [show (okInt 0 && okInt (n : Int) && okLen ((n : Int) - 0).toNat) = true by
  have h2 : okLen ((n : Int) - 0).toNat = true := i6 (by lia)
  rw [kD (big h), h2]; rfl]
 show some _ = _
 rw [show ((n : Int) - 0).toNat = n by lia, List.range_eq_range']
 simp
theorem x6i {U : Nat -> Fn} (h31 : z9 U) (cell : Int) (size : Nat) (pt : Bool) (hs : if pt then size <= 110 else size <= 55) : ∃ l, OkStream l 110 /\ B U jX [.val (.int cell), .val (.int size), .val (.bool pt)] = .ret (.val (strD l)) [] := by
 have hs' : size <= 110 := x4R hs
 have hI0 : Inv pt 0 [] [] := ⟨fun c hc => (nomatch hc), fun c hc => (nomatch hc), by cases pt <;> simp [nl], by cases pt <;> simp [nn]⟩
 obtain ⟨sg, op, N, x6, x7, x8, hI, hloop⟩ := lD (U := U) (c := some (.val (.int cell))) (sz := some (.val (.int size))) (pt := pt) h31 size 0 [] [] cell.natAbs none none none (by rw [Nat.zero_add]; exact big hs') hI0
 rw [Nat.zero_add] at hI
 obtain ⟨l1, l2⟩ := mO hI
 have hops : nl op = 0 := sF hI.hop
 refine ⟨sg ++ op, ⟨fun c hc => ?_, ?_, ?_⟩, ?_⟩
 . rcases List.mem_append.mp hc with hc | hc
   . exact hI.hsg c hc
   . exact .inl (hI.hop c hc)
 . rw [J7, hops]
   exact x4f hI.hnl hs
 . rw [M3]
   exact yF hI.hnn (wW op) hs
 . have e1 := A9 (many := false) (is := [6]) (body := sB) (t8 (kd := 1) (e := .cons d7 .nil) (U := U) (st := ⟨[some (.val (.int cell)), some (.val (.int size)), some (.val (.bool pt)), some (.val (strD [])), some (.val (strD [])), some (.val (.int cell.natAbs)), none, none, none], [], 0⟩) (fs := [.val (.int size)]) (xs := (List.range' 0 size).map fun (k : Nat) => PyData.int k) rfl (by
    show ((rangeF 0 (size : Int)).or _) = _
    rw [x0J hs']; rfl))
   exact j2 rfl ((d4 rfl).trans ((d4 rfl).trans ((d4 rfl).trans ((d4 (e1.trans hloop)).trans (f8 (k4 ((d6 (fs := [.val (strD sg), .val (strD op)]) rfl).trans (v6 (big (Nat.add_le_add (nlt l1 (Nat.add_le_add_right (Nat.mul_le_mul_left 3 hs') 2)) (nlt l2 (Nat.add_le_add_right (Nat.mul_le_mul_left 2 hs') 2))))))))))))
noncomputable def qU (U : Nat -> Fn) : Prop := ∀ (cell : Int) (size : Nat) (pt : Bool), (if pt then size <= 110 else size <= 55) -> ∃ l, OkStream l 110 /\ U 32 [] [.val (.int cell), .val (.int size), .val (.bool pt)] = .ret (.val (strD l)) []
end Mine.Internal.S
end
section
namespace Mine.Internal
section
variable {st : St} {l : List Nat} {a : Nat}
theorem H8 (hl : l.length <= 100000) (ha : a <= 100000) : o3 (.slc false true) [.val (.str (S l)), .val (.int a)] st = .ok [.val (.str (S (l.take a)))] st := by
 show oneO (((cutL l none (some (.int a))).map fun l => F.val (.str (S l))).or none) st = _
 unfold cutL lenL
 rw [i6 (by lia), show gd true l.length = some l.length from rfl, Option.bind_some, show bnd none 0 = some 0 from rfl, Option.bind_some, S.bnd_ok ha]; rfl
theorem Q5 (hl : l.length <= 100000) (ha : a <= 100000) : o3 (.slc true false) [.val (.str (S l)), .val (.int a)] st = .ok [.val (.str (S (l.drop a)))] st := by
 show oneO (((cutL l (some (.int a)) none).map fun l => F.val (.str (S l))).or none) st = _
 unfold cutL lenL
 rw [i6 (by lia), show gd true l.length = some l.length from rfl, Option.bind_some, S.bnd_ok ha, Option.bind_some]
 show oneO ((some (F.val (.str (S ((l.take l.length).drop a))))).or none) st = _
 rw [List.take_length]; rfl
theorem F1 (hl : l.length <= 200000) : o3 .len [.val (.str (S l))] st = .ok [.val (.int l.length)] st := by
 show oneO ((((lenL l).or none).or none).map intV) st = _
 unfold lenL; rw [i6 hl]; rfl
end
end Mine.Internal
namespace Mine.Internal.S
theorem x4j {a b : List Nat} (h : a.Sublist b) : nl a <= nl b := (h.filter _).length_le
theorem x2q {a b : List Nat} (h : a.Sublist b) : nn a <= nn b := (h.filter _).length_le
theorem OkStream.sub {a b : List Nat} {m : Nat} (h : OkStream b m) (s : a.Sublist b) : OkStream a m := ⟨fun c hc => h.good c (s.subset hc), nlt (x4j s) h.hnl, nlt (x2q s) h.hnn⟩
theorem OkStream.ins {l : List Nat} {m a x : Nat} (h : OkStream l m) (hx : m5 x = true) : OkStream (l.take a ++ [x] ++ l.drop a) (m + 1) := by
 have e1 : nl l = nl (l.take a) + nl (l.drop a) := by rw [<- J7, List.take_append_drop]
 have e2 : nn l = nn (l.take a) + nn (l.drop a) := by rw [<- M3, List.take_append_drop]
 refine ⟨fun c hc => ?_, ?_, ?_⟩
 . simp only [List.mem_append, List.mem_singleton] at hc
   rcases hc with (hc | hc) | hc
   . exact h.good c (List.mem_of_mem_take hc)
   . rw [hc]; exact .inl hx
   . exact h.good c (List.mem_of_mem_drop hc)
 . rw [J7, J7, fX hx]; have := h.hnl; lia
 . rw [M3, M3, vM hx]; have := h.hnn; lia
theorem OkStream.more {l : List Nat} {m : Nat} (h : OkStream l m) : OkStream l (m + 1) := ⟨h.good, h.hnl, Nat.le_succ_of_le h.hnn⟩
theorem pG {l : List Nat} (a : Nat) : (l.take a ++ l.drop (a + 1)).Sublist l := by
 have : (l.take a ++ l.drop (a + 1)).Sublist (l.take a ++ l.drop a) := (List.Sublist.refl _).append (by rw [<- List.drop_drop]; exact List.drop_sublist ..)
 rwa [List.take_append_drop] at this
theorem OkStream.len {l : List Nat} {m : Nat} (h : OkStream l m) : l.length <= 55 + m := by rw [x0N]; have := h.hnl; have := h.hnn; lia
theorem cE : ∀ l : List Nat, (splitNL l).length = nl l + 1
 | [] => rfl
 | c :: r => by
  have ih := cE r
  rw [V5]
  by_cases hc : c = 10
  . rw [if_pos hc]
    have : nl (c :: r) = nl r + 1 := by subst hc; simp [nl]
    rw [List.length_cons, ih, this]
  . rw [if_neg hc]
    have : nl (c :: r) = nl r := by simp [nl, hc]
    rw [this, <- ih]
    cases hs : splitNL r with
    | nil => rw [hs] at ih; simp at ih
    | cons h t => rfl
theorem vN : ∀ (l : List Nat), ∀ row ∈ splitNL l, (∀ c ∈ row, c ∈ l /\ c ≠ 10) /\ row.length <= nn l
 | [] => fun row h => by simp [rG] at h; subst h; exact ⟨fun c hc => (nomatch hc), Nat.le_refl _⟩
 | c :: r => fun row h => by
  have ih := vN r
  have hl := cE r
  rw [V5] at h
  by_cases hc : c = 10
  . rw [if_pos hc] at h
    have hn : nn (c :: r) = nn r := by subst hc; simp [nn]
    rcases List.mem_cons.mp h with rfl | h
    . exact ⟨fun c hc => (nomatch hc), Nat.zero_le _⟩
    . obtain ⟨h1, h2⟩ := ih row h
      exact ⟨fun d hd => ⟨.tail _ (h1 d hd).1, (h1 d hd).2⟩, by rw [hn]; exact h2⟩
  . rw [if_neg hc] at h
    have hn : nn (c :: r) = nn r + 1 := by simp [nn, hc]
    cases hs : splitNL r with
    | nil => rw [hs] at hl; simp at hl
    | cons a t =>
     rw [hs] at h ih
     dsimp only at h
     rcases List.mem_cons.mp h with rfl | h
     . obtain ⟨h1, h2⟩ := ih a (.head _)
       refine ⟨fun d hd => ?_, by rw [hn, List.length_cons]; lia⟩
       rcases List.mem_cons.mp hd with rfl | hd
       . exact ⟨.head _, hc⟩
       . exact ⟨.tail _ (h1 d hd).1, (h1 d hd).2⟩
     . obtain ⟨h1, h2⟩ := ih row (.tail _ h)
       exact ⟨fun d hd => ⟨.tail _ (h1 d hd).1, (h1 d hd).2⟩, by rw [hn]; lia⟩
structure OkRows (rows : LL) (k m : Nat) : Prop where
 one : 1 <= rows.length
 most : rows.length <= k
 row : ∀ l ∈ rows, l.length <= m /\ ∀ c ∈ l, m5 c = true
theorem OkStream.rows {l : List Nat} {m : Nat} (h : OkStream l m) : OkRows (splitNL l) 56 m := by
 refine ⟨by rw [cE]; lia, by rw [cE]; have := h.hnl; lia, fun row hr => ?_⟩
 obtain ⟨h1, h2⟩ := vN l row hr
 refine ⟨nlt h2 h.hnn, fun c hc => ?_⟩
 rcases h.good c (h1 c hc).1 with q | q
 . exact q
 . exact absurd q (h1 c hc).2
section
variable {U : Nat -> Fn} {xs : List Int} {W : Int} {pt : Bool} {l : List Nat} {a m : Nat}
noncomputable abbrev uS (xs : List Int) (W : Int) (pt : Bool) (l : List Nat) (a : Nat) : St := ⟨[some (.val (lS xs)), some (.val (.int W)), some (.val (.bool pt)), some (.val (strD l)), some (.val (.int a)), none, none], [], 0⟩
theorem R5 {v : Slots} {j : Nat} (h30 : B6 U) (hx : xs.length <= 63) (hv : slot v 0 = some (.val (lS xs))) : ev U (.call true 30 (a9 d8 (.lit (.int j)))) ⟨v, [], 0⟩ = .ok [.val (.int (xs.getD j 0))] ⟨v, [], 0⟩ :=
 n8 (fs := [.val (lS xs), .val (.int j)]) (d5 (f := .val (lS xs)) (F6 hv) rfl) rfl (h30 xs hx j)
theorem N9 {n : Int} (h30 : B6 U) (hx : xs.length <= 63) : ev U (.cmp .Eq (a9 (bM (.call true 30 (a9 d8 j4)) y4) (.lit (.int n)))) (uS xs W pt l a) = .ok [bV ((xs.getD 2 0).fmod 4 == n)] (uS xs W pt l a) :=
 k9 (u := .int ((xs.getD 2 0).fmod 4)) (v := .int n) (f0 (i := ((xs.getD 2 0).fmod 4)) ((d6 (fs := [.val (.int (xs.getD 2 0)), .val (.int 4)]) (f0 (i := (xs.getD 2 0)) (R5 (j := 2) h30 hx rfl) rfl)).trans rfl) rfl) rfl
theorem x5U (h30 : B6 U) (hx : xs.length <= 63) (h : OkStream l m) (hm : m <= 120) (ha : a <= 10000) : ∃ l', OkStream l' (m + 1) /\ ex U t5 (uS xs W pt l a) = .ok .next (uS xs W pt l' a) := by
 have hlen := h.len
 cases hb : (xs.getD 2 0).fmod 4 == 1 with
 | false => exact ⟨l, h.more, (o5 ((N9 h30 hx).trans (by rw [hb]))).trans rfl⟩
 | true =>
  have hL : l.length <= 175 := nlt hlen (Nat.add_le_add_left hm 55)
  have e1 : ev U (.op .idx (a9 (.lit (.str (S [40, 91, 123, 41, 93, 125, 32, 122]))) (bM (bM (bX d7 bJ) Z2) gU))) (uS xs W pt l a) = .ok [.val (sgn (([40, 91, 123, 41, 93, 125, 32, 122][(((W * 16807).fmod 10009).fmod 8).toNat]?).getD 32))] (uS xs W pt l a) :=
   (d6 (fs := [.val (strD [40, 91, 123, 41, 93, 125, 32, 122]), .val (.int (((W * 16807).fmod 10009).fmod 8))]) (m6 (l := [40, 91, 123, 41, 93, 125, 32, 122]) rfl (f0 (i := (((W * 16807).fmod 10009).fmod 8)) ((d6 (fs := [.val (.int ((W * 16807).fmod 10009)), .val (.int 8)]) (f0 (i := ((W * 16807).fmod 10009)) ((d6 (fs := [.val (.int (W * 16807)), .val (.int 10009)]) (f0 (i := (W * 16807)) ((d6 (fs := [.val (.int W), .val (.int 16807)]) rfl).trans (V1 (.inr (by decide)))) rfl)).trans rfl) rfl)).trans rfl) rfl))).trans (W5 (by decide) (F9 _ (by decide)) (H7 _ (by decide)))
  generalize hg : ([40, 91, 123, 41, 93, 125, 32, 122][(((W * 16807).fmod 10009).fmod 8).toNat]?).getD 32 = x at e1
  have hxs : m5 x = true := by rw [<- hg]; exact U5 (by decide) _
  have z1 : (l.take a).length <= 175 := nlt (List.length_take_le' ..) hL
  have z2 : (l.drop a).length <= 175 := by rw [List.length_drop]; exact nlt (Nat.sub_le ..) hL
  exact ⟨_, h.ins (a := a) hxs, (i9 ((N9 h30 hx).trans (by rw [hb]))).trans ((d4 ((j5 ((d6 (fs := [.val (strD (l.take a ++ [x])), .val (strD (l.drop a))]) (m6 (l := (l.take a ++ [x])) ((d6 (fs := [.val (strD (l.take a)), .val (sgn x)]) (m6 (l := (l.take a)) ((d6 (fs := [.val (strD l), .val (.int a)]) rfl).trans (H8 (big hL) (big ha))) (d5 e1 rfl))).trans (v6 (r := [x]) (big (Nat.add_le_add_right z1 1)))) (m6 (l := (l.drop a)) ((d6 (fs := [.val (strD l), .val (.int a)]) rfl).trans (Q5 (big hL) (big ha))) rfl))).trans (v6 (by rw [lap]; exact big (Nat.add_le_add (Nat.add_le_add_right z1 1) z2))))).trans rfl)).trans rfl)⟩
theorem x1t (h30 : B6 U) (hx : xs.length <= 63) (h : OkStream l m) (hm : m <= 120) (ha : a <= 10000) : ∃ l', OkStream l' m /\ ex U t6 (uS xs W pt l a) = .ok .next (uS xs W pt l' a) := by
 have hlen := h.len
 cases hb : (xs.getD 2 0).fmod 4 == 2 with
 | false => exact ⟨l, h, (o5 ((N9 h30 hx).trans (by rw [hb]))).trans rfl⟩
 | true =>
  have hL : l.length <= 175 := nlt hlen (Nat.add_le_add_left hm 55)
  have z1 : (l.take a).length <= 175 := nlt (List.length_take_le' ..) hL
  have z2 : (l.drop (a + 1)).length <= 175 := by rw [List.length_drop]; exact nlt (Nat.sub_le ..) hL
  exact ⟨l.take a ++ l.drop (a + 1), h.sub (pG a), (i9 ((N9 h30 hx).trans (by rw [hb]))).trans ((d4 ((j5 ((d6 (fs := [.val (strD (l.take a)), .val (strD (l.drop (a + 1)))]) (m6 (l := (l.take a)) ((d6 (fs := [.val (strD l), .val (.int a)]) rfl).trans (H8 (big hL) (big ha))) (m6 (l := (l.drop (a + 1))) ((d6 (fs := [.val (strD l), .val (.int (a + 1 : Nat))]) rfl).trans (Q5 (big hL) (big (Nat.succ_le_succ ha)))) rfl))).trans (v6 (big (Nat.add_le_add z1 z2))))).trans rfl)).trans rfl)⟩
theorem x1h (h30 : B6 U) (hx : xs.length <= 63) (h : OkStream l m) (hm : m <= 120) (ha : a <= 10000) : ∃ l', OkStream l' m /\ ex U t7 (uS xs W pt l a) = .ok .next (uS xs W pt l' a) := by
 have hlen := h.len
 cases hb : (xs.getD 2 0).fmod 4 == 3 with
 | false => exact ⟨l, h, (o5 ((N9 h30 hx).trans (by rw [hb]))).trans rfl⟩
 | true => exact ⟨l.take a, h.sub (List.take_sublist ..), (i9 ((N9 h30 hx).trans (by rw [hb]))).trans ((d4 ((j5 ((d6 (fs := [.val (strD l), .val (.int a)]) rfl).trans (H8 (by lia) (by lia)))).trans rfl)).trans rfl)⟩
end
end Mine.Internal.S
end
section
namespace Mine.Internal
section
variable {U : Nat -> Fn} {st : St} {src elt cond e ke : CE} {xs : List PyData} {vv : Slots} {k kd n i : Nat} {d : PyData}
theorem lT {g : PyData -> PyData} {pr : PyData -> Bool} {pp : List Slots} (hs : (ev U src st).bind (itE kd) = .ok xs ⟨vv, pp, n⟩) (h0 : (cond.ctorIdx == 0) = false) (hc : ∀ d ∈ xs, ev U cond ⟨inV vv d, pp, 0⟩ = .ok [bV (pr d)] ⟨inV vv d, pp, 0⟩)
  (he : ∀ d ∈ xs, ev U elt ⟨inV vv d, pp, 0⟩ = .ok [.val (g d)] ⟨inV vv d, pp, 0⟩) (hz : okLen xs.length = true) (hl : (vv.length == k) = true) : ev U (.comp k kd src elt cond) st = .ok [.own ((xs.filter pr).map g)] ⟨vv, pp, n⟩ := by
 show ((ev U src st).bind (itE kd)).bind (fun xs st => E1 k (stepC U elt cond st.v) xs st) = _
 rw [hs]
 have hm : ∀ ys : List PyData, (∀ d ∈ ys, d ∈ xs) -> mapR (stepC U elt cond vv) ys pp = some ((ys.filter pr).map g, pp) := fun ys => by
  induction ys with
  | nil => exact fun _ => rfl
  | cons y ys ih =>
   intro h
   have e1 : stepC U elt cond vv y pp = .ok (if pr y then [g y] else []) ⟨inV vv y, pp, 0⟩ := by
    show (cndE (cond.ctorIdx == 0) (ev U cond ⟨inV vv y, pp, 0⟩) ⟨inV vv y, pp, 0⟩).bind _ = _
    rw [h0, hc y (h y (.head _))]
    cases pr y with
    | false => rfl
    | true =>
     show ((ev U elt ⟨inV vv y, pp, 0⟩).bind Q4) = _
     rw [he y (h y (.head _))]; rfl
   rw [T4]
   rw [e1]
   show (mapR (stepC U elt cond vv) ys pp).map _ = _
   rw [ih fun d hd => h d (.tail _ hd), List.filter_cons]
   cases pr y <;> rfl
 show (match mapR (stepC U elt cond vv) xs pp with | some q => (if okLen xs.length && vv.length == k then R.ok [F.own q.1] ⟨vv, q.2, n⟩ else .stuck) | none => .stuck) = _
 rw [hm xs fun _ h => h]
 show (if okLen xs.length && vv.length == k then R.ok [F.own ((xs.filter pr).map g)] ⟨vv, pp, n⟩ else .stuck) = _
 rw [hz, hl]; rfl
theorem bS {m : Nat} (hv : ev U e st = .ok [.val d] st) (hk : ev U ke st = .ok [.val (.int m)] st) (hs : slot st.v i = some (.own xs)) (hz : okLen xs.length = true) (hm : m < xs.length) (hi : i < st.v.length) : ex U (.setidx (.loc i) ke e) st = .ok .next { st with v := st.v.set i (some (.own (xs.set m d))) } := by
 show (ev U e st).bind _ = _
 rw [hv]
 show (if (slot st.v i).isSome then (ev U ke st).bind fun y st => U2 (.loc i) [.val d] y st else .stuck) = _
 rw [hs, hk]
 show nextO (((slot st.v i).bind ownOf).bind fun xs => (gd (okLen xs.length && decide (0 <= (m : Int) /\ (m : Int) < xs.length)) ()).bind fun _ => setP st (some (.own (xs.set (m : Int).toNat d))) (.loc i)) = _
 rw [hs]
 show nextO ((gd (okLen xs.length && decide (0 <= (m : Int) /\ (m : Int) < xs.length)) ()).bind fun _ => gd (decide (i < st.v.length)) { st with v := st.v.set i (some (.own (xs.set (m : Int).toNat d))) }) = _
 rw [hz, dtt (show 0 <= (m : Int) /\ (m : Int) < xs.length by lia), dtt hi]; rfl
theorem x2c {c m : Nat} (h : m <= 100000) {n : Int} (hn : n.toNat = m) (hl : -100000 <= n) : o3 (.bin .Mult) [.val (sgn c), .val (.int n)] st = .ok [.val (.str (S (List.replicate m c)))] st := by
 have h1 : okInt n = true := by unfold okInt; rw [dtt (by lia), dtt (by lia)]; rfl
 have e : ((asS (sgn c)).bind fun x => (asI (.int n)).bind fun n => gd (okLen ((cs x).length * n.toNat) && okInt n) (F.val (.str (S (List.replicate n.toNat (cs x)).flatten)))) = some (.val (.str (S (List.replicate m [c]).flatten))) := by
  show gd (okLen (1 * n.toNat) && okInt n) (F.val (.str (S (List.replicate n.toNat [c]).flatten))) = _
  rw [h1, hn, i6 (by lia)]; rfl
 have : (List.replicate m [c]).flatten = List.replicate m c := by
  clear h hn e
  induction m with
  | zero => rfl
  | succ m ih => rw [List.replicate_succ, List.flatten_cons, ih]; rfl
 show oneO (binF .Mult (sgn c) (.int n)) st = _
 unfold binF
 dsimp only
 rw [e, this]; rfl
theorem uN : ∀ l : List Nat, strsF (l.map sgn) = some (l.map fun c => [c])
 | [] => rfl
 | c :: l => by
  show (asS (sgn c)).bind _ = _
  rw [show asS (sgn c) = some (S [c]) from rfl, Option.bind_some, uN l]; rfl
theorem vQ : ∀ l : List Nat, (l.map fun c => [c]).flatten = l
 | [] => rfl
 | c :: l => by rw [List.map_cons, List.flatten_cons, vQ l]; rfl
end
end Mine.Internal
namespace Mine.Internal.S
section
variable {U : Nat -> Fn} {xs : List Int} {W : Int} {x2 x3 x4 x6 : Option F} {rows : LL}
noncomputable abbrev wS (xs : List Int) (W : Int) (x2 x3 x4 : Option F) (rows : LL) (x6 : Option F) : St := ⟨[some (.val (lS xs)), some (.val (.int W)), x2, x3, x4, some (.own (sRows rows)), x6], [], 0⟩
theorem cC {k n : Int} (h30 : B6 U) (hx : xs.length <= 63) (hk : (small k && k != 0) = true) : ev U (.cmp .Eq (a9 (bM (bF (.call true 30 (a9 d8 j4)) (.lit (.int k))) E3) (.lit (.int n)))) (wS xs W x2 x3 x4 rows x6) = .ok [bV (((xs.getD 2 0).fdiv k).fmod 6 == n)] (wS xs W x2 x3 x4 rows x6) :=
 k9 (u := .int (((xs.getD 2 0).fdiv k).fmod 6)) (v := .int n) (f0 (i := (((xs.getD 2 0).fdiv k).fmod 6)) ((d6 (fs := [.val (.int ((xs.getD 2 0).fdiv k)), .val (.int 6)]) (f0 (i := ((xs.getD 2 0).fdiv k)) ((d6 (fs := [.val (.int (xs.getD 2 0)), .val (.int k)]) (f0 (i := (xs.getD 2 0)) (R5 (j := 2) h30 hx rfl) rfl)).trans (by
  show oneO (gd (small k && k != 0) (.val (.int ((xs.getD 2 0).fdiv k)))) _ = _
  rw [hk]; rfl)) rfl)).trans rfl) rfl) rfl
theorem fE {n : Int} (h0 : -100000 <= n) (h : n <= 100000) : rangeF 0 n = some ((List.range n.toNat).map fun (k : Nat) => PyData.int k) := by
 unfold rangeF
 have h1 : okInt n = true := by unfold okInt; rw [dtt (by lia), dtt (by lia)]; rfl
 rw [h1, i6 (by lia)]
 show some _ = _
 rw [Int.sub_zero]
 simp
theorem x6R (h30 : B6 U) (h31 : z9 U) (hx : xs.length <= 63) : ∃ l : List Nat, l.length <= 100 /\ (∀ c ∈ l, m5 c = true) /\ ev U c1 (wS xs W x2 x3 x4 rows x6) = .ok [.own (l.map sgn)] (wS xs W x2 x3 x4 rows x6) := by
 have f1 := F9 W (b := 56) (by lia)
 have f2 := H7 W (b := 56) (by lia)
 refine ⟨(List.range (100 - W.fmod 56).toNat).map fun (k : Nat) => s7 (xs.getD 0 0 + 7 * k), by simp; lia, fun c hc => ?_, ?_⟩
 . obtain ⟨k, _, rfl⟩ := List.mem_map.mp hc; exact gA _
 . refine (H9 (g := fun d => match asI d with | some k => sgn (s7 (xs.getD 0 0 + 7 * k)) | none => d) (xs := (List.range (100 - W.fmod 56).toNat).map fun (k : Nat) => PyData.int k) (t8 (fs := [.val (.int (100 - W.fmod 56))]) rfl (by
    show ((rangeF 0 (100 - W.fmod 56)).or _) = _
    rw [fE (by lia) (by lia)]; rfl)) (fun d hd => ?_) (i6 (by simp; lia)) rfl).trans ?_
   . obtain ⟨k, _, rfl⟩ := List.mem_map.mp hd
     exact n8 (fs := [.val (.int (xs.getD 0 0 + 7 * k))]) (f0 (i := (xs.getD 0 0 + 7 * k)) ((d6 (fs := [.val (.int (xs.getD 0 0)), .val (.int (7 * k))]) (f0 (i := (xs.getD 0 0)) (R5 (j := 0) h30 hx rfl) rfl)).trans rfl) rfl) rfl (h31 _)
   . refine congrArg (fun l => Mine.Internal.R.ok [F.own l] _) ?_
     rw [List.map_map, List.map_map]; rfl
theorem qV {n : Nat} (h : n <= 100000) : rangeF 0 (n : Int) = some ((List.range n).map fun (k : Nat) => PyData.int k) := fE (by lia) (by lia)
structure OkB (rows : LL) (k m : Nat) : Prop where
 one : 1 <= rows.length
 most : rows.length <= k
 row : ∀ l ∈ rows, l.length <= m /\ ∀ c ∈ l, m5 c = true
theorem fI {l : List Nat} (h : l.length <= 120) (hs : ∀ c ∈ l, m5 c = true) : n4 l = true := by
 unfold n4
 rw [dtt h, List.all_eq_true.mpr hs]; rfl
theorem x1S (h30 : B6 U) (h31 : z9 U) (hx : xs.length <= 63) (h : OkRows rows 56 111) : ∃ rows' x6', OkRows rows' 57 111 /\ ex U t9 (wS xs W x2 x3 x4 rows none) = .ok .next (wS xs W x2 x3 x4 rows' x6') := by
 cases hb : ((xs.getD 2 0).fdiv 4).fmod 6 == 1 with
 | false => exact ⟨rows, none, ⟨h.one, Nat.le_succ_of_le h.most, h.row⟩, (o5 ((cC h30 hx (by decide)).trans (by rw [hb]))).trans rfl⟩
 | true =>
  obtain ⟨l, hl1, hl2, hc1⟩ := x6R (W := W) (x2 := x2) (x3 := x3) (x4 := x4) (rows := rows) (x6 := none) h30 h31 hx
  have e1 : ex U (.assign (.loc 6) c1) (wS xs W x2 x3 x4 rows none) = .ok .next (wS xs W x2 x3 x4 rows (some (.own (l.map sgn)))) := (j5 hc1).trans rfl
  have e2 : ev U c2 (wS xs W x2 x3 x4 rows (some (.own (l.map sgn)))) = .ok [.own (((l.map sgn).filter fun d => match asS d with | some x => !A0 (S [32, 40, 41, 91, 93, 123, 125]) x | none => false).map id)] (wS xs W x2 x3 x4 rows (some (.val (.list (l.map sgn))))) :=
   lT (t8 (st1 := wS xs W x2 x3 x4 rows (some (.val (.list (l.map sgn))))) (fs := [.val (.list (l.map sgn))]) (xs := l.map sgn) rfl (by
    show (((none : Option (List PyData)).or (gd (okLen (l.map sgn).length) (l.map sgn))).or none) = _
    rw [i6 (by rw [i7]; lia)]; rfl)) rfl (fun d hd => by
    obtain ⟨c, _, rfl⟩ := List.mem_map.mp hd
    exact k9 (op := .NotIn) (u := sgn c) (v := strD [32, 40, 41, 91, 93, 123, 125]) rfl rfl) (fun d hd => rfl) (i6 (by rw [i7]; lia)) rfl
  have e3 : ((l.map sgn).filter fun d => match asS d with | some x => !A0 (S [32, 40, 41, 91, 93, 123, 125]) x | none => false).map id = (l.filter fun c => !A0 (S [32, 40, 41, 91, 93, 123, 125]) (S [c])).map sgn := by rw [List.map_id, List.filter_map]; rfl
  rw [e3] at e2
  generalize hf : (l.filter fun c => !A0 (S [32, 40, 41, 91, 93, 123, 125]) (S [c])) = l' at e2
  have hl' : l'.length <= 100 := by rw [<- hf]; exact nlt (List.length_filter_le _ _) hl1
  have hs' : ∀ c ∈ l', m5 c = true := fun c hc => by rw [<- hf] at hc; exact hl2 c (List.mem_filter.mp hc).1
  have e4 : ev U (.sm .join (.lit (.str (S []))) (b9 c2)) (wS xs W x2 x3 x4 rows (some (.own (l.map sgn)))) = .ok [.val (strD l')] (wS xs W x2 x3 x4 rows (some (.val (.list (l.map sgn))))) := by
   show (ev U (b9 c2) (wS xs W x2 x3 x4 rows (some (.own (l.map sgn))))).bind _ = _
   rw [d5 (b := .nil) e2 rfl]
   show oneO ((strsF (l'.map sgn)).bind fun ls => gd ((cs (S [])).isEmpty && okLen ls.flatten.length) (.val (.str (S ls.flatten)))) _ = _
   rw [uN, Option.bind_some, vQ, i6 (by lia)]; rfl
  have hmost := h.most
  have e5 : ex U (.append (.loc 5) (.sm .join (.lit (.str (S []))) (b9 c2))) (wS xs W x2 x3 x4 rows (some (.own (l.map sgn)))) = .ok .next (wS xs W x2 x3 x4 (rows ++ [l']) (some (.val (.list (l.map sgn))))) := by
   show (ev U _ _).bind _ = _
   rw [e4]
   show nextO ((gd (okLen (sRows rows).length) ()).bind fun _ => some _) = _
   rw [i6 (by rw [k8]; lia)]
   unfold wS sRows
   rw [List.map_append]; rfl
  refine ⟨rows ++ [l'], some (.val (.list (l.map sgn))), ⟨by have := h.one; simp, by simp; lia, fun r hr => ?_⟩, (i9 ((cC h30 hx (by decide)).trans (by rw [hb]))).trans ((d4 e1).trans ((d4 e5).trans rfl))⟩
  rcases List.mem_append.mp hr with hr | hr
  . exact h.row r hr
  . rw [lsm hr]; exact ⟨by lia, hs'⟩
end
end Mine.Internal.S
end
section
namespace Mine.Internal.S
section
variable {U : Nat -> Fn} {xs : List Int} {W : Int} {x2 x3 x4 x6 : Option F} {rows : LL}
theorem pW {n : Nat} (h : n <= 111) : ((118 : Int) - n).toNat = 118 - n /\ -100000 <= (118 : Int) - n := by lia
theorem zH (h30 : B6 U) (hx : xs.length <= 63) (h : OkRows rows 57 111) : ∃ rows', (OkText rows' /\ rows'.length <= 57 /\ ∀ l ∈ rows', l.length <= 118) /\ ex U x2o (wS xs W x2 x3 x4 rows x6) = .ok .next (wS xs W x2 x3 x4 rows' x6) := by
 cases hb : ((xs.getD 2 0).fdiv 24).fmod 6 == 1 with
 | false => exact ⟨rows, ⟨⟨h.one, big h.most, fun l hl => fI (big (h.row l hl).1) (h.row l hl).2⟩, h.most, fun l hl => big (h.row l hl).1⟩, (o5 ((cC h30 hx (by decide)).trans (by rw [hb]))).trans rfl⟩
 | true =>
  cases rows with
  | nil => cases h.one
  | cons r0 rest =>
   have hr0 := h.row r0 (.head _)
   have e1 : ev U (.peek .idx (.loc 5) (b9 j0)) (wS xs W x2 x3 x4 (r0 :: rest) x6) = .ok [.val (strD r0)] (wS xs W x2 x3 x4 (r0 :: rest) x6) := M4 (f := .own (sRows (r0 :: rest))) (m := 0) rfl rfl rfl (sY (by show (sRows (r0 :: rest)).length <= _; rw [k8]; exact big h.most))
   have e2 : ev U (.op .idx (a9 (.lit (.str (S [32, 120]))) (bM d7 j4))) (wS xs W x2 x3 x4 (r0 :: rest) x6) = .ok [.val (sgn (([32, 120][(W.fmod 2).toNat]?).getD 32))] (wS xs W x2 x3 x4 (r0 :: rest) x6) := (d6 (fs := [.val (strD [32, 120]), .val (.int (W.fmod 2))]) rfl).trans (W5 (by decide) (F9 _ (by decide)) (H7 _ (by decide)))
   generalize hg : ([32, 120][(W.fmod 2).toNat]?).getD 32 = x at e2
   have hxs : m5 x = true := by rw [<- hg]; exact U5 (by decide) _
   have e3 : ev U (o0 fY (.op .len (b9 (.peek .idx (.loc 5) (b9 j0))))) (wS xs W x2 x3 x4 (r0 :: rest) x6) = .ok [.val (.int (118 - r0.length))] _ := (d6 (fs := [.val (.int 118), .val (.int r0.length)]) (f0 (i := 118) rfl (f0 (i := r0.length) ((d6 (fs := [.val (strD r0)]) (d5 (b := .nil) e1 rfl)).trans (F1 (big hr0.1))) rfl))).trans rfl
   have hpl : (List.replicate (118 - r0.length) x ++ r0).length = 118 := by rw [lap, List.length_replicate]; exact Nat.sub_add_cancel (big hr0.1)
   have e4 := d6 (o := .bin .Add) (m6 (l := (List.replicate (118 - r0.length) x)) ((d6 (fs := [.val (sgn x), .val (.int (118 - r0.length))]) (d5 e2 (d5 (b := .nil) e3 rfl))).trans (x2c (big (Nat.sub_le _ _)) (pW hr0.1).1 (pW hr0.1).2)) (d5 (b := .nil) e1 rfl))
   have e5 := bS (i := 5) (xs := sRows (r0 :: rest)) (ke := .lit (.int 0)) (m := 0) (e4.trans (v6 (by rw [List.length_replicate]; exact big (Nat.add_le_add (Nat.sub_le _ _) hr0.1)))) rfl rfl (i6 (by rw [k8]; exact big h.most)) (by rw [k8]; exact Nat.succ_pos _) (show 5 < 7 by decide)
   refine ⟨(List.replicate (118 - r0.length) x ++ r0) :: rest, ⟨⟨Nat.succ_pos _, big h.most, fun l hl => ?_⟩, h.most, fun l hl => ?_⟩, (i9 ((cC h30 hx (by decide)).trans (by rw [hb]))).trans ((d4 e5).trans rfl)⟩
   . rcases List.mem_cons.mp hl with rfl | hl
     . refine fI (by rw [hpl]; decide) fun c hc => ?_
       rcases List.mem_append.mp hc with hc | hc
       . rw [(List.mem_replicate.mp hc).2]; exact hxs
       . exact hr0.2 c hc
     . have := h.row l (.tail _ hl); exact fI (big this.1) this.2
   . rcases List.mem_cons.mp hl with rfl | hl
     . rw [hpl]; exact Nat.le_refl _
     . exact big (h.row l (.tail _ hl)).1
theorem x4z {n : Nat} (h : n <= 55) (pt : Bool) : if pt then n * (1 + if pt then 1 else 0) <= 110 else n * (1 + if pt then 1 else 0) <= 55 := by cases pt <;> simp <;> lia
theorem x3c {x : Int} (h : 0 <= x) (pt : Bool) : ((x.toNat * (1 + if pt then 1 else 0) : Nat) : Int) = x * (1 + if pt then 1 else 0) := by cases pt <;> simp <;> lia
theorem iD {n : Nat} : (0 : Int) < (n : Int) + 1 := by lia
theorem x2f {a n : Nat} {x : Int} (ha : (a : Int) = x) (h : x < (n : Int) + 1) (hn : n <= 9000) : a <= 10000 := by lia
theorem wM {x : Int} (h : x < 56) : x.toNat <= 55 := by lia
theorem text_ok (h30 : B6 U) (h31 : z9 U) (h32 : qU U) (hx : xs.length <= 63) : ∃ rows, (OkText rows /\ rows.length <= 57 /\ ∀ l ∈ rows, l.length <= 118) /\ B U jD [.val (lS xs)] = .ret (vR rows) [] := by
 generalize hW : xs.getD 1 0 = W
 have f1 := F9 W (b := 56) (by decide)
 have f2 := H7 W (b := 56) (by decide)
 generalize hpt : ((W.fdiv 56).fmod 6 == 1) = pt
 obtain ⟨l, hl, e32⟩ := h32 (xs.getD 0 0) ((W.fmod 56).toNat * (1 + if pt then 1 else 0)) pt (x4z (wM f2) pt)
 have hsz := x3c f1 pt
 rw [hsz] at e32
 have hlen := hl.len
 have f3 := F9 ((W * 48271).fmod 100003) (b := (l.length : Int) + 1) iD
 have f4 := H7 ((W * 48271).fmod 100003) (b := (l.length : Int) + 1) iD
 obtain ⟨a, ha⟩ : ∃ a : Nat, (a : Int) = ((W * 48271).fmod 100003).fmod ((l.length : Int) + 1) := ⟨_, Int.toNat_of_nonneg f3⟩
 have ha' : a <= 10000 := x2f ha f4 (big hlen)
 obtain ⟨l5, h5, e5⟩ := x5U (W := W) (pt := pt) h30 hx hl (by decide) ha'
 obtain ⟨l6, h6, e6⟩ := x1t (W := W) (pt := pt) h30 hx h5 (by decide) ha'
 obtain ⟨l7, h7, e7⟩ := x1h (W := W) (pt := pt) h30 hx h6 (by decide) ha'
 have h7l := h7.len
 obtain ⟨r9, x6, h9, e9⟩ := x1S (U := U) (W := W) (x2 := some (.val (.bool pt))) (x3 := some (.val (strD l7))) (x4 := some (.val (.int a))) h30 h31 hx h7.rows
 obtain ⟨r10, h10, e10⟩ := zH (U := U) (W := W) (x2 := some (.val (.bool pt))) (x3 := some (.val (strD l7))) (x4 := some (.val (.int a))) (x6 := x6) h30 hx h9
 have e1 : ex U (.assign (.loc 1) (.call true 30 (a9 d8 f7))) ⟨[some (.val (lS xs)), none, none, none, none, none, none], [], 0⟩ = .ok .next ⟨[some (.val (lS xs)), some (.val (.int W)), none, none, none, none, none], [], 0⟩ := (j5 ((R5 (j := 1) h30 hx rfl).trans (by rw [hW]))).trans rfl
 have e2 : ex U (.assign (.loc 2) (.cmp .Eq (a9 (bM (bF d7 O2) E3) f7))) ⟨[some (.val (lS xs)), some (.val (.int W)), none, none, none, none, none], [], 0⟩ = .ok .next ⟨[some (.val (lS xs)), some (.val (.int W)), some (.val (.bool pt)), none, none, none, none], [], 0⟩ := by rw [<- hpt]; rfl
 have e3 : ex U (.assign (.loc 3) (.call true 32 (j9 (.call true 30 (a9 d8 j0)) (bX (bM d7 O2) (bA f7 (.op .toInt (b9 f6)))) f6))) ⟨[some (.val (lS xs)), some (.val (.int W)), some (.val (.bool pt)), none, none, none, none], [], 0⟩ = .ok .next ⟨[some (.val (lS xs)), some (.val (.int W)), some (.val (.bool pt)), some (.val (strD l)), none, none, none], [], 0⟩ :=
  (j5 (n8 (fs := [.val (.int (xs.getD 0 0)), .val (.int (W.fmod 56 * (1 + if pt then 1 else 0))), .val (.bool pt)]) (f0 (i := (xs.getD 0 0)) (R5 (j := 0) h30 hx rfl) (f0 (i := (W.fmod 56 * (1 + if pt then 1 else 0))) ((d6 (fs := [.val (.int (W.fmod 56)), .val (.int (1 + if pt then 1 else 0))]) rfl).trans (V1 (.inr (by cases pt <;> rfl)))) rfl)) rfl e32)).trans rfl
 have e4 : ex U (.assign (.loc 4) (bM (bM (bX d7 I9) uX) (bA (.op .len (b9 f5)) f7))) ⟨[some (.val (lS xs)), some (.val (.int W)), some (.val (.bool pt)), some (.val (strD l)), none, none, none], [], 0⟩ = .ok .next (uS xs W pt l a) :=
  (j5 (fs := [.val (.int a)]) ((d6 (fs := [.val (.int ((W * 48271).fmod 100003)), .val (.int (l.length + 1))]) (f0 (i := ((W * 48271).fmod 100003)) ((d6 (fs := [.val (.int (W * 48271)), .val (.int 100003)]) (f0 (i := (W * 48271)) ((d6 (fs := [.val (.int W), .val (.int 48271)]) rfl).trans (V1 (.inr (by decide)))) rfl)).trans rfl) (f0 (i := (l.length + 1)) ((d6 (fs := [.val (.int l.length), .val (.int 1)]) (f0 (i := l.length) ((d6 (fs := [.val (strD l)]) rfl).trans (F1 (big hlen))) rfl)).trans rfl) rfl))).trans (by
   show oneO (gd ((l.length + 1 : Int) != 0) (.val (.int (((W * 48271).fmod 100003).fmod (l.length + 1))))) _ = _
   rw [<- ha, show ((l.length + 1 : Int) != 0) = true from bne_iff_ne.mpr (Int.ne_of_gt iD)]; rfl))).trans rfl
 have e8 : ex U (.assign (.loc 5) (.sm .splitNl f5 .nil)) (uS xs W pt l7 a) = .ok .next (wS xs W (some (.val (.bool pt))) (sT l7) (sI a) (splitNL l7) none) := by
  refine (j5 (fs := [.own (sRows (splitNL l7))]) (st1 := uS xs W pt l7 a) ?_).trans rfl
  show oneO (gd (okLen (l7.length + 1)) (.own ((splitNL l7).map fun l => .str (S l)))) _ = _
  rw [i6 (big (Nat.succ_le_succ h7l))]; rfl
 exact ⟨r10, h10, j2 rfl ((d4 e1).trans ((d4 e2).trans ((d4 e3).trans ((d4 e4).trans ((d4 e5).trans ((d4 e6).trans ((d4 e7).trans ((d4 e8).trans ((d4 e9).trans ((d4 e10).trans (f8 (k4 rfl))))))))))))⟩
noncomputable def xG (U : Nat -> Fn) : Prop := ∀ xs : List Int, xs.length <= 63 -> ∃ rows, (OkText rows /\ rows.length <= 57 /\ ∀ l ∈ rows, l.length <= 118) /\ U 33 [] [.val (lS xs)] = .ret (vR rows) []
end
end Mine.Internal.S
end
section
namespace Mine.Internal
section
variable {U : Nat -> Fn} {st st1 : St} {f : F} {fs ys as : List F} {r e es ke : CE} {k n : Nat} {p : Pl} {d : PyData} {xs : List PyData} {p' : List Slots} {et : List (List Int × PyData)} {q : List Int}
theorem I7 (hs : getP st p = some f) (hl : lstOf f = some xs) (hz : okLen xs.length = true) : ev U (.peek .len p .nil) st = .ok [.val (.int xs.length)] st := by
 show (if (getP st p).isSome then oneO (((getP st p).bind lstOf).bind fun xs => (lenL xs).map intV) st else .stuck) = _
 rw [hs]
 show oneO ((lstOf f).bind fun xs => (lenL xs).map intV) st = _
 rw [hl]
 show oneO ((lenL xs).map intV) st = _
 unfold lenL; rw [hz]; rfl
theorem aY (hs : getP st p = some f) (hl : lstOf f = some xs) (hz : okLen xs.length = true) : ev U (.peek .copy p .nil) st = .ok [.own xs] st := by
 show (if (getP st p).isSome then oneO (((getP st p).bind lstOf).bind fun xs => gd (okLen xs.length) (.own xs)) st else .stuck) = _
 rw [hs]
 show oneO ((lstOf f).bind fun xs => gd (okLen xs.length) (.own xs)) st = _
 rw [hl]
 show oneO (gd (okLen xs.length) (.own xs)) st = _
 rw [hz]; rfl
theorem gN {m : Int} (hs : getP st p = some f) (hl : lstOf f = some xs) (he : ev U es st = .ok [.val (.int m)] st) (ha : atL xs m = some d) : ev U (.peek .idx p es) st = .ok [.val d] st := by
 show (if (getP st p).isSome then (ev U es st).bind fun x st' => H0 .idx p x st' else .stuck) = _
 rw [hs, he]
 show oneO (((getP st p).bind lstOf).bind fun xs => (atL xs m).map .val) st = _
 rw [hs]
 show oneO ((lstOf f).bind fun xs => (atL xs m).map .val) st = _
 rw [hl]
 show oneO ((atL xs m).map .val) st = _
 rw [ha]; rfl
theorem pM {kd : PyData} (hs : getP st p = some (.dct et)) (he : ev U es st = .ok [.val kd] st) (hk : keyI kd = some q) (ha : keyF et q = some d) : ev U (.peek .key p es) st = .ok [.val d] st := by
 show (if (getP st p).isSome then (ev U es st).bind fun x st' => H0 .key p x st' else .stuck) = _
 rw [hs, he]
 show oneO ((keyI kd).bind fun k => ((getP st p).bind R4).bind fun es => (keyF es k).map .val) st = _
 rw [hk, hs]
 show oneO ((keyF et q).map .val) st = _
 rw [ha]; rfl
theorem x3E {kd : PyData} (hv : ev U e st = .ok [.val d] st) (hk : ev U ke st = .ok [.val kd] st) (hq : keyI kd = some q) (hs : getP st p = some (.dct et)) (hz : okLen et.length = true) (hp : setP st (some (.dct (putF et q d))) p = some st1) : ex U (.setkey p ke e) st = .ok .next st1 := by
 show (ev U e st).bind _ = _
 rw [hv]
 show (if (getP st p).isSome then (ev U ke st).bind fun y st => bP p [.val d] y st else .stuck) = _
 rw [hs, hk]
 show nextO ((keyI kd).bind fun q => ((getP st p).bind R4).bind fun es => (gd (okLen es.length) ()).bind fun _ => setP st (some (.dct (putF es q d))) p) = _
 rw [hq, hs]
 show nextO ((gd (okLen et.length) ()).bind fun _ => setP st (some (.dct (putF et q d))) p) = _
 rw [hz]
 show nextO (setP st (some (.dct (putF et q d))) p) = _
 rw [hp]; rfl
theorem q8 (hr : ev U r st = .ok [.pg n] st) (he : ev U es st = .ok ys st1) (ha : args st1.v (.pg n :: ys) = some as) (hg : U k st1.p as = .ret f p') : ev U (.meth k r es) st = .ok [f] { st1 with p := p' } := by
 show (ev U r st).bind _ = _
 rw [hr]
 show (ev U es st).bind _ = _
 rw [he]
 show (match args st1.v (.pg n :: ys) with | some as => outE false (U k st1.p as) st1 | none => .stuck) = _
 rw [ha]
 show outE false (U k st1.p as) st1 = _
 rw [hg]; rfl
theorem y8 (h : ev U e st = .ok fs st1) : ex U (.drop e) st = .ok .next st1 := by show (ev U e st).bind _ = _; rw [h]; rfl
theorem F7 {np nv x' : Nat} {v' : Slots} {pg p' : List Slots} {body : CS} (hl : ys.length = np) (h : ex U body ⟨ys.map some ++ List.replicate nv none, pg, 0⟩ = .ok .next ⟨v', p', x'⟩) : w7 U np nv body pg ys = .ret (.val .none) p' := by unfold w7; rw [if_pos hl, h]; rfl
end
end Mine.Internal
namespace Mine.Internal.S
noncomputable abbrev M (U : Nat -> Fn) (d : FnDef) (p : List Slots) (fs : List F) : Out := w7 U d.ps.length d.vs.length d.body p fs
theorem pU : ∀ (rows : LL) (n k : Nat), marksAll (n + k) rows = (marksAll n rows).map (low k)
 | [], _, _ => rfl
 | l :: rows, n, k => by
  rw [K2, K2, List.map_append, List.map_map, show n + k + 1 = (n + 1) + k by lia, pU rows (n + 1) k]
  refine congrArg (· ++ _) (List.map_congr_left fun m _ => ?_)
  show (m.1, m.2.1 + (n + k), m.2.2) = (m.1, m.2.1 + n + k, m.2.2)
  rw [Nat.add_assoc]
theorem lG : ∀ (a b : LL) (n : Nat), marksAll n (a ++ b) = marksAll n a ++ marksAll (n + a.length) b
 | [], b, n => rfl
 | l :: a, b, n => by
  rw [List.cons_append, K2, K2, lG a b (n + 1), List.append_assoc, show n + 1 + a.length = n + (l :: a).length by simp; lia]
theorem x2J (a b : LL) : join (rd a) (rd b) a.length = rd (a ++ b) := by
 unfold rd
 rw [lE, lG, jT, Nat.zero_add, show marksAll a.length b = (marksAll 0 b).map (low a.length) by rw [<- pU, Nat.zero_add]]
theorem x4d (l : List Nat) : rd [l] = run .nil (q6 0 l) := by
 unfold rd
 rw [K2, x5i, List.append_nil]
 exact congrArg (run .nil) (List.map_id _)
noncomputable abbrev pS (a : Option F) (parts : List PyData) (b : Option F) (es : List (List Int × PyData)) (m : Int) (e : Option F) : Slots := [a, some (.own parts), b, some (.dct es), some (.val (.int m)), e]
noncomputable def m0 (rows : LL) (lo hi : Nat) : LL := (rows.take hi).drop lo
theorem aT {rows : LL} {lo hi : Nat} (h : hi <= rows.length) : (m0 rows lo hi).length = hi - lo := by unfold m0; rw [List.length_drop, List.length_take, Nat.min_eq_left h]
theorem yH {rows : LL} {lo mi hi : Nat} (h1 : lo <= mi) (h2 : mi <= hi) : m0 rows lo mi ++ m0 rows mi hi = m0 rows lo hi := by
 unfold m0
 rw [show (rows.take hi).drop mi = ((rows.take hi).drop lo).drop (mi - lo) by rw [List.drop_drop]; congr 1; lia]
 rw [show (rows.take mi).drop lo = ((rows.take hi).drop lo).take (mi - lo) by rw [List.take_drop, show lo + (mi - lo) = mi by lia, List.take_take, Nat.min_eq_left h2]]
 exact List.take_append_drop ..
theorem x5w {rows : LL} {lo : Nat} (h : lo < rows.length) : m0 rows lo (lo + 1) = [rows[lo]] := by
 unfold m0
 rw [List.take_add_one, geg h, List.drop_append_of_le_length (by rw [List.length_take]; lia)]
 rw [List.drop_eq_nil_of_le (by rw [List.length_take]; lia)]; rfl
theorem kL (es : List (List Int × PyData)) (k : List Int) (d : PyData) : (putF es k d).length <= es.length + 1 := by
 unfold putF
 split
 . rw [i7]; lia
 . rw [lap]; exact Nat.le_refl _
end Mine.Internal.S
end
section
namespace Mine.Internal.S
noncomputable abbrev Es := List (List Int × PyData)
theorem jK (es : Es) (k q : List Int) (d : PyData) : keyF (putF es k d) q = if q = k then some d else keyF es q := by
 unfold putF
 have fm : ∀ l : Es, (keyF l k).isSome = true -> keyF (l.map fun e => if e.1 = k then (e.1, d) else e) q = if q = k then some d else keyF l q := fun l => by
  induction l with
  | nil => intro h; cases h
  | cons e l ih =>
   intro h
   unfold keyF at h ih ⊢
   rw [List.map_cons, List.find?_cons, List.find?_cons]
   by_cases h1 : e.1 = k
   . rw [if_pos h1]
     dsimp only
     by_cases h2 : e.1 = q
     . rw [dtt h2, if_pos (h2.symm.trans h1)]; rfl
     . rw [dff h2, if_neg fun z => h2 (h1.trans z.symm)]
       have : ∀ l : Es, ((l.map fun e => if e.1 = k then (e.1, d) else e).find? fun e => decide (e.1 = q)).map (·.2) = (l.find? fun e => decide (e.1 = q)).map (·.2) := fun l => by
        induction l with
        | nil => rfl
        | cons e' l ih' =>
         rw [List.map_cons, List.find?_cons, List.find?_cons]
         by_cases h3 : e'.1 = k
         . rw [if_pos h3]
           dsimp only
           rw [dff fun z : e'.1 = q => h2 (h1.trans (h3.symm.trans z))]
           exact ih'
         . rw [if_neg h3]
           cases decide (e'.1 = q) with
           | true => rfl
           | false => exact ih'
       exact this l
   . rw [if_neg h1]
     rw [List.find?_cons, dff h1] at h
     by_cases h2 : e.1 = q
     . rw [dtt h2, if_neg fun z => h1 (h2.trans z)]
     . rw [dff h2]; exact ih h
 cases hk : (keyF es k).isSome with
 | true => rw [if_pos rfl]; exact fm es hk
 | false =>
  rw [if_neg Bool.false_ne_true]
  unfold keyF at hk ⊢
  rw [List.find?_append]
  by_cases h : q = k
  . subst h
    rw [if_pos rfl]
    cases hq : es.find? fun e => decide (e.1 = q) with
    | some x => rw [hq] at hk; cases hk
    | none => rw [Option.none_or, List.find?_cons, dtt rfl]; rfl
  . rw [if_neg h]
    cases es.find? fun e => decide (e.1 = q) with
    | some x => rfl
    | none => rw [Option.none_or, List.find?_cons, dff fun z : k = q => h z.symm]; rfl
noncomputable def At (rows : LL) (es : Es) (lo hi : Nat) : Prop := keyF es [lo, hi] = some (g9 (rd (m0 rows lo hi)))
noncomputable def Kn (rows : LL) (es : Es) : Nat -> Nat -> Nat -> Prop
 | 0, lo, hi => At rows es lo hi
 | k + 1, lo, hi => At rows es lo hi /\ (2 <= hi - lo -> Kn rows es k lo (lo + (hi - lo) / 2) /\ Kn rows es k (lo + (hi - lo) / 2) hi)
noncomputable def C8 (ch : Option Nat) (lo hi : Nat) : Bool := match ch with
 | none => false
 | some r => decide (r < lo) || decide (hi <= r)
noncomputable def Pre (rows : LL) (es : Es) (ch : Option Nat) : Nat -> Nat -> Nat -> Prop
 | 0, lo, hi => C8 ch lo hi = true -> Kn rows es 0 lo hi
 | k + 1, lo, hi => if C8 ch lo hi then Kn rows es (k + 1) lo hi else (2 <= hi - lo -> Pre rows es ch k lo (lo + (hi - lo) / 2) /\ Pre rows es ch k (lo + (hi - lo) / 2) hi)
noncomputable def cnt (ch : Option Nat) : Nat -> Nat -> Nat -> Nat
 | 0, _, _ => 0
 | k + 1, lo, hi => if C8 ch lo hi then 0 else if 2 <= hi - lo then cnt ch k lo (lo + (hi - lo) / 2) + cnt ch k (lo + (hi - lo) / 2) hi + 1 else 0
noncomputable def Same (es es' : Es) (lo hi : Nat) : Prop := ∀ x y : Nat, x < y -> ¬ (lo <= x /\ y <= hi) -> keyF es' [x, y] = keyF es [x, y]
section
variable {rows : LL} {es es' es'' : Es} {lo hi x y k : Nat} {ch : Option Nat}
theorem At.same (h : At rows es lo hi) (s : Same es es' x y) (hl : lo < hi) (ho : ¬ (x <= lo /\ hi <= y)) : At rows es' lo hi := (s lo hi hl ho).trans h
theorem H5 (h2 : 2 <= hi - lo) : lo < lo + (hi - lo) / 2 /\ lo + (hi - lo) / 2 < hi := ⟨Nat.lt_add_of_pos_right (Nat.div_pos h2 Nat.zero_lt_two), by rw [Nat.add_comm]; exact Nat.add_lt_of_lt_sub (Nat.div_lt_self (Nat.lt_of_lt_of_le Nat.zero_lt_two h2) Nat.one_lt_two)⟩
theorem A3 (ho : y <= lo \/ hi <= x) (hl : lo < hi) (h2 : 2 <= hi - lo) : ((y <= lo \/ lo + (hi - lo) / 2 <= x) /\ lo < lo + (hi - lo) / 2) /\ (y <= lo + (hi - lo) / 2 \/ hi <= x) /\ lo + (hi - lo) / 2 < hi := ⟨⟨ho.imp id (nlt (Nat.le_of_lt (H5 h2).2)), (H5 h2).1⟩, ho.imp (fun h => nlt h (Nat.le_of_lt (H5 h2).1)) id, (H5 h2).2⟩
theorem kY (ho : y <= lo \/ hi <= x) (hl : lo < hi) : ¬ (x <= lo /\ hi <= y) := by lia
theorem Kn.same (s : Same es es' x y) (ho : y <= lo \/ hi <= x) (hl : lo < hi) : ∀ {k}, Kn rows es k lo hi -> Kn rows es' k lo hi := fun {k} => by
 induction k generalizing lo hi with
 | zero => exact fun h => At.same h s hl (kY ho hl)
 | succ k ih => exact fun h => ⟨At.same h.1 s hl (kY ho hl), fun h2 => ⟨ih (A3 ho hl h2).1.1 (A3 ho hl h2).1.2 (h.2 h2).1, ih (A3 ho hl h2).2.1 (A3 ho hl h2).2.2 (h.2 h2).2⟩⟩
theorem Pre.same (s : Same es es' x y) (ho : y <= lo \/ hi <= x) (hl : lo < hi) : ∀ {k}, Pre rows es ch k lo hi -> Pre rows es' ch k lo hi := fun {k} => by
 induction k generalizing lo hi with
 | zero => exact fun h q => Kn.same s ho hl (h q)
 | succ k ih =>
  intro h
  change @ite _ _ _ _ _ at h ⊢
  split
  . rename_i q; rw [if_pos q] at h; exact h.same s ho hl
  . rename_i q; rw [if_neg q] at h; exact fun h2 => ⟨ih (A3 ho hl h2).1.1 (A3 ho hl h2).1.2 (h h2).1, ih (A3 ho hl h2).2.1 (A3 ho hl h2).2.2 (h h2).2⟩
theorem Same.refl : Same es es lo hi := fun _ _ _ _ => rfl
theorem Same.trans {lo' hi' lo'' hi'' : Nat} (s : Same es es' lo' hi') (t : Same es' es'' lo'' hi'') (h1 : lo <= lo') (h2 : hi' <= hi) (h3 : lo <= lo'') (h4 : hi'' <= hi) : Same es es'' lo hi := fun x y hxy ho => (t x y hxy (by lia)).trans (s x y hxy (by lia))
theorem Same.put {d : PyData} (s : Same es es' lo hi) : Same es (putF es' [lo, hi] d) lo hi := fun x y hxy ho => by
 rw [jK, if_neg ?_]
 . exact s x y hxy ho
 . intro q
   have h1 := (List.cons.inj q).1
   have h2 := (List.cons.inj (List.cons.inj q).2).1
   lia
theorem At.put {d : PyData} (h : At rows es x y) (hn : ¬ (x = lo /\ y = hi)) : At rows (putF es [lo, hi] d) x y := by
 unfold At
 rw [jK, if_neg ?_]
 . exact h
 . intro q
   have h1 := (List.cons.inj q).1
   have h2 := (List.cons.inj (List.cons.inj q).2).1
   lia
theorem At.new : At rows (putF es [lo, hi] (g9 (rd (m0 rows lo hi)))) lo hi := by unfold At; rw [jK, if_pos rfl]
theorem vB (hn : hi - lo > y - x) (h2 : 2 <= y - x) : hi - lo > x + (y - x) / 2 - x /\ hi - lo > y - (x + (y - x) / 2) := ⟨by rw [Nat.add_sub_cancel_left]; exact Nat.lt_trans (Nat.div_lt_self (Nat.lt_of_lt_of_le Nat.zero_lt_two h2) Nat.one_lt_two) hn, Nat.lt_of_le_of_lt (by rw [Nat.sub_add_eq]; exact Nat.sub_le ..) hn⟩
theorem mG (hn : hi - lo > y - x) : ¬ (x = lo /\ y = hi) := fun q => by rw [q.1, q.2] at hn; exact Nat.lt_irrefl _ hn
theorem Kn.put {d : PyData} (hn : hi - lo > y - x) : ∀ {k}, Kn rows es k x y -> Kn rows (putF es [lo, hi] d) k x y := fun {k} => by
 induction k generalizing x y with
 | zero => exact fun h => At.put h (mG hn)
 | succ k ih => exact fun h => ⟨At.put h.1 (mG hn), fun h2 => ⟨ih (vB hn h2).1 (h.2 h2).1, ih (vB hn h2).2 (h.2 h2).2⟩⟩
theorem Kn.root : ∀ {k}, Kn rows es k lo hi -> At rows es lo hi := fun {k} h => by cases k with | zero => exact h | succ k => exact h.1
end
section
variable {U : Nat -> Fn} {rows : LL} {lo hi : Nat} {a b e : Option F} {es : Es} {m : Int} {x y z : Option F} {ch : Option Nat}
noncomputable def I8 : Option Nat -> PyData
 | none => .none
 | some r => .int r
noncomputable abbrev oS (ch : Option Nat) (lo hi : Nat) (x y z : Option F) (a : Option F) (rows : LL) (b : Option F) (es : Es) (m : Int) (e : Option F) : St := ⟨[some (.pg 0), some (.val (.int lo)), some (.val (.int hi)), some (.val (I8 ch)), x, y, z], [pS a (rows.map encP) b es m e], 0⟩
structure Jn (rows : LL) (ch : Option Nat) (k lo hi : Nat) (es es' : Es) : Prop where
 len : es'.length + 1 <= es.length + 2 * (hi - lo)
 kn : Kn rows es' k lo hi
 same : Same es es' lo hi
noncomputable def J (k : Nat) (U : Nat -> Fn) (rows : LL) : Prop := ∀ ch lo hi, lo < hi -> hi - lo <= 2 ^ k -> hi <= rows.length -> ∀ a b e es m, es.length + 2 * (hi - lo) <= 10000 -> Pre rows es ch k lo hi -> ∃ es', Jn rows ch k lo hi es es' /\
 U 16 [pS a (rows.map encP) b es m e] [.pg 0, .val (.int lo), .val (.int hi), .val (I8 ch)] = .ret (.val (g9 (rd (m0 rows lo hi)))) [pS a (rows.map encP) b es' (m + (cnt ch k lo hi : Nat)) e]
theorem qX (h : OkText rows) (hl : lo < hi) (hh : hi <= rows.length) : OkText (m0 rows lo hi) :=
 ⟨by rw [aT hh]; lia, by rw [aT hh]; have := h.most; lia, fun l hl => h.rows l (List.mem_of_mem_take (List.mem_of_mem_drop hl))⟩
theorem fD : ev U (.and (.cmp .IsNot (a9 f5 (.lit .none))) (.not (.chain (a9 d7 f5) .LtE .Lt f6))) (oS ch lo hi x y z a rows b es m e) = .ok [bV (C8 ch lo hi)] (oS ch lo hi x y z a rows b es m e) := by
 cases ch with
 | none => exact q7 (x := false) (y := false) rfl fun q => nomatch q
 | some r =>
  refine (q7 (x := true) (y := !(decide ((lo : Int) <= r) && decide ((r : Int) < hi))) rfl fun _ => y2 (K4 (u := .int lo) (v := .int r) (w := .int hi) rfl rfl rfl rfl)).trans ?_
  rw [Bool.true_and, Bool.not_and]
  have h1 : (!decide ((lo : Int) <= r)) = decide (r < lo) := by by_cases h : r < lo <;> simp [h] <;> lia
  have h2 : (!decide ((r : Int) < hi)) = decide (hi <= r) := by by_cases h : hi <= r <;> simp [h] <;> lia
  rw [h1, h2]; rfl
theorem sZ (hz : es.length <= 10000) : ex U (.seq (.setkey (.fld 0 3) (.op .tup (a9 d7 f6)) g7) (.seq (.ret g7) .nil)) (oS ch lo hi (some (.val (g9 (rd (m0 rows lo hi))))) y z a rows b es m e) = .ok (.ret (.val (g9 (rd (m0 rows lo hi))))) (oS ch lo hi (some (.val (g9 (rd (m0 rows lo hi))))) y z a rows b (putF es [lo, hi] (g9 (rd (m0 rows lo hi)))) m e) :=
 (d4 (x3E (kd := .tuple [.int lo, .int hi]) (q := [lo, hi]) rfl rfl rfl rfl (i6 (by lia)) rfl)).trans (f8 (k4 rfl))
theorem x6z {k : Nat} (ho : C8 ch lo hi = true) (hp : Pre rows es ch k lo hi) (hl : lo < hi) : ∃ es', Jn rows ch k lo hi es es' /\ M U I3 [pS a (rows.map encP) b es m e] [.pg 0, .val (.int lo), .val (.int hi), .val (I8 ch)] = .ret (.val (g9 (rd (m0 rows lo hi)))) [pS a (rows.map encP) b es' (m + (cnt ch k lo hi : Nat)) e] := by
 have hk : Kn rows es k lo hi := by
  cases k with
  | zero => exact hp ho
  | succ k => exact Eq.mp (if_pos ho) hp
 have hc : cnt ch k lo hi = 0 := by
  cases k with
  | zero => rfl
  | succ k => exact if_pos ho
 rw [hc, show m + ((0 : Nat) : Int) = m from Int.add_zero m]
 have e0 : ev U _ (oS ch lo hi none none none a rows b es m e) = _ := fD
 rw [ho] at e0
 exact ⟨es, ⟨by lia, hk, Same.refl⟩, j2 rfl (f8 ((i9 e0).trans (f8 (k4 (pM (et := es) (kd := .tuple [.int lo, .int hi]) (q := [lo, hi]) rfl rfl rfl hk.root)))))⟩
theorem lV (lo : Nat) : ¬ 2 <= lo + 1 - lo := by lia
theorem x5N (lo : Nat) : ((((lo + 1 : Nat) : Int) - lo) == 1) = true := beq_iff_eq.mpr (by lia)
theorem x2X {a b lo : Nat} (h : a <= b + 1) : a + 1 <= b + 2 * (lo + 1 - lo) := by lia
theorem x3P {k : Nat} (h8 : Sp8 U) (h : OkText rows) (ho : C8 ch lo hi = false) (h1 : hi = lo + 1) (hh : hi <= rows.length) (hz : es.length <= 9998) : ∃ es', Jn rows ch k lo hi es es' /\ M U I3 [pS a (rows.map encP) b es m e] [.pg 0, .val (.int lo), .val (.int hi), .val (I8 ch)] = .ret (.val (g9 (rd (m0 rows lo hi)))) [pS a (rows.map encP) b es' (m + (cnt ch k lo hi : Nat)) e] := by
 subst h1
 have hc : cnt ch k lo (lo + 1) = 0 := by
  cases k with
  | zero => rfl
  | succ k => exact (if_neg (by rw [ho]; exact Bool.false_ne_true)).trans (if_neg (lV lo))
 rw [hc, show m + ((0 : Nat) : Int) = m by lia]
 have e0 : ev U _ (oS ch lo (lo + 1) none none none a rows b es m e) = _ := fD
 rw [ho] at e0
 have hlt : lo < rows.length := hh
 have hc : ev U (.cmp .Eq (a9 (o0 f6 d7) f7)) (oS ch lo (lo + 1) none none none a rows b es m e) = .ok [bV ((((lo + 1 : Nat) : Int) - lo) == 1)] (oS ch lo (lo + 1) none none none a rows b es m e) := rfl
 rw [x5N] at hc
 have e1 : ev U (.peek .idx (.fld 0 1) (b9 d7)) (oS ch lo (lo + 1) none none none a rows b es m e) = .ok [.val (encP rows[lo])] (oS ch lo (lo + 1) none none none a rows b es m e) := gN (f := .own (rows.map encP)) (m := lo) rfl rfl rfl (by
  have := h.most
  rw [F3 (by rw [i7]; exact big this) (Int.natCast_nonneg _) (by rw [i7]; exact Int.ofNat_lt.mpr hlt), Int.toNat_natCast, List.getElem?_map, geg hlt]; rfl)
 have e2 : ex U (.assign (.loc 4) (.call true 8 (b9 (.peek .idx (.fld 0 1) (b9 d7))))) (oS ch lo (lo + 1) none none none a rows b es m e) = .ok .next (oS ch lo (lo + 1) (some (.val (g9 (rd (m0 rows lo (lo + 1)))))) none none a rows b es m e) := (j5 (n8 (f := .val (g9 (rd (m0 rows lo (lo + 1))))) (fs := [.val (encP rows[lo])]) (d5 (b := .nil) e1 rfl) rfl ((x3W h8 (h.rows _ (List.getElem_mem hlt))).trans (by rw [x5w hlt, x4d])))).trans rfl
 exact ⟨_, ⟨x2X (kL es [lo, (lo + 1 : Nat)] (g9 (rd (m0 rows lo (lo + 1))))), by
  cases k with
  | zero => exact At.new
  | succ k => exact ⟨At.new, fun q => absurd q (lV lo)⟩, Same.refl.put⟩, j2 rfl ((j3 e0).trans ((d4 ((i9 hc).trans ((d4 e2).trans rfl))).trans (sZ (big hz))))⟩
theorem x6g {n b : Nat} (h : n <= b * 2) : n - n / 2 <= b := by lia
theorem x1Q {lo hi k n : Nat} (h1 : 2 <= hi - lo) (hk : hi - lo <= 2 ^ (k + 1)) (hh : hi <= n) : (lo < lo + (hi - lo) / 2 /\ lo + (hi - lo) / 2 < hi) /\ lo + (hi - lo) / 2 - lo <= 2 ^ k /\ hi - (lo + (hi - lo) / 2) <= 2 ^ k /\ lo + (hi - lo) / 2 <= n := by
 rw [Nat.pow_succ] at hk
 refine ⟨H5 h1, ?_, ?_, nlt (Nat.le_of_lt (H5 h1).2) hh⟩
 . rw [Nat.add_sub_cancel_left]; exact Nat.div_le_of_le_mul (by rw [Nat.mul_comm]; exact hk)
 . rw [Nat.sub_add_eq]; exact x6g hk
theorem x6D {lo hi : Nat} (h : lo < hi) : ((lo : Int) + ((hi : Int) - lo).fdiv 2) = (lo + (hi - lo) / 2 : Nat) := by rw [show ((hi : Int) - lo).fdiv 2 = (((hi - lo) / 2 : Nat) : Int) by rw [Int.fdiv_eq_ediv_of_nonneg _ (by decide)]; lia]; lia
theorem Y5 {lo mi hi : Nat} (h : lo < mi /\ mi < hi) : hi - lo = hi - mi + (mi - lo) := (Nat.sub_add_sub_cancel (Nat.le_of_lt h.2) (Nat.le_of_lt h.1)).symm
theorem kC {a x y : Nat} : a + 2 * (x + y) = a + 2 * y + 2 * x := by rw [Nat.mul_add, Nat.add_comm (2 * x), Nat.add_assoc]
theorem x6n {a b lo mi hi : Nat} (h : lo < mi /\ mi < hi) (hz : a + 2 * (hi - lo) <= 10000) (h1 : b + 1 <= a + 2 * (mi - lo)) : b + 2 * (hi - mi) <= 10000 /\ a + 2 * (mi - lo) <= 10000 := by
 rw [Y5 h, kC] at hz
 exact ⟨nlt (Nat.add_le_add_right (Nat.le_of_succ_le h1) _) hz, nlt (Nat.le_add_right _ _) hz⟩
theorem wI {a b c d lo mi hi : Nat} (h : lo < mi /\ mi < hi) (hz : a + 2 * (hi - lo) <= 10000) (h1 : b + 1 <= a + 2 * (mi - lo)) (h2 : c + 1 <= b + 2 * (hi - mi)) (h3 : d <= c + 1) : d + 1 <= a + 2 * (hi - lo) /\ c <= 10000 := by
 rw [Y5 h, kC] at hz ⊢
 have e : b + 2 * (hi - mi) + 1 <= a + 2 * (mi - lo) + 2 * (hi - mi) := by rw [Nat.add_right_comm]; exact Nat.add_le_add_right h1 _
 have e2 : c + 1 + 1 <= a + 2 * (mi - lo) + 2 * (hi - mi) := nlt (Nat.succ_le_succ h2) e
 exact ⟨nlt (Nat.succ_le_succ h3) e2, nlt (Nat.le_of_succ_le (Nat.le_of_succ_le e2)) hz⟩
theorem x1v {a lo mi hi : Nat} (h : lo < mi /\ mi < hi) (hz : a + 2 * (hi - lo) <= 10000) : a + 2 * (mi - lo) <= 10000 /\ hi - lo > mi - lo /\ hi - lo > hi - mi := by
 rw [Y5 h, kC] at hz
 rw [Y5 h]
 exact ⟨nlt (Nat.le_add_right _ _) hz, Nat.lt_add_of_pos_left (Nat.sub_pos_of_lt h.2), Nat.lt_add_of_pos_right (Nat.sub_pos_of_lt h.1)⟩
theorem x1G {lo hi : Nat} (h : 2 <= hi - lo) : (((hi : Int) - lo) == 1) = false := w2 fun q => by have := eq_of_beq q; lia
theorem x2V {lo hi : Nat} (h : lo < hi) : ((hi - lo : Nat) : Int) = (hi : Int) - lo := by lia
theorem x2E (m : Int) (a b : Nat) : m + ((a + b + 1 : Nat) : Int) = m + (a : Nat) + (b : Nat) + 1 := by lia
theorem xS {k : Nat} (h9 : Q8 U) (h : OkText rows) (ih : J k U rows) (ho : C8 ch lo hi = false) (h1 : 2 <= hi - lo) (hk : hi - lo <= 2 ^ (k + 1)) (hh : hi <= rows.length) (hz : es.length + 2 * (hi - lo) <= 10000) (hp : Pre rows es ch (k + 1) lo hi) : ∃ es', Jn rows ch (k + 1) lo hi es es' /\ M U I3 [pS a (rows.map encP) b es m e] [.pg 0, .val (.int lo), .val (.int hi), .val (I8 ch)] = .ret (.val (g9 (rd (m0 rows lo hi)))) [pS a (rows.map encP) b es' (m + (cnt ch (k + 1) lo hi : Nat)) e] := by
 have e0 : ev U _ (oS ch lo hi none none none a rows b es m e) = _ := fD
 rw [ho] at e0
 have hc : ev U (.cmp .Eq (a9 (o0 f6 d7) f7)) (oS ch lo hi none none none a rows b es m e) = .ok [bV (((hi : Int) - lo) == 1)] (oS ch lo hi none none none a rows b es m e) := rfl
 rw [x1G h1] at hc
 change @ite _ _ _ _ _ at hp
 rw [if_neg (by rw [ho]; exact Bool.false_ne_true)] at hp
 have hp := hp h1
 have hcn : cnt ch (k + 1) lo hi = cnt ch k lo (lo + (hi - lo) / 2) + cnt ch k (lo + (hi - lo) / 2) hi + 1 := by
  rw [show cnt ch (k + 1) lo hi = if C8 ch lo hi then 0 else if 2 <= hi - lo then cnt ch k lo (lo + (hi - lo) / 2) + cnt ch k (lo + (hi - lo) / 2) hi + 1 else 0 from rfl, if_neg (by rw [ho]; exact Bool.false_ne_true), if_pos h1]
 have hd := x6D (lo := lo) (hi := hi) (Nat.lt_of_sub_pos (Nat.lt_of_lt_of_le (by decide) h1))
 have hkn : ∀ {es' : Es}, Kn rows es' (k + 1) lo hi ↔ (At rows es' lo hi /\ (2 <= hi - lo -> Kn rows es' k lo (lo + (hi - lo) / 2) /\ Kn rows es' k (lo + (hi - lo) / 2) hi)) := Iff.rfl
 have hq := x1Q h1 hk hh
 generalize lo + (hi - lo) / 2 = mi at hp hcn hd hkn hq
 obtain ⟨hm, ka, kb, kc⟩ := hq
 have lc := x1v hm hz
 obtain ⟨es1, l1, g1⟩ := ih ch lo mi hm.1 ka kc a b e es m lc.1 hp.1
 obtain ⟨es2, l2, g2⟩ := ih ch mi hi hm.2 kb hh a b e es1 (m + (cnt ch k lo mi : Nat)) (x6n hm hz l1.len).1 (hp.2.same l1.same (.inl (Nat.le_refl _)) hm.2)
 have lb := wI hm hz l1.len l2.len (kL es2 [lo, hi] (g9 (rd (m0 rows lo hi))))
 have e1 : ex U (.assign (.loc 5) (bA d7 (bF (o0 f6 d7) j4))) (oS ch lo hi none none none a rows b es m e) = .ok .next (oS ch lo hi none (sI mi) none a rows b es m e) := by rw [<- hd]; rfl
 have e2 : ex U (.assign (.loc 6) (.meth 16 d8 (j9 d7 i8 f5))) (oS ch lo hi none (sI mi) none a rows b es m e) = .ok .next (oS ch lo hi none (sI mi) (some (.val (g9 (rd (m0 rows lo mi))))) a rows b es1 (m + (cnt ch k lo mi : Nat)) e) := (j5 (q8 (n := 0) (ys := [.val (.int lo), .val (.int mi), .val (I8 ch)]) rfl rfl rfl g1)).trans rfl
 have s1 : (rd (m0 rows lo mi)).sz + (rd (m0 rows mi hi)).sz <= 8000 + 8000 := Nat.add_le_add (jO (qX h hm.1 kc)) (jO (qX h hm.2 hh))
 have hj := h9 (rd (m0 rows lo mi)) (rd (m0 rows mi hi)) (mi - lo) (iI .nil (fun m hm => nomatch hm) _) (nlt s1 (by decide))
 rw [<- aT (lo := lo) kc, x2J, yH (Nat.le_of_lt hm.1) (Nat.le_of_lt hm.2), aT (lo := lo) kc] at hj
 have e3 : ex U (.assign (.loc 4) (.call true 9 (j9 j7 (.meth 16 d8 (j9 i8 f6 f5)) (o0 i8 d7)))) (oS ch lo hi none (sI mi) (some (.val (g9 (rd (m0 rows lo mi))))) a rows b es1 (m + (cnt ch k lo mi : Nat)) e) = .ok .next (oS ch lo hi (some (.val (g9 (rd (m0 rows lo hi))))) (sI mi) (some (.val (g9 (rd (m0 rows lo mi))))) a rows b es2 (m + (cnt ch k lo mi : Nat) + (cnt ch k mi hi : Nat)) e) :=
  (j5 (n8 (fs := [.val (g9 (rd (m0 rows lo mi))), .val (g9 (rd (m0 rows mi hi))), .val (.int (mi - lo : Nat))]) (st1 := oS ch lo hi none (sI mi) (some (.val (g9 (rd (m0 rows lo mi))))) a rows b es2 (m + (cnt ch k lo mi : Nat) + (cnt ch k mi hi : Nat)) e) (d5 (f := .val (g9 (rd (m0 rows lo mi)))) rfl (d5 (f := .val (g9 (rd (m0 rows mi hi)))) (q8 (n := 0) (ys := [.val (.int mi), .val (.int hi), .val (I8 ch)]) rfl rfl rfl g2) (f0 (i := (mi - lo : Nat)) (by rw [x2V hm.1]; rfl) rfl))) rfl hj)).trans rfl
 rw [hcn, x2E]
 exact ⟨_, ⟨lb.1, hkn.mpr ⟨At.new, fun _ => ⟨(l1.kn.same l2.same (.inr (Nat.le_refl _)) hm.1).put lc.2.1, l2.kn.put lc.2.2⟩⟩, (Same.trans l1.same l2.same (Nat.le_refl _) (Nat.le_of_lt hm.2) (Nat.le_of_lt hm.1) (Nat.le_refl _)).put⟩, j2 rfl ((j3 e0).trans ((d4 ((o5 hc).trans ((d4 e1).trans ((d4 e2).trans ((d4 e3).trans ((d4 rfl).trans rfl)))))).trans (sZ lb.2)))⟩
theorem xT {a lo hi : Nat} (h : hi = lo + 1) (hz : a + 2 * (hi - lo) <= 10000) : a <= 9998 := by lia
theorem pX {U' : Nat -> Fn} {k : Nat} (h8 : Sp8 U) (h9 : Q8 U) (h : OkText rows) (ih : k ≠ 0 -> J (k - 1) U rows) (hg : ∀ p fs, U' 16 p fs = M U I3 p fs) : J k U' rows := fun ch lo hi hl hk hh a b e es m hz hp => by
 rw [hg]
 cases ho : C8 ch lo hi with
 | true => exact x6z ho hp hl
 | false =>
  by_cases h1 : hi = lo + 1
  . exact x3P h8 h ho h1 hh (xT h1 hz)
  . cases k with
    | zero => exact absurd hk (by simp; lia)
    | succ k => exact xS h9 h (ih (Nat.succ_ne_zero k)) ho (by lia) hk hh hz hp
end
end Mine.Internal.S
end
section
namespace Mine.Internal
section
variable {U : Nat -> Fn} {st st1 : St} {e ke : CE} {k : Nat} {p : Pl} {d : PyData} {xs ys : List PyData} {a : Nat}
theorem cN {m : Nat} (hv : ev U e st = .ok [.val d] st) (hs : getP st p = some (.own xs)) (hk : ev U ke st = .ok [.val (.int m)] st) (hz : okLen xs.length = true) (hm : m < xs.length) (hp : setP st (some (.own (xs.set m d))) p = some st1) : ex U (.setidx p ke e) st = .ok .next st1 := by
 show (ev U e st).bind _ = _
 rw [hv]
 show (if (getP st p).isSome then (ev U ke st).bind fun y st => U2 p [.val d] y st else .stuck) = _
 rw [hs, hk]
 show nextO (((getP st p).bind ownOf).bind fun xs => (gd (okLen xs.length && decide (0 <= (m : Int) /\ (m : Int) < xs.length)) ()).bind fun _ => setP st (some (.own (xs.set (m : Int).toNat d))) p) = _
 rw [hs]
 show nextO ((gd (okLen xs.length && decide (0 <= (m : Int) /\ (m : Int) < xs.length)) ()).bind fun _ => setP st (some (.own (xs.set m d))) p) = _
 rw [hz, dtt (show 0 <= (m : Int) /\ (m : Int) < xs.length by lia)]
 show nextO (setP st (some (.own (xs.set m d))) p) = _
 rw [hp]; rfl
theorem x5H (hs : getP st p = some (.own xs)) (he : ev U e st = .ok [.val d] st) (hz : okLen xs.length = true) (hp : setP st (some (.own (xs ++ [d]))) p = some st1) : ex U (.append p e) st = .ok .next st1 := by
 show (if ((getP st p).bind ownOf).isSome then (ev U e st).bind fun x st => T1 p x st else .stuck) = _
 rw [hs, he]
 show nextO (((getP st p).bind ownOf).bind fun xs => (gd (okLen xs.length) ()).bind fun _ => setP st (some (.own (xs ++ [d]))) p) = _
 rw [hs]
 show nextO ((gd (okLen xs.length) ()).bind fun _ => setP st (some (.own (xs ++ [d]))) p) = _
 rw [hz]
 show nextO (setP st (some (.own (xs ++ [d]))) p) = _
 rw [hp]; rfl
theorem x1o (hl : xs.length <= 100000) (ha : a <= 100000) : o3 (.slc false true) [.val (.list xs), .val (.int a)] st = .ok [.own (xs.take a)] st := by
 show oneO ((none : Option F).or ((cutL xs none (some (.int a))).map F.own)) st = _
 unfold cutL lenL
 rw [i6 (by lia), show gd true xs.length = some xs.length from rfl, Option.bind_some, show bnd none 0 = some 0 from rfl, Option.bind_some, S.bnd_ok ha]; rfl
theorem x4O (hl : xs.length <= 100000) (ha : a <= 100000) : o3 (.slc true false) [.val (.list xs), .val (.int a)] st = .ok [.own (xs.drop a)] st := by
 show oneO ((none : Option F).or ((cutL xs (some (.int a)) none).map F.own)) st = _
 unfold cutL lenL
 rw [i6 (by lia), show gd true xs.length = some xs.length from rfl, Option.bind_some, S.bnd_ok ha, Option.bind_some]
 show oneO ((none : Option F).or (some (F.own ((xs.take xs.length).drop a)))) st = _
 rw [List.take_length]; rfl
theorem sO (h : xs.length + ys.length <= 200000) : o3 (.bin .Add) [.val (.list xs), .val (.list ys)] st = .ok [.own (xs ++ ys)] st := by
 show oneO (((none : Option F).or none).or ((gd (okLen (xs.length + ys.length)) (F.own (xs ++ ys))).or none)) st = _
 rw [i6 h]; rfl
theorem vZ (h : xs.length <= 200000) : o3 .len [.val (.list xs)] st = .ok [.val (.int xs.length)] st := by
 show oneO (((((none : Option Nat).or (lenL xs)).or none)).map intV) st = _
 unfold lenL; rw [i6 h]; rfl
theorem V4 {n : Nat} (hz : xs.length <= 200000) (h : xs[n]? = some d) : o3 .idx [.val (.list xs), .val (.int n)] st = .ok [.val d] st := by
 obtain ⟨hn, _⟩ := n5 h
 show oneO ((((none : Option PyData).or (atL xs n)).or none).map F.val) st = _
 rw [F3 hz (Int.natCast_nonneg _) (by lia), Int.toNat_natCast, h]; rfl
theorem yR {b : Nat} (h0 : a <= 100000) (h : b <= 100000) : rangeF a b = some ((List.range (b - a)).map fun (k : Nat) => PyData.int (a + k : Nat)) := by
 unfold rangeF
 rw [kD h0, kD h, show ((b : Int) - a).toNat = b - a by lia, i6 (nlt (Nat.sub_le ..) (big h))]
 exact congrArg some (List.map_congr_left fun k _ => congrArg PyData.int (by lia))
end
end Mine.Internal
namespace Mine.Internal.S
noncomputable def encC (cts : List Nat) : List PyData := cts.map fun (n : Nat) => .int n
noncomputable def s9 (ps : List (Nat × Nat)) : List PyData := ps.map fun q => .tuple [.int q.1, .int q.2]
noncomputable abbrev pP (rows : LL) (cts : List Nat) (es : Es) (m : Int) (ps : List (Nat × Nat)) : Slots := pS (some (.own (sRows rows))) (rows.map encP) (some (.own (encC cts))) es m (some (.own (s9 ps)))
structure Pg (rows : LL) (cts : List Nat) (es : Es) : Prop where
 ok : OkText rows
 cl : cts.length = rows.length
 kn : Kn rows es 6 0 rows.length
section
variable {U : Nat -> Fn} {rows : LL} {cts : List Nat} {es : Es} {m : Int} {ps : List (Nat × Nat)} {r : Nat} {ln : List Nat}
theorem eZ : ∀ {k lo hi : Nat}, Pre rows es none k lo hi
 | 0, _, _ => fun h => nomatch h
 | k + 1, lo, hi => fun _ => ⟨eZ, eZ⟩
theorem xU : m0 rows 0 rows.length = rows := by unfold m0; rw [List.take_length]; rfl
theorem x5o {b e : Option F} (hJ : J 6 U rows) (h : OkText rows) : ∃ es', es'.length <= 128 /\ Kn rows es' 6 0 rows.length /\ M U aZ [pS (some (.own (sRows rows))) (rows.map encP) b es m e] [.pg 0] = .ret (.val .none) [pS (some (.own (sRows rows))) (rows.map encP) b es' (m + (cnt none 6 0 rows.length : Nat)) e] := by
 have hm := h.most
 obtain ⟨es', l, g⟩ := hJ none 0 rows.length h.one (by show _ <= 64; lia) (Nat.le_refl _) (some (.own (sRows rows))) b e [] m (by simp; lia) eZ
 refine ⟨es', by have := l.len; simp at this; lia, l.kn, F7 rfl ((d4 rfl).trans ((d4 (y8 (q8 (n := 0) (ys := [.val (.int 0), .val (.int rows.length), .val .none]) rfl (f0 (i := 0) rfl (f0 (i := rows.length) ((I7 (f := .own (sRows rows)) rfl rfl (i6 (by rw [k8]; lia))).trans (by rw [k8])) rfl)) rfl g))).trans rfl))⟩
noncomputable def fF (U : Nat -> Fn) : Prop := ∀ rows, OkText rows -> ∀ b es m e, ∃ es', es'.length <= 128 /\ Kn rows es' 6 0 rows.length /\ U 15 [pS (some (.own (sRows rows))) (rows.map encP) b es m e] [.pg 0] = .ret (.val .none) [pS (some (.own (sRows rows))) (rows.map encP) b es' (m + (cnt none 6 0 rows.length : Nat)) e]
theorem x3K (h3 : vL U) (h5 : bW U) (h15 : fF U) (h : OkText rows) : ∃ es', es'.length <= 128 /\ Pg rows (rows.map fun _ => 1) es' /\ M U bR [List.replicate 6 none] [.pg 0, .val (.list (sRows rows))] = .ret (.val .none) [pP rows (rows.map fun _ => 1) es' (cnt none 6 0 rows.length : Nat) []] := by
 have hz : okLen (sRows rows).length = true := i6 (by rw [k8]; have hm := h.most; lia)
 obtain ⟨es', l, kn, g⟩ := h15 rows h (some (.own (rows.map fun _ => .int 1))) [] 0 (some (.own []))
 rw [Int.zero_add] at g
 have it : ∀ {pp : List Slots} {v : F}, ((ev U (.lend 1) ⟨[some v, some (vR rows)], pp, 0⟩).bind (itE 0)) = .ok (sRows rows) ⟨[some v, some (vR rows)], pp, 0⟩ := fun {pp v} => t8 (fs := [.lnd 1]) rfl (by
  show (((none : Option (List PyData)).or (gd (okLen (sRows rows).length) (sRows rows))).or none) = _
  rw [hz]; rfl)
 have e1 := y2 (x := true) (n8 (U := U) (k := 3) (es := .cons (.lend 1) .nil) (st := ⟨[some (.pg 0), some (vR rows)], [List.replicate 6 none], 0⟩) (st1 := ⟨[some (.pg 0), some (vR rows)], [List.replicate 6 none], 0⟩) (fs := [.lnd 1]) (ys := [.val (.list (sRows rows))]) rfl rfl ((h3 _ hz h.like).trans (by rw [x6U h]; rfl)))
 have e2 : ∀ {pp : List Slots}, ev U (.comp 2 0 (.lend 1) (.call true 5 (b9 f6)) .nil) ⟨[some (.pg 0), some (vR rows)], pp, 0⟩ = .ok [.own (rows.map encP)] ⟨[some (.pg 0), some (vR rows)], pp, 0⟩ := fun {pp} => (H9 (g := fun d => match asS d with | some x => encP (cs x) | none => d) it (fun d hd => by
  obtain ⟨l, hl, rfl⟩ := List.mem_map.mp hd
  exact n8 (fs := [.val (strD l)]) (m6 (l := l) rfl rfl) rfl (h5 l (nlt (n9 (h.rows l hl)) (by decide)))) hz rfl).trans (by unfold sRows; rw [List.map_map]; rfl)
 have e3 : ∀ {pp : List Slots}, ev U (.comp 2 0 (.lend 1) f7 .nil) ⟨[some (.pg 0), some (vR rows)], pp, 0⟩ = .ok [.own (rows.map fun _ => .int 1)] ⟨[some (.pg 0), some (vR rows)], pp, 0⟩ := fun {pp} => (H9 (g := fun _ => .int 1) it (fun d hd => rfl) hz rfl).trans (by unfold sRows; rw [List.map_map]; rfl)
 have hc : encC (rows.map fun _ => 1) = rows.map fun _ => .int 1 := by unfold encC; rw [List.map_map]; rfl
 refine ⟨es', l, ⟨h, i7 .., kn⟩, ?_⟩
 show _ = Out.ret _ [pS _ _ (some (.own (encC _))) _ _ _]
 rw [hc]
 exact F7 rfl ((j3 e1).trans ((d4 ((j5 (aY (f := .val (.list (sRows rows))) rfl rfl hz)).trans rfl)).trans ((d4 ((j5 e2).trans rfl)).trans ((d4 ((j5 e3).trans rfl)).trans ((d4 rfl).trans ((d4 rfl).trans ((d4 rfl).trans ((d4 (y8 (q8 (n := 0) (ys := []) rfl rfl rfl g))).trans rfl))))))))
theorem x5u (h : OkText rows) : M U Z4 [pP rows cts es m ps] [.pg 0] = .ret (.own (sRows rows)) [pP rows cts es m ps] :=
 j2 rfl (f8 (D1 (aY (f := .own (sRows rows)) rfl rfl (i6 (by rw [k8]; have := h.most; lia)))))
theorem x5b (h10 : qJ U) (h : Pg rows cts es) : M U bU [pP rows cts es m ps] [.pg 0] = .ret (.val (q4 (faultR (rd rows)))) [pP rows cts es m ps] := by
 have hk : keyF es [(0 : Nat), rows.length] = some (g9 (rd rows)) := (h.kn.root).trans (by rw [xU])
 have e1 : ev U (.peek .key (.fld 0 3) (b9 (.op .tup (a9 j0 (.peek .len (.fld 0 0) .nil))))) ⟨[some (.pg 0)], [pP rows cts es m ps], 0⟩ = .ok [.val (g9 (rd rows))] ⟨[some (.pg 0)], [pP rows cts es m ps], 0⟩ :=
  pM (et := es) (kd := .tuple [.int 0, .int rows.length]) (q := [(0 : Nat), rows.length]) rfl (d5 (f := .val (.tuple [.int 0, .int rows.length])) ((d6 (f0 (i := 0) rfl (f0 (i := rows.length) ((I7 (f := .own (sRows rows)) rfl rfl (i6 (by rw [k8]; have := h.ok.most; lia))).trans (by rw [k8])) rfl))).trans rfl) rfl) rfl hk
 exact j2 rfl (f8 (k4 (n8 (fs := [.val (g9 (rd rows))]) (d5 (f := .val (g9 (rd rows))) e1 rfl) rfl (h10 (rd rows) (nlt (jO h.ok) (by decide))))))
theorem tT {x : List Nat} {lo hi : Nat} (h : r < lo \/ hi <= r) : m0 (rows.set r x) lo hi = m0 rows lo hi := by
 unfold m0
 rw [List.take_set, List.drop_set]
 rcases h with h | h
 . rw [if_pos h]
 . split
   . rfl
   . exact List.set_eq_of_length_le (by rw [List.length_drop, List.length_take]; exact Nat.sub_le_sub_right (nlt (Nat.min_le_left ..) h) lo)
theorem Kn.set {x : List Nat} : ∀ {k lo hi : Nat}, lo < hi -> (r < lo \/ hi <= r) -> Kn rows es k lo hi -> Kn (rows.set r x) es k lo hi
 | 0, lo, hi, hl, ho, h => by change keyF _ _ = _ at h ⊢; rw [tT ho]; exact h
 | k + 1, lo, hi, hl, ho, h => ⟨by have := h.1; unfold At at this ⊢; rw [tT ho]; exact this, fun h2 => ⟨Kn.set (A3 (y := r + 1) ho hl h2).1.2 (A3 (y := r + 1) ho hl h2).1.1 (h.2 h2).1, Kn.set (A3 (y := r + 1) ho hl h2).2.2 (A3 (y := r + 1) ho hl h2).2.1 (h.2 h2).2⟩⟩
theorem out_some {lo hi : Nat} : C8 (some r) lo hi = true ↔ (r < lo \/ hi <= r) := by unfold C8; rw [Bool.or_eq_true, decide_eq_true_iff, decide_eq_true_iff]
theorem Kn.pre {x : List Nat} : ∀ {k lo hi : Nat}, lo < hi -> Kn rows es k lo hi -> Pre (rows.set r x) es (some r) k lo hi
 | 0, lo, hi, hl, h => fun ho => Kn.set hl (out_some.mp ho) h
 | k + 1, lo, hi, hl, h => by
  change @ite _ _ _ _ _
  split
  . rename_i ho; exact Kn.set hl (out_some.mp ho) h
  . exact fun h2 => ⟨Kn.pre (H5 h2).1 (h.2 h2).1, Kn.pre (H5 h2).2 (h.2 h2).2⟩
theorem OkText.set (h : OkText rows) (hl : n4 ln = true) : OkText (rows.set r ln) := ⟨by rw [List.length_set]; exact h.one, by rw [List.length_set]; exact h.most, fun l hm => by
 rcases List.mem_or_eq_of_mem_set hm with q | q
 . exact h.rows l q
 . rw [q]; exact hl⟩
end
end Mine.Internal.S
end
section
namespace Mine.Internal.S
noncomputable def dM : List Mk -> Nat -> Option Nat
 | [], d => some d
 | m :: ms, d => if isCl m.1 then (if d = 0 then none else dM ms (d - 1)) else dM ms (d + 1)
theorem O9 {m : Mk} {ms : List Mk} {d : Nat} : dM (m :: ms) d = if isCl m.1 then (if d = 0 then none else dM ms (d - 1)) else dM ms (d + 1) := rfl
theorem fA : ∀ (a b : List Mk) (d : Nat), dM (a ++ b) d = (dM a d).bind (dM b)
 | [], b, d => rfl
 | m :: a, b, d => by
  rw [List.cons_append, O9, O9]
  by_cases hc : isCl m.1 = true
  . rw [if_pos hc, if_pos hc]
    by_cases h0 : d = 0
    . rw [if_pos h0, if_pos h0]; rfl
    . rw [if_neg h0, if_neg h0]; exact fA a b (d - 1)
  . rw [if_neg hc, if_neg hc]; exact fA a b (d + 1)
theorem fK (n : Nat) : ∀ (a : List Mk) (d : Nat), dM (a.map (low n)) d = dM a d
 | [], d => rfl
 | m :: a, d => by
  rw [List.map_cons, O9, O9]
  by_cases hc : isCl m.1 = true
  . rw [if_pos (show isCl (low n m).1 = true from hc), if_pos hc]
    by_cases h0 : d = 0
    . rw [if_pos h0, if_pos h0]
    . rw [if_neg h0, if_neg h0]; exact fK n a (d - 1)
  . rw [if_neg (show ¬ isCl (low n m).1 = true from hc), if_neg hc]; exact fK n a (d + 1)
theorem cQ : ∀ (ms wt wt' : List Mk), lf ms wt = .inr wt' -> dM ms wt.length = some wt'.length
 | [], wt, wt', h => by cases h; rfl
 | m :: ms, wt, wt', h => by
  rw [gY] at h
  rw [O9]
  by_cases hc : isCl m.1 = true
  . rw [if_pos hc] at h ⊢
    cases hl : wt.getLast? with
    | none => rw [hl] at h; cases h
    | some t =>
     rw [hl] at h
     obtain ⟨ws, rfl⟩ := List.getLast?_eq_some_iff.mp hl
     dsimp only at h
     by_cases ho : t.1 = p5 m.1
     . rw [if_pos ho, List.dropLast_concat] at h
       rw [lap, if_neg (show ¬ ws.length + [t].length = 0 from Nat.succ_ne_zero _)]
       exact cQ ms ws wt' h
     . rw [if_neg ho] at h; cases h
  . rw [if_neg hc] at h ⊢
    have := cQ ms _ wt' h
    rwa [lap] at this
theorem jI : ∀ (ms wt : List Mk), lf ms wt ≠ .inl .ok
 | [], wt => fun h => nomatch h
 | m :: ms, wt => fun h => by
  rw [gY] at h
  by_cases hc : isCl m.1 = true
  . rw [if_pos hc] at h
    cases hl : wt.getLast? with
    | none => rw [hl] at h; cases h
    | some t =>
     rw [hl] at h
     dsimp only at h
     by_cases ho : t.1 = p5 m.1
     . rw [if_pos ho] at h; exact jI ms _ h
     . rw [if_neg ho] at h; cases h
  . rw [if_neg hc] at h; exact jI ms _ h
structure TI (Fd : List (List PyData)) (w : List Nat) : Prop where
 six : ∀ x ∈ Fd, x.length = 6
 lt : ∀ a ∈ w, a < Fd.length
 le : w.length <= Fd.length
noncomputable def encF (Fd : List (List PyData)) : List PyData := Fd.map .tuple
noncomputable def x0 (w : List Nat) : List PyData := w.map fun (n : Nat) => .int n
theorem O8 (Fd : List (List PyData)) : (encF Fd).length = Fd.length := i7 ..
theorem Y9 (w : List Nat) : (x0 w).length = w.length := i7 ..
theorem x4g (a : List (List PyData)) (x : List PyData) : encF a ++ [.tuple x] = encF (a ++ [x]) := by unfold encF; rw [List.map_append]; rfl
theorem x6w (a : List Nat) (x : Nat) : x0 a ++ [.int x] = x0 (a ++ [x]) := by unfold x0; rw [List.map_append]; rfl
theorem TI.word {Fd : List (List PyData)} {w : List Nat} {x : List PyData} (h : TI Fd w) (hx : x.length = 6) : TI (Fd ++ [x]) w := ⟨fun y hy => by
 rcases List.mem_append.mp hy with hy | hy
 . exact h.six y hy
 . rw [lsm hy]; exact hx, fun a ha => by rw [lap]; exact Nat.lt_succ_of_lt (h.lt a ha), by rw [lap]; exact Nat.le_succ_of_le h.le⟩
theorem TI.opn {Fd : List (List PyData)} {w : List Nat} {x : List PyData} (h : TI Fd w) (hx : x.length = 6) : TI (Fd ++ [x]) (w ++ [Fd.length]) := ⟨(h.word hx).six, fun a ha => by
 rcases List.mem_append.mp ha with ha | ha
 . exact (h.word hx).lt a ha
 . rw [lsm ha, lap]; exact Nat.lt_succ_self _, by rw [lap, lap]; exact Nat.succ_le_succ h.le⟩
theorem TI.cls {Fd : List (List PyData)} {w : List Nat} {a : Nat} {x : List PyData} (h : TI Fd (w ++ [a])) (hx : x.length = 6) : TI (Fd.set a x) w := ⟨fun y hy => by
 rcases List.mem_or_eq_of_mem_set hy with hy | rfl
 . exact h.six y hy
 . exact hx, fun b hb => by rw [List.length_set]; exact h.lt b (List.mem_append_left _ hb), by rw [List.length_set]; have := h.le; rw [lap] at this; exact Nat.le_of_succ_le this⟩
noncomputable abbrev r8 (P0 : F) (Fd : List (List PyData)) (w : List Nat) (r : Nat) (a4 : Option F) (p : Option F) (x : Option F) (q : Option F) (a8 : Option F) : St := ⟨[some P0, some (.own (encF Fd)), some (.own (x0 w)), some (.val (.int r)), a4, p, x, q, a8], [], 0⟩
section
variable {U : Nat -> Fn} {P0 : F} {Fd : List (List PyData)} {w : List Nat} {r p q : Nat} {a4 a8 : Option F} {d : PyData}
theorem x6d {l : List Nat} (h : ∀ c ∈ l, m8 c = false) : openF (S l) = none := by
 unfold openF
 have n : ∀ c, m8 c = true -> cs (S l) ≠ [c] := fun c hc e => by
  have : l = [c] := e
  rw [this] at h
  have := h c (.head _)
  rw [hc] at this; cases this
 rw [if_neg (n 41 (C5 41)), if_neg (n 93 (C5 93)), if_neg (n 125 (C5 125))]
theorem new_ok (hz : Fd.length <= 90000) (hw : w.length <= Fd.length) : ex U (.append (.loc 1) (.op .tup (vA (.peek .len (.loc 2) .nil) j7 f5 i8 f5 n3))) (r8 P0 Fd w r a4 (sI p) (some (.val d)) (sI q) a8) = .ok .next (r8 P0 (Fd ++ [[.int w.length, d, .int r, .int p, .int r, .int q]]) w r a4 (sI p) (some (.val d)) (sI q) a8) :=
 (N7 (xs := encF Fd) (d := .tuple [.int w.length, d, .int r, .int p, .int r, .int q]) rfl (i6 (by rw [O8]; exact big hz)) ((d6 (fs := [.val (.int w.length), .val d, .val (.int r), .val (.int p), .val (.int r), .val (.int q)]) (f0 (i := w.length) ((rD (f := .own (x0 w)) rfl rfl (i6 (by rw [Y9]; exact nlt hw (big hz)))).trans (by rw [Y9])) rfl)).trans rfl) (show 1 < 9 by decide)).trans (by rw [x4g]; rfl)
theorem add1 (a b : Nat) : a + 1 + b = a + (b + 1) := by rw [Nat.add_assoc, Nat.add_comm 1]
theorem sub1 (n : Nat) : ((n + 1 : Nat) : Int) - 1 = n := by lia
noncomputable def stT (r : Nat) (s : List (List PyData) × List Nat) : Tk -> List (List PyData) × List Nat
 | .word p l q => (s.1 ++ [[.int s.2.length, strD l, .int r, .int p, .int r, .int q]], s.2)
 | .br p k => if isCl k then (s.1.set (s.2.getLast?.getD 0) ((s.1[s.2.getLast?.getD 0]?.getD []).take 4 ++ [.int r, .int (p + 1 : Nat)]), s.2.dropLast) else (s.1 ++ [[.int s.2.length, sgn k, .int r, .int p, .int r, .int (p + 1 : Nat)]], s.2 ++ [s.1.length])
theorem x3G {Fd : List (List PyData)} {ws : List Nat} {a r p k : Nat} (hc : isCl k = true) (ha : a < Fd.length) : stT r (Fd, ws ++ [a]) (.br p k) = (Fd.set a (Fd[a].take 4 ++ [.int r, .int (p + 1 : Nat)]), ws) := by
 show (if isCl k then _ else _) = _
 rw [if_pos hc, List.getLast?_concat, List.dropLast_concat, Option.getD_some, geg ha, Option.getD_some]
theorem x6J {Fd : List (List PyData)} {w : List Nat} {r p k : Nat} (hc : isCl k = false) : stT r (Fd, w) (.br p k) = (Fd ++ [[.int w.length, sgn k, .int r, .int p, .int r, .int (p + 1 : Nat)]], w ++ [Fd.length]) := by
 show (if isCl k then _ else _) = _
 rw [if_neg (by rw [hc]; exact Bool.false_ne_true)]
inductive TrP (U : Nat -> Fn) (P0 : F) (r : Nat) (a4 : Option F) (ts : List Tk) (Fd : List (List PyData)) (w : List Nat) (d' : Nat) (a5 a6 a7 a8 : Option F) (s : List (List PyData) × List Nat) : Prop
 | mk (a5' a6' a7' a8' : Option F) (h1 : TI s.1 s.2) (h2 : s.2.length = d') (h3 : s.1.length <= Fd.length + ts.length) (h4 : forL (stepB U true [5, 6, 7] dX) (ts.map encT) (r8 P0 Fd w r a4 a5 a6 a7 a8) = .ok .next (r8 P0 s.1 s.2 r a4 a5' a6' a7' a8'))
theorem bC (h4 : D4 U) (P0 : F) (r : Nat) (a4 : Option F) : ∀ (ts : List Tk) (Fd : List (List PyData)) (w : List Nat) (d' : Nat) (a5 a6 a7 a8 : Option F), (∀ k ∈ ts, k.good) -> TI Fd w -> dM (y5 ts) w.length = some d' -> Fd.length + ts.length <= 80000 ->
  TrP U P0 r a4 ts Fd w d' a5 a6 a7 a8 (ts.foldl (stT r) (Fd, w))
 | [], Fd, w, d', a5, a6, a7, a8, _, h, hd, _ => ⟨a5, a6, a7, a8, h, Option.some.inj hd, Nat.le_refl _, rfl⟩
 | .word p l q :: ts, Fd, w, d', a5, a6, a7, a8, hg, h, hd, hz => by
  obtain ⟨h1, h2⟩ := hg _ (.head _)
  have hz : Fd.length + (ts.length + 1) <= 80000 := hz
  have hz0 : Fd.length <= 90000 := nlt (Nat.le_add_right _ _) (big hz)
  obtain ⟨b5, b6, b7, b8, i1, i2, i3, i4⟩ := bC h4 P0 r a4 ts (Fd ++ [[.int w.length, strD l, .int r, .int p, .int r, .int q]]) w d' (sI p) (sT l) (sI q) a8 (fun k hk => hg k (.tail _ hk)) (h.word rfl) hd (by rw [lap]; exact (show Fd.length + 1 + ts.length <= 80000 by rw [Nat.add_assoc, Nat.add_comm 1]; exact hz))
  have e1 : ev U (.inOpen j7) (r8 P0 Fd w r a4 (sI p) (sT l) (sI q) a8) = .ok [bV false] (r8 P0 Fd w r a4 (sI p) (sT l) (sI q) a8) := by
   show Mine.Internal.R.ok [bV (openF (S l)).isSome] _ = _
   rw [x6d h2]; rfl
  have e2 : ∀ {G : List (List PyData)}, ev U (.call true 4 (b9 j7)) (r8 P0 G w r a4 (sI p) (sT l) (sI q) a8) = .ok [bV false] (r8 P0 G w r a4 (sI p) (sT l) (sI q) a8) := fun {G} => n8 (fs := [.val (strD l)]) (m6 (l := l) rfl rfl) rfl (h4.2 l h1 h2)
  exact ⟨b5, b6, b7, b8, i1, i2, by rw [lap] at i3; exact nlt i3 (Nat.le_of_eq (add1 Fd.length ts.length)), (u6 ((p8 rfl).trans ((d4 ((o5 e1).trans ((d4 (new_ok hz0 h.le)).trans ((j3 e2).trans rfl)))).trans rfl))).trans i4⟩
 | .br p k :: ts, Fd, w, d', a5, a6, a7, a8, hg, h, hd, hz => by
  have hb : m8 k = true := hg _ (.head _)
  have hz : Fd.length + (ts.length + 1) <= 80000 := hz
  have hz0 : Fd.length <= 90000 := nlt (Nat.le_add_right _ _) (big hz)
  have e1 : ev U (.inOpen j7) (r8 P0 Fd w r a4 (sI p) (sG k) (sI (p + 1 : Nat)) a8) = .ok [bV (isCl k)] (r8 P0 Fd w r a4 (sI p) (sG k) (sI (p + 1 : Nat)) a8) := by
   show Mine.Internal.R.ok [bV (openF (S [k])).isSome] _ = _
   rw [bD]
   cases isCl k <;> rfl
  rw [gP, O9] at hd
  cases hc : isCl k with
  | false =>
   rw [hc] at e1
   rw [if_neg (by rw [hc]; exact Bool.false_ne_true)] at hd
   obtain ⟨b5, b6, b7, b8, i1, i2, i3, i4⟩ := bC h4 P0 r a4 ts (Fd ++ [[.int w.length, sgn k, .int r, .int p, .int r, .int (p + 1 : Nat)]]) (w ++ [Fd.length]) d' (sI p) (sG k) (sI (p + 1 : Nat)) a8 (fun k hk => hg k (.tail _ hk)) (h.opn rfl) (by rw [lap]; exact hd) (by rw [lap]; exact (show Fd.length + 1 + ts.length <= 80000 by rw [Nat.add_assoc, Nat.add_comm 1]; exact hz))
   rw [<- x6J (p := p) (r := r) hc] at i1 i2 i3 i4
   have e2 : ev U (.call true 4 (b9 j7)) (r8 P0 (Fd ++ [[.int w.length, sgn k, .int r, .int p, .int r, .int (p + 1 : Nat)]]) w r a4 (sI p) (sG k) (sI (p + 1 : Nat)) a8) = .ok [bV true] (r8 P0 (Fd ++ [[.int w.length, sgn k, .int r, .int p, .int r, .int (p + 1 : Nat)]]) w r a4 (sI p) (sG k) (sI (p + 1 : Nat)) a8) := n8 (fs := [.val (sgn k)]) (d5 (f := .val (sgn k)) rfl rfl) rfl ((h4.1 k).trans (by rw [hb]; rfl))
   have hl : (encF (Fd ++ [[.int w.length, sgn k, .int r, .int p, .int r, .int (p + 1 : Nat)]])).length = Fd.length + 1 := by rw [O8, lap]; rfl
   have e3 : ex U (.append (.loc 2) (o0 (.peek .len (.loc 1) .nil) f7)) (r8 P0 (Fd ++ [[.int w.length, sgn k, .int r, .int p, .int r, .int (p + 1 : Nat)]]) w r a4 (sI p) (sG k) (sI (p + 1 : Nat)) a8) = .ok .next (r8 P0 (Fd ++ [[.int w.length, sgn k, .int r, .int p, .int r, .int (p + 1 : Nat)]]) (w ++ [Fd.length]) r a4 (sI p) (sG k) (sI (p + 1 : Nat)) a8) :=
    (N7 (xs := x0 w) (d := .int Fd.length) rfl (i6 (by rw [Y9]; exact nlt h.le (big hz0))) ((d6 (fs := [.val (.int (Fd.length + 1 : Nat)), .val (.int 1)]) (f0 (i := (Fd.length + 1 : Nat)) ((rD (f := .own (encF (Fd ++ [[.int w.length, sgn k, .int r, .int p, .int r, .int (p + 1 : Nat)]]))) rfl rfl (i6 (by rw [hl]; exact big (Nat.succ_le_succ hz0)))).trans (by rw [hl])) rfl)).trans (by
     show Mine.Internal.R.ok [F.val (.int (((Fd.length + 1 : Nat) : Int) - 1))] _ = _
     rw [sub1])) (show 2 < 9 by decide)).trans (by rw [x6w]; rfl)
   exact ⟨b5, b6, b7, b8, i1, i2, by rw [lap] at i3; exact nlt i3 (Nat.le_of_eq (add1 Fd.length ts.length)), (u6 ((p8 rfl).trans ((d4 ((o5 e1).trans ((d4 (new_ok hz0 h.le)).trans ((d4 ((i9 e2).trans ((d4 e3).trans rfl))).trans rfl)))).trans rfl))).trans i4⟩
  | true =>
   rw [hc] at e1
   rw [if_pos hc] at hd
   rcases List.eq_nil_or_concat w with rfl | ⟨ws, a, rfl⟩
   . cases hd
   . rw [List.concat_eq_append] at *
     have ha : a < Fd.length := h.lt a (List.mem_append_right _ (.head _))
     have hx6 : Fd[a].length = 6 := h.six _ (List.getElem_mem ha)
     have hn : (Fd[a].take 4 ++ [PyData.int r, PyData.int (p + 1 : Nat)]).length = 6 := by rw [lap, List.length_take, hx6]; rfl
     obtain ⟨b5, b6, b7, b8, i1, i2, i3, i4⟩ := bC h4 P0 r a4 ts (Fd.set a (Fd[a].take 4 ++ [.int r, .int (p + 1 : Nat)])) ws d' (sI p) (sG k) (sI (p + 1 : Nat)) (sI a) (fun k hk => hg k (.tail _ hk)) (h.cls hn) (by rw [lap, if_neg (show ¬ ws.length + [a].length = 0 from Nat.succ_ne_zero _)] at hd; exact hd) (by rw [List.length_set]; exact nlt (Nat.add_le_add_left (Nat.le_succ _) _) hz)
     rw [<- x3G (p := p) (r := r) hc ha] at i1 i2 i3 i4
     have g1 : (x0 (ws ++ [a])).getLast? = some (.int a) := by unfold x0; rw [List.map_append]; exact List.getLast?_concat ..
     have g2 : (x0 (ws ++ [a])).dropLast = x0 ws := by unfold x0; rw [List.map_append]; exact List.dropLast_concat ..
     have e2 : ex U (.assign (.loc 8) (.peek .pop (.loc 2) .nil)) (r8 P0 Fd (ws ++ [a]) r a4 (sI p) (sG k) (sI (p + 1 : Nat)) a8) = .ok .next (r8 P0 Fd ws r a4 (sI p) (sG k) (sI (p + 1 : Nat)) (sI a)) := (j5 ((iM (xs := x0 (ws ++ [a])) rfl (i6 (by rw [Y9]; exact nlt h.le (big hz0))) g1 (show 2 < 9 by decide)).trans (by rw [g2]))).trans rfl
     have e3 : ev U (.peek .idx (.loc 1) (b9 C4)) (r8 P0 Fd ws r a4 (sI p) (sG k) (sI (p + 1 : Nat)) (sI a)) = .ok [.val (.tuple Fd[a])] (r8 P0 Fd ws r a4 (sI p) (sG k) (sI (p + 1 : Nat)) (sI a)) := M4 (f := .own (encF Fd)) (m := a) rfl rfl rfl ((F3 (by rw [O8]; exact big hz0) (Int.natCast_nonneg _) (by rw [O8]; exact Int.ofNat_lt.mpr ha)).trans (by
      show (encF Fd)[a]? = _
      unfold encF
      rw [List.getElem?_map, geg ha]; rfl))
     have e4 : ∀ st, o3 (.slc false true) [.val (.tuple Fd[a]), .val (.int 4)] st = .ok [.val (.tuple (Fd[a].take 4))] st := fun st => by
      show oneO (((gd (okLen Fd[a].length && decide ((0 : Int) <= 4 /\ (4 : Int) < Fd[a].length)) (F.val (.tuple (Fd[a].take 4)))).or _)) st = _
      rw [hx6]; rfl
     have e5 : ∀ st, o3 (.bin .Add) [.val (.tuple (Fd[a].take 4)), .val (.tuple [.int r, .int (p + 1 : Nat)])] st = .ok [.val (.tuple (Fd[a].take 4 ++ [.int r, .int (p + 1 : Nat)]))] st := fun st => by
      have h4 : (Fd[a].take 4).length = 4 := by rw [List.length_take, hx6]; rfl
      show oneO (((none : Option F).or none).or ((none : Option F).or (gd (okLen ((Fd[a].take 4).length + 2)) (F.val (.tuple (Fd[a].take 4 ++ [.int r, .int (p + 1 : Nat)])))))) st = _
      rw [h4]; rfl
     have e6 := bS (U := U) (i := 1) (ke := .get (.loc 8)) (m := a) (xs := encF Fd) (d := .tuple (Fd[a].take 4 ++ [.int r, .int (p + 1 : Nat)])) (st := r8 P0 Fd ws r a4 (sI p) (sG k) (sI (p + 1 : Nat)) (sI a)) ((d6 (d5 (f := .val (.tuple (Fd[a].take 4))) ((d6 (d5 e3 (d5 (a := .lit (.int 4)) (b := .nil) (f := .val (.int 4)) rfl rfl))).trans (e4 _)) (d5 (a := .op .tup (a9 f5 n3)) (b := .nil) (f := .val (.tuple [.int r, .int (p + 1 : Nat)])) rfl rfl))).trans (e5 _)) rfl rfl (i6 (by rw [O8]; exact big hz0)) (by rw [O8]; exact ha) (show 1 < 9 by decide)
     have e7 : (encF Fd).set a (.tuple (Fd[a].take 4 ++ [.int r, .int (p + 1 : Nat)])) = encF (Fd.set a (Fd[a].take 4 ++ [.int r, .int (p + 1 : Nat)])) := by unfold encF; rw [List.map_set]
     rw [e7] at e6
     exact ⟨b5, b6, b7, b8, i1, i2, by rw [List.length_set] at i3; exact nlt i3 (Nat.add_le_add_left (Nat.le_succ _) _), (u6 ((p8 rfl).trans ((d4 ((i9 e1).trans ((d4 e2).trans ((d4 e6).trans rfl)))).trans rfl))).trans i4⟩
end
section
variable {U : Nat -> Fn} {rows : LL} {cts : List Nat} {es : Es} {m : Int} {ps : List (Nat × Nat)} {r : Nat} {ln : List Nat}
noncomputable def A8 (r n : Nat) : List (Nat × Nat) := ((List.range n).filter fun k => !(k == r)).map fun k => (k, k)
noncomputable def bump (cts : List Nat) (r : Nat) : List Nat := cts.set r (cts[r]?.getD 0 + 1)
theorem x6a : (sRows rows).set r (strD ln) = sRows (rows.set r ln) := (List.map_set ..).symm
theorem x1z : (rows.map encP).set r (encP ln) = (rows.set r ln).map encP := (List.map_set ..).symm
theorem x0Q {x : Nat} : (encC cts).set r (.int x) = encC (cts.set r x) := (List.map_set ..).symm
theorem M6 : (encC cts).length = cts.length := i7 ..
noncomputable def pF (d : PyData) : Nat := match asI d with | some i => i.toNat | none => 0
theorem x2z {n : Nat} : ((((List.range n).map fun (k : Nat) => PyData.int k).filter fun d => !(pF d == r)).map fun d => .tuple [d, d]) = s9 (A8 r n) := by
 unfold s9 A8
 rw [List.filter_map, List.map_map, List.map_map]
 rfl
noncomputable abbrev G5 (rows rows2 : LL) (r : Nat) (ln : List Nat) (cts : List Nat) (es : Es) (m : Int) (ps : List (Nat × Nat)) : St := ⟨[some (.pg 0), some (.val (.int r)), some (.val (strD ln))], [pS (some (.own (sRows rows))) (rows2.map encP) (some (.own (encC cts))) es m (some (.own (s9 ps)))], 0⟩
theorem xM {a b n : Nat} (h : a + 1 <= b + 2 * (n - 0)) (hm : n <= 64) : a <= b + 128 := by lia
theorem x5r (h5 : bW U) (hJ : J 6 U (rows.set r ln)) (h : Pg rows cts es) (hr : r < rows.length) (hl : n4 ln = true) (hz : es.length <= 9000) : ∃ es', es'.length <= es.length + 128 /\ Pg (rows.set r ln) (bump cts r) es' /\ M U cK [pP rows cts es m ps] [.pg 0, .val (.int r), .val (strD ln)] = .ret (.val .none) [pP (rows.set r ln) (bump cts r) es' (m + (cnt (some r) 6 0 rows.length : Nat)) (A8 r rows.length)] := by
 have hm := h.ok.most
 have hcl := h.cl
 have hz1 : okLen (sRows rows).length = true := i6 (by rw [k8]; exact big hm)
 have hz2 : okLen (rows.map encP).length = true := i6 (by rw [i7]; exact big hm)
 have hz3 : okLen (encC cts).length = true := i6 (by rw [M6, hcl]; exact big hm)
 have hz4 : okLen (sRows (rows.set r ln)).length = true := i6 (by rw [k8, List.length_set]; exact big hm)
 obtain ⟨es', l, g⟩ := hJ (some r) 0 rows.length h.ok.one hm (Nat.le_of_eq (List.length_set ..).symm) (some (.own (sRows (rows.set r ln)))) (some (.own (encC (bump cts r)))) (some (.own (s9 (A8 r rows.length)))) es m (big (Nat.add_le_add hz (Nat.mul_le_mul_left 2 hm))) (h.kn.pre h.ok.one)
 refine ⟨es', xM l.len hm, ⟨h.ok.set hl, by unfold bump; rw [List.length_set, List.length_set, hcl], by rw [List.length_set]; exact l.kn⟩, ?_⟩
 have e1 : ex U (.setidx (.fld 0 0) d7 f6) (G5 rows rows r ln cts es m ps) = .ok .next (G5 (rows.set r ln) rows r ln cts es m ps) := by
  refine cN (m := r) (xs := sRows rows) (d := strD ln) rfl rfl rfl hz1 (by rw [k8]; exact hr) ?_
  rw [x6a]; rfl
 have e2 : ex U (.setidx (.fld 0 1) d7 (.call true 5 (b9 (.lend 2)))) (G5 (rows.set r ln) rows r ln cts es m ps) = .ok .next (G5 (rows.set r ln) (rows.set r ln) r ln cts es m ps) := by
  refine cN (m := r) (xs := rows.map encP) (d := encP ln) (n8 (fs := [.lnd 2]) (ys := [.val (strD ln)]) rfl rfl (h5 ln (nlt (n9 hl) (by decide)))) rfl rfl hz2 (by rw [i7]; exact hr) ?_
  rw [x1z]; rfl
 have hx : (encC cts)[r]? = some (.int (cts[r]?.getD 0 : Nat)) := by
  unfold encC
  rw [List.getElem?_map, geg (by rw [hcl]; exact hr)]; rfl
 have e3 : ex U (.setidx (.fld 0 2) d7 (bA (.peek .idx (.fld 0 2) (b9 d7)) f7)) (G5 (rows.set r ln) (rows.set r ln) r ln cts es m ps) = .ok .next (G5 (rows.set r ln) (rows.set r ln) r ln (bump cts r) es m ps) := by
  refine cN (m := r) (xs := encC cts) (d := .int (cts[r]?.getD 0 + 1 : Nat)) ((d6 (f0 (i := (cts[r]?.getD 0 : Nat)) (gN (f := .own (encC cts)) (m := r) rfl rfl rfl ((F3 (by rw [M6, hcl]; exact big hm) (Int.natCast_nonneg _) (by rw [M6, hcl]; exact Int.ofNat_lt.mpr hr)).trans hx)) rfl)).trans rfl) rfl rfl hz3 (by rw [M6, hcl]; exact hr) ?_
  rw [x0Q]; rfl
 have e4 : ex U (.assign (.fld 0 5) (.comp 3 1 (b9 (.peek .len (.fld 0 0) .nil)) (.op .tup (a9 f5 f5)) (.cmp .NotEq (a9 f5 d7)))) (G5 (rows.set r ln) (rows.set r ln) r ln (bump cts r) es m ps) = .ok .next (G5 (rows.set r ln) (rows.set r ln) r ln (bump cts r) es m (A8 r rows.length)) := by
  refine (j5 (lT (g := fun d => .tuple [d, d]) (pr := fun d => !(pF d == r)) (xs := (List.range rows.length).map fun (k : Nat) => PyData.int k) (t8 (fs := [.val (.int rows.length)]) (f0 (i := rows.length) ((I7 (f := .own (sRows (rows.set r ln))) rfl rfl hz4).trans (by rw [k8, List.length_set])) rfl) ?_) rfl (fun d hd => ?_) (fun d hd => ?_) (i6 (by rw [i7, List.length_range]; exact big hm)) rfl)).trans (by rw [x2z]; rfl)
  . show ((rangeF 0 (rows.length : Int)).or _) = _
    rw [qV (big hm)]; rfl
  . obtain ⟨k, hk, rfl⟩ := List.mem_map.mp hd
    refine (k9 (u := .int k) (v := .int r) (q := !((k : Int) == r)) rfl rfl).trans ?_
    exact congrArg (fun q => Mine.Internal.R.ok [bV (!q)] _) (Bool.eq_iff_iff.mpr (by rw [beq_iff_eq, beq_iff_eq]; exact Int.ofNat_inj))
  . obtain ⟨k, hk, rfl⟩ := List.mem_map.mp hd
    rfl
 exact F7 rfl ((d4 e1).trans ((d4 e2).trans ((d4 e3).trans ((d4 e4).trans ((d4 (y8 (q8 (n := 0) (ys := [.val (.int 0), .val (.int rows.length), .val (.int r)]) rfl (f0 (i := 0) rfl (f0 (i := rows.length) ((I7 (f := .own (sRows (rows.set r ln))) rfl rfl hz4).trans (by rw [k8, List.length_set])) rfl)) rfl g))).trans rfl)))))
end
section
variable {U : Nat -> Fn} {rows fr : LL} {cts : List Nat} {es : Es} {m : Int} {ps : List (Nat × Nat)} {r g : Nat}
noncomputable def t4 (r g fl n : Nat) : List (Nat × Nat) := ((List.range r).map fun k => (k, k)) ++ (List.range (n - (r + g))).map fun j => (r + g + j, r + j + fl)
noncomputable def splice {α : Type} (xs ys : List α) (r g : Nat) : List α := xs.take r ++ ys ++ xs.drop (r + g)
theorem P6 {α β : Type} (f : α -> β) (xs ys : List α) : splice (xs.map f) (ys.map f) r g = (splice xs ys r g).map f := by unfold splice; rw [List.map_append, List.map_append, List.map_take, List.map_drop]
theorem aI {α : Type} (xs ys : List α) (h : r + g <= xs.length) : (splice xs ys r g).length + g = xs.length + ys.length := by unfold splice; rw [lap, lap, List.length_take, List.length_drop]; lia
theorem K9 {st st1 st2 : St} {p : Pl} {E rE gE : CE} {f : F} {xs ys : List PyData} (h1 : ev U (.get p) st = .ok [.val (.list xs)] st1) (hr : ev U rE st1 = .ok [.val (.int r)] st1) (hE : ev U E st1 = .ok [f] st2) (hf : f.frz = .val (.list ys)) (h2 : ev U (.get p) st2 = .ok [.val (.list xs)] st2) (hr2 : ev U rE st2 = .ok [.val (.int r)] st2) (hg : ev U gE st2 = .ok [.val (.int g)] st2) (hz : xs.length <= 1000) (hz2 : ys.length <= 1000) (hz3 : r + g <= 1000) :
  ev U (bA (bA (.op (.slc false true) (a9 (.get p) rE)) E) (.op (.slc true false) (a9 (.get p) (bA rE gE)))) st = .ok [.own (splice xs ys r g)] st2 := by
 have hl : (xs.take r).length <= 1000 := nlt (List.length_take_le' ..) hz
 have hd : (xs.drop (r + g)).length <= 1000 := nlt (by rw [List.length_drop]; exact Nat.sub_le ..) hz
 have a1 : ev U (.op (.slc false true) (a9 (.get p) rE)) st = .ok [.own (xs.take r)] st1 := (d6 (d5 (f := .val (.list xs)) h1 (f0 (i := r) hr rfl))).trans (x1o (nlt hz (by decide)) (nlt (Nat.le_add_right r g) (nlt hz3 (by decide))))
 have e2 := d5 (U := U) (b := .nil) hE rfl
 rw [hf] at e2
 have a2 : ev U (bA (.op (.slc false true) (a9 (.get p) rE)) E) st = .ok [.own (xs.take r ++ ys)] st2 := (d6 (d5 a1 e2)).trans (sO (nlt (Nat.add_le_add hl hz2) (by decide)))
 have a3 : ev U (bA rE gE) st2 = .ok [.val (.int (r + g : Nat))] st2 := (d6 (f0 (i := r) hr2 (f0 (i := g) hg rfl))).trans rfl
 have a4 : ev U (.op (.slc true false) (a9 (.get p) (bA rE gE))) st2 = .ok [.own (xs.drop (r + g))] st2 := (d6 (d5 (f := .val (.list xs)) h2 (f0 (i := (r + g : Nat)) a3 rfl))).trans (x4O (nlt hz (by decide)) (nlt hz3 (by decide)))
 exact (d6 (d5 a2 (d5 a4 rfl))).trans (sO (by rw [lap]; exact nlt (Nat.add_le_add (Nat.add_le_add hl hz2) hd) (by decide)))
noncomputable abbrev q5 (r g : Nat) (fr : LL) (k : Option F) (A B C : F) (es : Es) (m : Int) (ps : List (Nat × Nat)) : St := ⟨[some (.pg 0), some (.val (.int r)), some (.val (.int g)), some (vR fr), k], [[some A, some B, some C, some (.dct es), some (.val (.int m)), some (.own (s9 ps))]], 0⟩
theorem x1j {q : Nat × Nat} : s9 ps ++ [.tuple [.int q.1, .int q.2]] = s9 (ps ++ [q]) := by unfold s9; rw [List.map_append]; rfl
theorem x2A : (s9 ps).length = ps.length := i7 ..
theorem qF {A B C : F} (hf : fr.length <= 1000) : ∀ (ks : List Nat) (ps : List (Nat × Nat)) (k : Option F), ps.length + ks.length <= 10000 -> ∃ k', forL (stepB U false [4] tW) (ks.map fun (j : Nat) => PyData.int (r + g + j : Nat)) (q5 r g fr k A B C es m ps) = .ok .next (q5 r g fr k' A B C es m (ps ++ ks.map fun j => (r + g + j, r + j + fr.length)))
 | [], ps, k, _ => ⟨k, by rw [List.map_nil, List.map_nil, List.append_nil]; rfl⟩
 | j :: ks, ps, k, hz => by
  have hz' : ps.length + (ks.length + 1) <= 10000 := hz
  obtain ⟨k', ih⟩ := qF (A := A) (B := B) (C := C) hf ks (ps ++ [(r + g + j, r + j + fr.length)]) (sI (r + g + j : Nat)) (by rw [lap]; show ps.length + 1 + ks.length <= 10000; lia)
  refine ⟨k', (u6 (st1 := q5 r g fr (sI (r + g + j : Nat)) A B C es m (ps ++ [(r + g + j, r + j + fr.length)])) ((p8 rfl).trans ((d4 (x5H (xs := s9 ps) (d := .tuple [.int (r + g + j : Nat), .int (r + j + fr.length : Nat)]) rfl ((d6 (f0 (i := (r + g + j : Nat)) rfl (f0 (i := (r + j + fr.length : Nat)) ?_ rfl))).trans rfl) (i6 (by rw [x2A]; lia)) ?_)).trans rfl))).trans ?_⟩
  . refine (d6 (f0 (i := ((r + g + j : Nat) + (fr.length : Int))) ((d6 (f0 (i := (r + g + j : Nat)) rfl (f0 (i := fr.length) ((I7 (f := .val (.list (sRows fr))) rfl rfl (i6 (by rw [k8]; lia))).trans (by rw [k8])) rfl))).trans rfl) (f0 (i := g) rfl rfl))).trans ?_
    exact congrArg (fun i => Mine.Internal.R.ok [F.val (.int i)] _) (show ((r + g + j : Nat) + (fr.length : Int)) - g = (r + j + fr.length : Nat) by lia)
  . exact congrArg (fun l => some (⟨[some (.pg 0), some (.val (.int r)), some (.val (.int g)), some (vR fr), some (.val (.int (r + g + j : Nat)))], [[some A, some B, some C, some (.dct es), some (.val (.int m)), some (.own l)]], 0⟩ : St)) (x1j (q := (r + g + j, r + j + fr.length)))
  . exact ih.trans (by rw [List.append_assoc]; rfl)
theorem zA {n : Nat} : (((List.range n).map fun (k : Nat) => PyData.int k).map fun d => PyData.tuple [d, d]) = s9 ((List.range n).map fun k => (k, k)) := by
 unfold s9
 rw [List.map_map, List.map_map]
 rfl
theorem xY {a b : Nat} {v : Slots} (h0 : a <= 100000) (h : b <= 100000) : itF 1 v [.val (.int a), .val (.int b)] = some ((List.range (b - a)).map fun (k : Nat) => PyData.int (a + k : Nat)) := yR h0 h
theorem OkText.splice_rows (h : OkText rows) (hf : ∀ l ∈ fr, n4 l = true) (h0 : 0 < (splice rows fr r g).length) (h1 : (splice rows fr r g).length <= 64) : OkText (splice rows fr r g) := ⟨h0, h1, fun l hl => by
 rcases List.mem_append.mp hl with hl | hl
 . rcases List.mem_append.mp hl with hl | hl
   . exact h.rows l (List.mem_of_mem_take hl)
   . exact hf l hl
 . exact h.rows l (List.mem_of_mem_drop hl)⟩
theorem x4L {α β : Type} {a x : List α} {b y : List β} (h : a.length = b.length) (hx : x.length = y.length) : (splice a x r g).length = (splice b y r g).length := by unfold splice; rw [lap, lap, lap, lap, List.length_take, List.length_take, List.length_drop, List.length_drop, h, hx]
theorem x3M {a b c : Nat} (h : a + g = b + c) (hg : r + g <= b) (ha : a <= 64) : c <= 128 := by lia
theorem yE (h5 : bW U) (h15 : fF U) (h : Pg rows cts es) (hf : ∀ l ∈ fr, n4 l = true) (hg : r + g <= rows.length) (hn : OkText (splice rows fr r g)) : ∃ es', es'.length <= 128 /\ Pg (splice rows fr r g) (splice cts (fr.map fun _ => 1) r g) es' /\ M U Z9 [pP rows cts es m ps] [.pg 0, .val (.int r), .val (.int g), .val (.list (sRows fr))] = .ret (.val .none) [pP (splice rows fr r g) (splice cts (fr.map fun _ => 1) r g) es' (m + (cnt none 6 0 (splice rows fr r g).length : Nat)) (t4 r g fr.length rows.length)] := by
 have hm := h.ok.most
 have hm2 := hn.most
 have hcl := h.cl
 have hsl := aI rows fr hg
 have hfl : fr.length <= 128 := x3M hsl hg hm2
 have hrg : r + g <= 64 := nlt hg hm
 have hr : r <= 64 := nlt (Nat.le_add_right r g) hrg
 have hcm : cts.length <= 64 := nlt (Nat.le_of_eq hcl) hm
 obtain ⟨es', l, kn, gg⟩ := h15 _ hn (some (.own (encC (splice cts (fr.map fun _ => 1) r g)))) es m (some (.own (s9 (t4 r g fr.length rows.length))))
 refine ⟨es', l, ⟨hn, x4L hcl (i7 ..), kn⟩, ?_⟩
 have z1 : okLen (sRows rows).length = true := i6 (by rw [k8]; exact big hm)
 have z2 : okLen (sRows fr).length = true := i6 (by rw [k8]; exact big hfl)
 have e1 : ex U (.assign (.fld 0 5) (.comp 5 1 (b9 d7) (.op .tup (a9 i8 i8)) .nil)) (q5 r g fr none (.own (sRows rows)) (.own (rows.map encP)) (.own (encC cts)) es m ps) = .ok .next (q5 r g fr none (.own (sRows rows)) (.own (rows.map encP)) (.own (encC cts)) es m ((List.range r).map fun k => (k, k))) := by
  refine (j5 (H9 (g := fun d => .tuple [d, d]) (xs := (List.range r).map fun (k : Nat) => PyData.int k) (t8 (fs := [.val (.int r)]) (f0 (i := r) rfl rfl) ?_) (fun d hd => ?_) (i6 (by rw [i7, List.length_range]; exact big hr)) rfl)).trans (by rw [zA]; rfl)
  . show ((rangeF 0 (r : Int)).or _) = _
    rw [qV (big hr)]; rfl
  . obtain ⟨k, hk, rfl⟩ := List.mem_map.mp hd
    rfl
 obtain ⟨k', e2⟩ := qF (U := U) (r := r) (g := g) (es := es) (m := m) (A := .own (sRows rows)) (B := .own (rows.map encP)) (C := .own (encC cts)) (fr := fr) (big hfl) (List.range (rows.length - (r + g))) ((List.range r).map fun k => (k, k)) none (by rw [i7, List.length_range, List.length_range]; exact big (Nat.add_le_add hr (nlt (Nat.sub_le _ _) hm)))
 have e2' : ex U uT (q5 r g fr none (.own (sRows rows)) (.own (rows.map encP)) (.own (encC cts)) es m ((List.range r).map fun k => (k, k))) = .ok .next (q5 r g fr k' (.own (sRows rows)) (.own (rows.map encP)) (.own (encC cts)) es m (t4 r g fr.length rows.length)) := (A9 (t8 (fs := [.val (.int (r + g : Nat)), .val (.int rows.length)]) (f0 (i := (r + g : Nat)) rfl (f0 (i := rows.length) ((I7 (f := .own (sRows rows)) rfl rfl z1).trans (by rw [k8])) rfl)) (xY (big hrg) (big hm)))).trans e2
 have e3 := j5 (p := .fld 0 0) (K9 (U := U) (p := .fld 0 0) (E := .get (.loc 3)) (rE := .get (.loc 1)) (gE := .get (.loc 2)) (r := r) (g := g) (f := .val (.list (sRows fr))) (xs := sRows rows) (ys := sRows fr) (st := q5 r g fr k' (.own (sRows rows)) (.own (rows.map encP)) (.own (encC cts)) es m (t4 r g fr.length rows.length)) (st1 := q5 r g fr k' (vR rows) (.own (rows.map encP)) (.own (encC cts)) es m (t4 r g fr.length rows.length)) rfl rfl rfl rfl rfl rfl rfl (by rw [k8]; exact big hm) (by rw [k8]; exact big hfl) (big hrg))
 have it : ∀ {A B C : F} {ps : List (Nat × Nat)}, ((ev U (.lend 3) (q5 r g fr k' A B C es m ps)).bind (itE 0)) = .ok (sRows fr) (q5 r g fr k' A B C es m ps) := fun {A B C ps} => t8 (fs := [.lnd 3]) rfl (by
  show (((none : Option (List PyData)).or (gd (okLen (sRows fr).length) (sRows fr))).or none) = _
  rw [z2]; rfl)
 have c1 : ∀ {A B C : F} {ps : List (Nat × Nat)}, ev U (.comp 5 0 (.lend 3) (.call true 5 (b9 i8)) .nil) (q5 r g fr k' A B C es m ps) = .ok [.own (fr.map encP)] (q5 r g fr k' A B C es m ps) := fun {A B C ps} => (H9 (g := fun d => match asS d with | some x => encP (cs x) | none => d) it (fun d hd => by
  obtain ⟨l, hl, rfl⟩ := List.mem_map.mp hd
  exact n8 (fs := [.val (strD l)]) (m6 (l := l) rfl rfl) rfl (h5 l (nlt (n9 (hf l hl)) (by decide)))) z2 rfl).trans (by unfold sRows; rw [List.map_map]; rfl)
 have c2 : ∀ {A B C : F} {ps : List (Nat × Nat)}, ev U (.comp 5 0 (.lend 3) f7 .nil) (q5 r g fr k' A B C es m ps) = .ok [.own (encC (fr.map fun _ => 1))] (q5 r g fr k' A B C es m ps) := fun {A B C ps} => (H9 (g := fun _ => .int 1) it (fun d hd => rfl) z2 rfl).trans (by unfold sRows encC; rw [List.map_map, List.map_map]; rfl)
 have e4 := j5 (p := .fld 0 1) (K9 (U := U) (p := .fld 0 1) (rE := .get (.loc 1)) (gE := .get (.loc 2)) (r := r) (g := g) (xs := rows.map encP) (ys := fr.map encP) (st := q5 r g fr k' (.own (splice (sRows rows) (sRows fr) r g)) (.own (rows.map encP)) (.own (encC cts)) es m (t4 r g fr.length rows.length)) (st1 := q5 r g fr k' (.own (splice (sRows rows) (sRows fr) r g)) (.val (.list (rows.map encP))) (.own (encC cts)) es m (t4 r g fr.length rows.length)) rfl rfl c1 rfl rfl rfl rfl (by rw [i7]; exact big hm) (by rw [i7]; exact big hfl) (big hrg))
 have e5 := j5 (p := .fld 0 2) (K9 (U := U) (p := .fld 0 2) (rE := .get (.loc 1)) (gE := .get (.loc 2)) (r := r) (g := g) (xs := encC cts) (ys := encC (fr.map fun _ => 1)) (st := q5 r g fr k' (.own (splice (sRows rows) (sRows fr) r g)) (.own (splice (rows.map encP) (fr.map encP) r g)) (.own (encC cts)) es m (t4 r g fr.length rows.length)) (st1 := q5 r g fr k' (.own (splice (sRows rows) (sRows fr) r g)) (.own (splice (rows.map encP) (fr.map encP) r g)) (.val (.list (encC cts))) es m (t4 r g fr.length rows.length)) rfl rfl c2 rfl rfl rfl rfl (by rw [M6]; exact big hcm) (by rw [M6, i7]; exact big hfl) (big hrg))
 have q1 : splice (sRows rows) (sRows fr) r g = sRows (splice rows fr r g) := P6 ..
 have q2 : splice (rows.map encP) (fr.map encP) r g = (splice rows fr r g).map encP := P6 ..
 have q3 : splice (encC cts) (encC (fr.map fun _ => 1)) r g = encC (splice cts (fr.map fun _ => 1) r g) := P6 ..
 rw [q1] at e4 e5
 rw [q2] at e5
 exact F7 rfl ((d4 e1).trans ((d4 e2').trans ((d4 (st1 := q5 r g fr k' (.own (sRows (splice rows fr r g))) (.own (rows.map encP)) (.own (encC cts)) es m (t4 r g fr.length rows.length)) (e3.trans (by rw [q1]; rfl))).trans ((d4 (st1 := q5 r g fr k' (.own (sRows (splice rows fr r g))) (.own ((splice rows fr r g).map encP)) (.own (encC cts)) es m (t4 r g fr.length rows.length)) (e4.trans (by rw [q2]; rfl))).trans ((d4 (st1 := q5 r g fr k' (.own (sRows (splice rows fr r g))) (.own ((splice rows fr r g).map encP)) (.own (encC (splice cts (fr.map fun _ => 1) r g))) es m (t4 r g fr.length rows.length)) (e5.trans (by rw [q3]; rfl))).trans ((d4 (y8 (q8 (n := 0) (ys := []) rfl rfl rfl gg))).trans rfl))))))
end
section
variable {U : Nat -> Fn} {rows fr : LL} {cts : List Nat} {es : Es} {m : Int} {ps : List (Nat × Nat)} {r p c : Nat} {ln : List Nat}
theorem L9 {v : Slots} {x : Nat} {k : CE} (h : OkText rows) (hr : rows[r]? = some ln) (hv : slot v 0 = some (.pg 0)) (hk : ev U k ⟨v, [pP rows cts es m ps], x⟩ = .ok [.val (.int r)] ⟨v, [pP rows cts es m ps], x⟩) : ev U (.peek .idx (.fld 0 0) (b9 k)) ⟨v, [pP rows cts es m ps], x⟩ = .ok [.val (strD ln)] ⟨v, [pP rows cts es m ps], x⟩ := by
 have hm := h.most
 obtain ⟨hn, _⟩ := n5 hr
 refine gN (f := .own (sRows rows)) (m := r) ?_ rfl (f0 (i := r) hk rfl) ?_
 . show (match slot v 0 with | some (.pg k) => some k | _ => none).bind _ = _
   rw [hv]; rfl
 . rw [F3 (by rw [k8]; lia) (Int.natCast_nonneg _) (by rw [k8]; lia), Int.toNat_natCast]
   show (rows.map strD)[r]? = _
   rw [List.getElem?_map, hr]; rfl
theorem V8 {v : Slots} {x : Nat} (h : OkText rows) (hv : slot v 0 = some (.pg 0)) : ev U (.peek .len (.fld 0 0) .nil) ⟨v, [pP rows cts es m ps], x⟩ = .ok [.val (.int rows.length)] ⟨v, [pP rows cts es m ps], x⟩ := by
 refine (I7 (f := .own (sRows rows)) ?_ rfl (i6 (by rw [k8]; have := h.most; lia))).trans (by rw [k8])
 show (match slot v 0 with | some (.pg k) => some k | _ => none).bind _ = _
 rw [hv]; rfl
theorem wU (h : OkText rows) (hr : rows[r]? = some ln) (hp : p <= ln.length) : M U V9 [pP rows cts es m ps] [.pg 0, .val (.int r), .val (.int p)] = .ret (.val .none) [pP rows cts es m ps] := by
 obtain ⟨hn, _⟩ := n5 hr
 have hl := n9 (h.rows ln (mog hr))
 have e1 := y2 (K4 (U := U) (ab := .cons j0 (b9 d7)) (o1 := .LtE) (o2 := .Lt) (u := .int 0) (v := .int r) (st := ⟨[some (.pg 0), some (.val (.int r)), some (.val (.int p))], [pP rows cts es m ps], 0⟩) rfl rfl (V8 h rfl) rfl)
 have e2 := y2 (K4 (U := U) (ab := .cons j0 (b9 f6)) (o1 := .LtE) (o2 := .LtE) (u := .int 0) (v := .int p) (st := ⟨[some (.pg 0), some (.val (.int r)), some (.val (.int p))], [pP rows cts es m ps], 0⟩) rfl rfl ((d6 (d5 (b := .nil) (L9 (k := .get (.loc 1)) h hr rfl rfl) rfl)).trans (F1 (l := ln) (by lia))) rfl)
 have t1 : ∀ {a b : Nat}, (!(decide ((0 : Int) <= a) && decide ((a : Int) < b))) = !decide (a < b) := fun {a b} => by
  rw [dtt (Int.natCast_nonneg a), Bool.true_and]; exact congrArg _ (decide_eq_decide.mpr Int.ofNat_lt)
 have t2 : ∀ {a b : Nat}, (!(decide ((0 : Int) <= a) && decide ((a : Int) <= b))) = !decide (a <= b) := fun {a b} => by
  rw [dtt (Int.natCast_nonneg a), Bool.true_and]; exact congrArg _ (decide_eq_decide.mpr Int.ofNat_le)
 rw [t1, dtt hn] at e1
 rw [t2, dtt hp] at e2
 exact F7 rfl (j3 (v8 e1 fun _ => e2))
noncomputable def G2 (U : Nat -> Fn) : Prop := ∀ rows cts es m ps (r p : Nat) (ln : List Nat), OkText rows -> rows[r]? = some ln -> p <= ln.length -> U 17 [pP rows cts es m ps] [.pg 0, .val (.int r), .val (.int p)] = .ret (.val .none) [pP rows cts es m ps]
noncomputable def iG (U : Nat -> Fn) : Prop := ∀ rows cts es m ps (r : Nat) (ln : List Nat), Pg rows cts es -> r < rows.length -> n4 ln = true -> es.length <= 9000 -> ∃ es', es'.length <= es.length + 128 /\ Pg (rows.set r ln) (bump cts r) es' /\ U 18 [pP rows cts es m ps] [.pg 0, .val (.int r), .val (strD ln)] = .ret (.val .none) [pP (rows.set r ln) (bump cts r) es' (m + (cnt (some r) 6 0 rows.length : Nat)) (A8 r rows.length)]
noncomputable def gH (U : Nat -> Fn) : Prop := ∀ rows cts es m ps (r g : Nat) (fr : LL), Pg rows cts es -> (∀ l ∈ fr, n4 l = true) -> r + g <= rows.length -> OkText (splice rows fr r g) -> ∃ es', es'.length <= 128 /\ Pg (splice rows fr r g) (splice cts (fr.map fun _ => 1) r g) es' /\ U 19 [pP rows cts es m ps] [.pg 0, .val (.int r), .val (.int g), .val (.list (sRows fr))] = .ret (.val .none) [pP (splice rows fr r g) (splice cts (fr.map fun _ => 1) r g) es' (m + (cnt none 6 0 (splice rows fr r g).length : Nat)) (t4 r g fr.length rows.length)]
noncomputable abbrev z3 (rows : LL) (cts : List Nat) (es : Es) (m : Int) (ps : List (Nat × Nat)) (r p c : Nat) (t : Option F) : St := ⟨[some (.pg 0), some (.val (.int r)), some (.val (.int p)), some (.val (sgn c)), t], [pP rows cts es m ps], 0⟩
noncomputable def u8 (ln : List Nat) (p c : Nat) : List Nat := ln.take p ++ [c] ++ ln.drop p
theorem x2m (h17 : G2 U) (h19 : gH U) (h : Pg rows cts es) (hr : rows[r]? = some ln) (hp : p <= ln.length) (hn : OkText (splice rows [ln.take p, ln.drop p] r 1)) (hl : ∀ l ∈ [ln.take p, ln.drop p], n4 l = true) : ∃ es', es'.length <= 128 /\ Pg (splice rows [ln.take p, ln.drop p] r 1) (splice cts [1, 1] r 1) es' /\ M U J0 [pP rows cts es m ps] [.pg 0, .val (.int r), .val (.int p), .val (sgn 10)] = .ret (.val .none) [pP (splice rows [ln.take p, ln.drop p] r 1) (splice cts [1, 1] r 1) es' (m + (cnt none 6 0 (splice rows [ln.take p, ln.drop p] r 1).length : Nat)) (t4 r 1 2 rows.length)] := by
 obtain ⟨hi, _⟩ := n5 hr
 have hll := n9 (h.ok.rows ln (mog hr))
 obtain ⟨es', l, pg, g⟩ := h19 rows cts es m ps r 1 [ln.take p, ln.drop p] h hl hi hn
 refine ⟨es', l, pg, ?_⟩
 have e1 : ex U _ (z3 rows cts es m ps r p 10 none) = _ := y8 (q8 (k := 17) (r := .get (.loc 0)) (es := .cons d7 (b9 f6)) (n := 0) (ys := [.val (.int r), .val (.int p)]) rfl rfl rfl (h17 rows cts es m ps r p ln h.ok hr hp))
 have e3 : ex U (.assign (.loc 4) _) (z3 rows cts es m ps r p 10 none) = .ok .next (z3 rows cts es m ps r p 10 (sT ln)) := (j5 (L9 (k := .get (.loc 1)) h.ok hr rfl rfl)).trans rfl
 have hne : (((rows.length : Nat) : Int) == 64) = false := w2 fun q => by
  have := eq_of_beq q; have := hn.most; have := aI rows [ln.take p, ln.drop p] (r := r) (g := 1) hi; simp at this; lia
 have e4 := k9 (U := U) (op := .Eq) (es := .cons (.peek .len (.fld 0 0) .nil) (b9 (.glob 0))) (st := z3 rows cts es m ps r p 10 (sT ln)) (u := .int rows.length) (v := .int 64) (q := ((rows.length : Nat) : Int) == 64) (f0 (i := rows.length) (V8 h.ok rfl) rfl) rfl
 rw [hne] at e4
 have e5 : ev U (.op .lst (a9 (.op (.slc false true) (a9 g7 f6)) (.op (.slc true false) (a9 g7 f6)))) (z3 rows cts es m ps r p 10 (sT ln)) = .ok [.own (sRows [ln.take p, ln.drop p])] (z3 rows cts es m ps r p 10 (sT ln)) :=
  (d6 (m6 (l := (ln.take p)) ((d6 (fs := [.val (strD ln), .val (.int p)]) rfl).trans (H8 (by lia) (by lia))) (m6 (l := (ln.drop p)) ((d6 (fs := [.val (strD ln), .val (.int p)]) rfl).trans (Q5 (by lia) (by lia))) rfl))).trans rfl
 exact F7 rfl ((d4 e1).trans ((j3 rfl).trans ((d4 e3).trans ((d4 ((i9 (c := .cmp .Eq (a9 f5 (.lit (.str (S [10]))))) rfl).trans ((j3 e4).trans ((d4 (y8 (q8 (n := 0) (ys := [.val (.int r), .val (.int 1), .val (.list (sRows [ln.take p, ln.drop p]))]) rfl (f0 (i := r) rfl (f0 (i := 1) rfl (d5 e5 rfl))) rfl g))).trans rfl)))).trans rfl))))
theorem x5d (hp : p <= ln.length) : (u8 ln p c).length = ln.length + 1 := by
 unfold u8
 rw [lap, lap, List.length_take, List.length_drop, Nat.min_eq_left hp]
 show p + 1 + _ = _
 lia
theorem wY {n m : Nat} (h : m = n + 1) (hm : m <= 120) : ((n : Int) == 120) = false := w2 fun q => by have := eq_of_beq q; lia
theorem zX (h1 : Z3 U) (h17 : G2 U) (h18 : iG U) (h : Pg rows cts es) (hr : rows[r]? = some ln) (hp : p <= ln.length) (hc : m5 c = true) (hl : n4 (u8 ln p c) = true) (hz : es.length <= 9000) : ∃ es', es'.length <= es.length + 128 /\ Pg (rows.set r (u8 ln p c)) (bump cts r) es' /\ M U J0 [pP rows cts es m ps] [.pg 0, .val (.int r), .val (.int p), .val (sgn c)] = .ret (.val .none) [pP (rows.set r (u8 ln p c)) (bump cts r) es' (m + (cnt (some r) 6 0 rows.length : Nat)) (A8 r rows.length)] := by
 obtain ⟨hi, _⟩ := n5 hr
 have hll := n9 (h.ok.rows ln (mog hr))
 obtain ⟨es', l, pg, g⟩ := h18 rows cts es m ps r (u8 ln p c) h hi hl hz
 refine ⟨es', l, pg, ?_⟩
 have e1 : ex U _ (z3 rows cts es m ps r p c none) = _ := y8 (q8 (k := 17) (r := .get (.loc 0)) (es := .cons d7 (b9 f6)) (n := 0) (ys := [.val (.int r), .val (.int p)]) rfl rfl rfl (h17 rows cts es m ps r p ln h.ok hr hp))
 have hc10 : ([c] == [10]) = false := w2 fun q => Q3 hc (List.cons.inj (eq_of_beq q)).1
 have e2 := v8 (U := U) (a := .not (.op (.isinst .str) (b9 f5))) (x := false) (st := z3 rows cts es m ps r p c none) rfl fun _ => v8 (a := .cmp .NotEq (a9 (.op .len (b9 f5)) f7)) (x := false) rfl fun _ => q7 (a := .cmp .NotEq (a9 f5 (.lit (.str (S [10]))))) (x := !([c] == [10])) rfl fun _ => y2 (n8 (k := 1) (es := .cons f5 .nil) (fs := [.val (sgn c)]) rfl rfl (h1 c))
 rw [hc, hc10] at e2
 have e3 : ex U (.assign (.loc 4) _) (z3 rows cts es m ps r p c none) = .ok .next (z3 rows cts es m ps r p c (sT ln)) := (j5 (L9 (k := .get (.loc 1)) h.ok hr rfl rfl)).trans rfl
 have e0 := k9 (U := U) (op := .Eq) (es := .cons f5 (b9 (.lit (.str (S [10]))))) (st := z3 rows cts es m ps r p c (sT ln)) (u := sgn c) (v := .str (S [10])) (q := [c] == [10]) rfl rfl
 rw [hc10] at e0
 have hne : (((ln.length : Nat) : Int) == 120) = false := wY (x5d hp) (n9 hl)
 have e4 := k9 (U := U) (op := .Eq) (es := .cons (.op .len (b9 g7)) (b9 (.glob 1))) (st := z3 rows cts es m ps r p c (sT ln)) (u := .int ln.length) (v := .int 120) (q := ((ln.length : Nat) : Int) == 120) (f0 (i := ln.length) ((d6 (fs := [.val (strD ln)]) rfl).trans (F1 (big hll))) rfl) rfl
 rw [hne] at e4
 have e5 : ev U (bA (bA (.op (.slc false true) (a9 g7 f6)) f5) (.op (.slc true false) (a9 g7 f6))) (z3 rows cts es m ps r p c (sT ln)) = .ok [.val (strD (u8 ln p c))] (z3 rows cts es m ps r p c (sT ln)) := by
  have b1 : (ln.take p).length <= 120 := nlt (List.length_take_le' ..) hll
  have b2 : (ln.drop p).length <= 120 := by rw [List.length_drop]; exact nlt (Nat.sub_le ..) hll
  exact (d6 (d5 (f := .val (.str (S (ln.take p ++ [c])))) ((d6 (m6 (l := (ln.take p)) ((d6 (fs := [.val (strD ln), .val (.int p)]) rfl).trans (H8 (big hll) (big (nlt hp hll)))) (d5 (f := .val (sgn c)) rfl rfl))).trans (v6 (r := [c]) (big (Nat.add_le_add_right b1 1)))) (m6 (l := (ln.drop p)) ((d6 (fs := [.val (strD ln), .val (.int p)]) rfl).trans (Q5 (big hll) (big (nlt hp hll)))) rfl))).trans (v6 (by rw [lap]; exact big (Nat.add_le_add (Nat.add_le_add_right b1 1) b2)))
 exact F7 rfl ((d4 e1).trans ((j3 e2).trans ((d4 e3).trans ((d4 ((o5 e0).trans ((j3 e4).trans ((d4 (y8 (q8 (n := 0) (ys := [.val (.int r), .val (strD (u8 ln p c))]) rfl (f0 (i := r) rfl (m6 (l := (u8 ln p c)) e5 rfl)) rfl g))).trans rfl)))).trans rfl))))
end
section
variable {U : Nat -> Fn} {rows : LL} {cts : List Nat} {es : Es} {m : Int} {ps : List (Nat × Nat)} {r p : Nat} {ln l2 : List Nat}
noncomputable abbrev s5 (rows : LL) (cts : List Nat) (es : Es) (m : Int) (ps : List (Nat × Nat)) (r p : Nat) (t : Option F) : St := ⟨[some (.pg 0), some (.val (.int r)), some (.val (.int p)), t], [pP rows cts es m ps], 0⟩
noncomputable def delL (ln : List Nat) (p : Nat) : List Nat := ln.take p ++ ln.drop (p + 1)
theorem dQ (h17 : G2 U) (h : OkText rows) (hr : rows[r]? = some ln) (hp : p <= ln.length) {s : CS} : ex U (.seq (.drop (.meth 17 d8 (a9 d7 f6))) (.seq (.assign (.loc 3) (.peek .idx (.fld 0 0) (b9 d7))) s)) (s5 rows cts es m ps r p none) = ex U s (s5 rows cts es m ps r p (sT ln)) := by
 have e1 : ex U _ (s5 rows cts es m ps r p none) = _ := y8 (q8 (k := 17) (r := .get (.loc 0)) (es := .cons d7 (b9 f6)) (n := 0) (ys := [.val (.int r), .val (.int p)]) rfl rfl rfl (h17 rows cts es m ps r p ln h hr hp))
 have e3 : ex U (.assign (.loc 3) _) (s5 rows cts es m ps r p none) = .ok .next (s5 rows cts es m ps r p (sT ln)) := (j5 (L9 (k := .get (.loc 1)) h hr rfl rfl)).trans rfl
 exact (d4 e1).trans (d4 e3)
theorem fH (hl : ln.length <= 120) : ev U (.cmp .Lt (a9 f6 (.op .len (b9 f5)))) (s5 rows cts es m ps r p (sT ln)) = .ok [bV (decide (p < ln.length))] (s5 rows cts es m ps r p (sT ln)) :=
 (k9 (u := .int p) (v := .int ln.length) (f0 (i := p) rfl (f0 (i := ln.length) ((d6 (fs := [.val (strD ln)]) rfl).trans (F1 (by lia))) rfl)) rfl).trans (congrArg (fun q => Mine.Internal.R.ok [bV q] _) (decide_eq_decide.mpr Int.ofNat_lt))
theorem x5X (h17 : G2 U) (h18 : iG U) (h : Pg rows cts es) (hr : rows[r]? = some ln) (hp : p < ln.length) (hl : n4 (delL ln p) = true) (hz : es.length <= 9000) : ∃ es', es'.length <= es.length + 128 /\ Pg (rows.set r (delL ln p)) (bump cts r) es' /\ M U I2 [pP rows cts es m ps] [.pg 0, .val (.int r), .val (.int p)] = .ret (.val .none) [pP (rows.set r (delL ln p)) (bump cts r) es' (m + (cnt (some r) 6 0 rows.length : Nat)) (A8 r rows.length)] := by
 obtain ⟨hi, _⟩ := n5 hr
 have hll := n9 (h.ok.rows ln (mog hr))
 obtain ⟨es', l, pg, g⟩ := h18 rows cts es m ps r (delL ln p) h hi hl hz
 refine ⟨es', l, pg, ?_⟩
 have e1 : ev U _ (s5 rows cts es m ps r p (sT ln)) = _ := fH hll
 rw [dtt hp] at e1
 have e5 : ev U (bA (.op (.slc false true) (a9 f5 f6)) (.op (.slc true false) (a9 f5 (bA f6 f7)))) (s5 rows cts es m ps r p (sT ln)) = .ok [.val (strD (delL ln p))] (s5 rows cts es m ps r p (sT ln)) :=
  (d6 (m6 (l := (ln.take p)) ((d6 (fs := [.val (strD ln), .val (.int p)]) rfl).trans (H8 (by lia) (by lia))) (m6 (l := (ln.drop (p + 1))) ((d6 (fs := [.val (strD ln), .val (.int (p + 1 : Nat))]) rfl).trans (Q5 (by lia) (by lia))) rfl))).trans (v6 (by rw [List.length_take, List.length_drop]; lia))
 exact j2 rfl ((dQ h17 h.ok hr (Nat.le_of_lt hp)).trans (f8 ((i9 e1).trans ((d4 (y8 (q8 (n := 0) (ys := [.val (.int r), .val (strD (delL ln p))]) rfl (f0 (i := r) rfl (m6 (l := (delL ln p)) e5 rfl)) rfl g))).trans rfl))))
theorem nJ {a n : Nat} (h : a + 2 = n + 1) (h2 : r + 2 <= n) (hm : n <= 64) : 0 < a /\ a <= 64 := by lia
theorem x0p {n : Nat} (h : r + 2 <= n) : ((r : Int) == (n : Int) - 1) = false := w2 fun q => by have := eq_of_beq q; lia
theorem le120 {a b : Nat} (h : a + b <= 120) : ¬ (120 : Int) < (a : Int) + b := by lia
theorem x3l (h17 : G2 U) (h19 : gH U) (h : Pg rows cts es) (hr : rows[r]? = some ln) (hr2 : rows[r + 1]? = some l2) (hp : p = ln.length) (hl : n4 (ln ++ l2) = true) : ∃ es', es'.length <= 128 /\ Pg (splice rows [ln ++ l2] r 2) (splice cts [1] r 2) es' /\ M U I2 [pP rows cts es m ps] [.pg 0, .val (.int r), .val (.int p)] = .ret (.val .none) [pP (splice rows [ln ++ l2] r 2) (splice cts [1] r 2) es' (m + (cnt none 6 0 (splice rows [ln ++ l2] r 2).length : Nat)) (t4 r 2 1 rows.length)] := by
 obtain ⟨hi, _⟩ := n5 hr2
 have hll := n9 (h.ok.rows ln (mog hr))
 have hl2 := n9 (h.ok.rows l2 (mog hr2))
 have hls := n9 hl
 have hsl := aI rows [ln ++ l2] (r := r) (g := 2) hi
 have hsl : (splice rows [ln ++ l2] r 2).length + 2 = rows.length + 1 := hsl
 have hn : OkText (splice rows [ln ++ l2] r 2) := h.ok.splice_rows (fun l hm => by rw [lsm hm]; exact hl) (nJ hsl hi h.ok.most).1 (nJ hsl hi h.ok.most).2
 obtain ⟨es', l, pg, g⟩ := h19 rows cts es m ps r 2 [ln ++ l2] h (fun l hm => by rw [lsm hm]; exact hl) hi hn
 refine ⟨es', l, pg, ?_⟩
 have e1 : ev U _ (s5 rows cts es m ps r p (sT ln)) = _ := fH hll
 rw [dff (by rw [hp]; exact Nat.lt_irrefl _)] at e1
 have e2 := k9 (U := U) (op := .Eq) (es := .cons d7 (b9 (o0 (.peek .len (.fld 0 0) .nil) f7))) (st := s5 rows cts es m ps r p (sT ln)) (u := .int r) (v := .int ((rows.length : Int) - 1)) (q := (r : Int) == (rows.length : Int) - 1) (f0 (i := r) rfl (f0 (i := ((rows.length : Int) - 1)) ((d6 (f0 (i := rows.length) (V8 h.ok rfl) rfl)).trans rfl) rfl)) rfl
 rw [x0p hi] at e2
 have n1 : ev U (bA d7 f7) (s5 rows cts es m ps r p (sT ln)) = .ok [.val (.int (r + 1 : Nat))] (s5 rows cts es m ps r p (sT ln)) := rfl
 have n2 : ev U _ (s5 rows cts es m ps r p (sT ln)) = _ := L9 h.ok hr2 rfl n1
 have e3 := k9 (U := U) (op := .Gt) (es := .cons (bA (.op .len (b9 f5)) (.op .len (b9 (.peek .idx (.fld 0 0) (b9 (bA d7 f7)))))) (b9 (.glob 1))) (st := s5 rows cts es m ps r p (sT ln)) (u := .int ((ln.length : Int) + l2.length)) (v := .int 120) (q := decide ((120 : Int) < (ln.length : Int) + l2.length)) (f0 (i := ((ln.length : Int) + l2.length)) ((d6 (f0 (i := ln.length) ((d6 (fs := [.val (strD ln)]) rfl).trans (F1 (big hll))) (f0 (i := l2.length) ((d6 (d5 n2 rfl)).trans (F1 (l := l2) (big hl2))) rfl))).trans rfl) rfl) rfl
 rw [dff (by rw [lap] at hls; exact le120 hls)] at e3
 have e5 : ev U (.op .lst (b9 (bA f5 (.peek .idx (.fld 0 0) (b9 (bA d7 f7)))))) (s5 rows cts es m ps r p (sT ln)) = .ok [.own (sRows [ln ++ l2])] (s5 rows cts es m ps r p (sT ln)) :=
  (d6 (m6 (l := (ln ++ l2)) ((d6 (m6 (l := ln) rfl (d5 n2 rfl))).trans (v6 (big (Nat.add_le_add hll hl2)))) rfl)).trans rfl
 exact F7 rfl ((dQ h17 h.ok hr (Nat.le_of_eq hp)).trans ((j3 e1).trans ((j3 e2).trans ((j3 e3).trans ((d4 (y8 (q8 (n := 0) (ys := [.val (.int r), .val (.int 2), .val (.list (sRows [ln ++ l2]))]) rfl (f0 (i := r) rfl (f0 (i := 2) rfl (d5 e5 rfl))) rfl g))).trans rfl)))))
end
noncomputable def tR : FnDef := ⟨0, "_law_fault", ["_law_rows"], ["_law_opened", "_law_row", "_law_place", "_law_sign"], (.seq (.assign (.loc 1) (.op .lst .nil)) (.seq (.loop false [2] 1 (b9 (.op .len (b9 d8))) gB) (.seq (.iff (.cmpNil true (.loc 1)) (.seq (.ret (.op .tup (j9 (.op .idx (a9 (.peek .idx (.loc 1) (b9 (.op .neg (b9 f7)))) f7)) (.op .idx (a9 (.peek .idx (.loc 1) (b9 (.op .neg (b9 f7)))) j4)) (.lit (.str (S [108, 101, 102, 116, 32, 111, 112, 101, 110])))))) .nil) .nil) (.seq (.ret (.lit .none)) .nil))))⟩
noncomputable def rQ : FnDef := ⟨0, "_law_put", ["_law_rows", "_law_row", "_law_place", "_law_sign"], ["_law_line", "_law_lines"], (.seq (.assign (.loc 4) (.op .idx (a9 d8 d7))) (.seq (.assign (.loc 5) (.op .lst (b9 (bA (bA (.op (.slc false true) (a9 g7 f6)) f5) (.op (.slc true false) (a9 g7 f6)))))) (.seq (.iff (.cmp .Eq (a9 f5 (.lit (.str (S [10]))))) (.seq (.assign (.loc 5) (.op .lst (a9 (.op (.slc false true) (a9 g7 f6)) (.op (.slc true false) (a9 g7 f6))))) .nil) .nil) (.seq (.ret (bA (bA (.op (.slc false true) (a9 d8 d7)) i8) (.op (.slc true false) (a9 d8 (bA d7 f7))))) .nil))))⟩
noncomputable def W8 : FnDef := ⟨0, "_law_cut", ["_law_rows", "_law_row", "_law_place"], ["_law_line"], (.seq (.assign (.loc 3) (.op .idx (a9 d8 d7))) (.seq (.iff (.cmp .Lt (a9 f6 (.op .len (b9 f5)))) (.seq (.ret (bA (bA (.op (.slc false true) (a9 d8 d7)) (.op .lst (b9 (bA (.op (.slc false true) (a9 f5 f6)) (.op (.slc true false) (a9 f5 (bA f6 f7))))))) (.op (.slc true false) (a9 d8 (bA d7 f7))))) .nil) .nil) (.seq (.ret (bA (bA (.op (.slc false true) (a9 d8 d7)) (.op .lst (b9 (bA f5 (.op .idx (a9 d8 (bA d7 f7))))))) (.op (.slc true false) (a9 d8 (bA d7 j4))))) .nil)))⟩
noncomputable def kT : FnDef := ⟨0, "_law_deed", ["_law_rows", "_law_cell"], ["_law_row", "_law_place", "_law_some", "_law_sign"], (.seq (.assign (.loc 2) (bM (bM (bX d7 x2G) x2j) (.op .len (b9 d8)))) (.seq (.assign (.loc 3) (bM (bM (bX d7 bJ) Z2) (bA (.op .len (b9 (.op .idx (a9 d8 f6)))) f7))) (.seq (.iff (.cmp .Lt (a9 (bM d7 aQ) B8)) (.seq (.assign (.loc 4) Z0) (.seq (.assign (.loc 5) (.op .idx (a9 g7 (bM (bM (bX d7 I9) hU) cV)))) (.seq (.iff (.or (.and (.cmp .Eq (a9 i8 (.lit (.str (S [10]))))) (.cmp .Eq (a9 (.op .len (b9 d8)) dF))) (.and (.cmp .NotEq (a9 i8 (.lit (.str (S [10]))))) (.cmp .Eq (a9 (.op .len (b9 (.op .idx (a9 d8 f6)))) R7)))) (.seq (.ret (.lit .none)) .nil) .nil) (.seq (.ret (.op .tup (Q6 j0 f6 f5 i8))) .nil)))) .nil) dC)))⟩
end Mine.Internal.S
end
section
namespace Mine.Internal
theorem lK {U : Nat -> Fn} {st st1 st2 : St} {o : Op} {r es : CE} {q : Str} {ys : List F} (h1 : ev U r st = .ok [.val (.str q)] st1) (h2 : ev U es st1 = .ok ys st2) : ev U (.sm o r es) st = o3 o (.val (.str q) :: ys) st2 := by
 show (ev U r st).bind _ = _
 rw [h1]
 show (ev U es st1).bind _ = _
 rw [h2]; rfl
end Mine.Internal
namespace Mine.Internal.S
theorem cB : ∀ (a b wt : List Mk), lf (a ++ b) wt = match lf a wt with | .inl f => .inl f | .inr wt' => lf b wt'
 | [], b, wt => rfl
 | m :: a, b, wt => by
  rw [List.cons_append, lf, lf]
  by_cases hc : isCl m.1 = true
  . simp only [hc, if_true]
    cases wt.getLast? with
    | none => rfl
    | some t =>
     dsimp only
     by_cases ho : t.1 = p5 m.1
     . simp only [ho, if_true]; exact cB a b _
     . simp only [ho, if_false]
  . simp only [hc, if_false]; exact cB a b _
noncomputable def M2 (wt : List Mk) : Prop := ∀ m ∈ wt, isOp m.1 = true
noncomputable def J1 (c r i : Nat) (wt : List Mk) : Fa ⊕ List Mk := if m8 c then lf [(c, r, i)] wt else .inr wt
noncomputable abbrev fS (t : Option F) (wt : List Mk) (r : Nat) (s3 s4 : Option F) : St := ⟨[t, some (.own (encL wt)), some (.val (.int r)), s3, s4], [], 0⟩
section
variable {U : Nat -> Fn} {t : Option F} {wt : List Mk} {r i c : Nat}
theorem x0o {o c : Nat} (ho : isOp o = true) (hc : isCl c = true) : (B1 [40, 91, 123] o == B1 [41, 93, 125] c) = decide (o = p5 c) := by
 have h1 : o = 40 \/ o = 91 \/ o = 123 := by simpa [isOp] using ho
 have h2 : c = 41 \/ c = 93 \/ c = 125 := by simpa [isCl] using hc
 rcases h1 with rfl | rfl | rfl <;> rcases h2 with rfl | rfl | rfl <;> rfl
theorem x0V (h : isOp c = true) : isCl c = false := by
 have h1 : c = 40 \/ c = 91 \/ c = 123 := by simpa [isOp] using h
 rcases h1 with rfl | rfl | rfl <;> rfl
theorem mD {l : List Nat} {st : St} (hs : slot st.v 4 = some (.val (sgn c))) : ev U (.cmp .In (a9 g7 (.lit (.str (S l))))) st = .ok [bV (decide (c ∈ l))] st := by
 rw [<- jL]
 exact k9 (u := sgn c) (v := .str (S l)) (d5 (f := .val (sgn c)) (F6 hs) rfl) rfl
theorem P9 {m : Mk} : encL wt ++ [encM m] = encL (wt ++ [m]) := by unfold encL; rw [List.map_append]; rfl
theorem x5v (hw : M2 wt) (hz : wt.length <= 90000) (s3 s4 : Option F) : ∃ v', stepB U true [3, 4] fB (.tuple [.int i, sgn c]) (fS t wt r s3 s4) = match J1 c r i wt with
  | .inl f => .ok (.ret (.val (q4 f))) ⟨v', [], 0⟩
  | .inr wt' => .ok .next (fS t wt' r (sI i) (sG c)) := by
 have e1 : ∀ {w : List Mk}, ev U _ (fS t w r (sI i) (sG c)) = .ok [bV (isOp c)] _ := mD (l := [40, 91, 123]) rfl
 have e2 : ∀ {w : List Mk}, ev U _ (fS t w r (sI i) (sG c)) = .ok [bV (isCl c)] _ := mD (l := [41, 93, 125]) rfl
 have hz1 : okLen (encL wt).length = true := i6 (by rw [A2]; lia)
 unfold J1
 rw [C5]
 cases ho : isOp c with
 | true =>
  rw [ho] at e1
  have hc := x0V ho
  rw [hc] at e2 ⊢
  have e3 : ex U iV (fS t wt r (sI i) (sG c)) = .ok .next (fS t (wt ++ [(c, r, i)]) r (sI i) (sG c)) := (i9 e1).trans ((d4 (N7 (xs := encL wt) (d := encM (c, r, i)) rfl hz1 rfl (show 1 < 5 by decide))).trans (by rw [P9]; rfl))
  refine ⟨[], (p8 rfl).trans ((d4 e3).trans ((j3 e2).trans ?_))⟩
  show _ = match lf [(c, r, i)] wt with | .inl f => _ | .inr wt' => _
  rw [lf, show isCl (c, r, i).1 = false from hc]
  rfl
 | false =>
  rw [ho] at e1
  have e3 : ∀ {s : CS}, ex U (.seq iV s) (fS t wt r (sI i) (sG c)) = ex U s (fS t wt r (sI i) (sG c)) := j3 e1
  cases hc : isCl c with
  | false =>
   rw [hc] at e2
   exact ⟨[], (p8 rfl).trans (e3.trans ((j3 e2).trans rfl))⟩
  | true =>
   rw [hc] at e2
   rw [if_pos (show (false || true) = true from rfl), lf, show isCl (c, r, i).1 = true from hc]
   cases hl : wt.getLast? with
   | none =>
    cases List.getLast?_eq_none_iff.mp hl
    exact ⟨_, (p8 rfl).trans (e3.trans (f8 ((i9 e2).trans (f8 ((i9 (J8 (f := .own []) rfl rfl)).trans (f8 (k4 rfl)))))))⟩
   | some tp =>
    obtain ⟨ws, rfl⟩ := List.getLast?_eq_some_iff.mp hl
    have g1 : (encL (ws ++ [tp])).getLast? = some (encM tp) := by rw [<- P9]; exact List.getLast?_concat ..
    have g2 : (encL (ws ++ [tp])).dropLast = encL ws := by rw [<- P9]; exact List.dropLast_concat ..
    have g3 : ev U (.cmpNil false (.loc 1)) (fS t (ws ++ [tp]) r (sI i) (sG c)) = .ok [bV false] (fS t (ws ++ [tp]) r (sI i) (sG c)) := (J8 (f := .own (encL (ws ++ [tp]))) rfl rfl).trans (by rw [<- P9]; cases encL ws <;> rfl)
    have g4 : ev U (.peek .pop (.loc 1) .nil) (fS t (ws ++ [tp]) r (sI i) (sG c)) = .ok [.val (encM tp)] (fS t ws r (sI i) (sG c)) := (iM (xs := encL (ws ++ [tp])) rfl hz1 g1 (show 1 < 5 by decide)).trans (by rw [g2]; rfl)
    have g5 : ev U (.op .idx (a9 (.peek .pop (.loc 1) .nil) j0)) (fS t (ws ++ [tp]) r (sI i) (sG c)) = .ok [.val (sgn tp.1)] (fS t ws r (sI i) (sG c)) := (d6 (fs := [.val (encM tp), .val (.int 0)]) (d5 (f := .val (encM tp)) g4 rfl)).trans rfl
    have g6 := k9 (U := U) (op := .NotEq) (u := .int (B1 [40, 91, 123] tp.1)) (v := .int (B1 [41, 93, 125] c)) (q := !(B1 [40, 91, 123] tp.1 == B1 [41, 93, 125] c)) (f0 (i := (B1 [40, 91, 123] tp.1)) ((lK (o := .find) (r := .lit (.str (S [40, 91, 123]))) (q := S [40, 91, 123]) rfl (d5 (b := .nil) (f := .val (sgn tp.1)) g5 rfl)).trans rfl) (f0 (b := .nil) (i := (B1 [41, 93, 125] c)) ((lK (o := .find) (r := .lit (.str (S [41, 93, 125]))) (es := .cons g7 .nil) (q := S [41, 93, 125]) rfl (d5 (b := .nil) (f := .val (sgn c)) rfl rfl)).trans rfl) rfl)) rfl
    rw [x0o (hw tp (List.mem_append_right _ (.head _))) hc] at g6
    dsimp only
    by_cases hq : tp.1 = p5 c
    . rw [dtt hq] at g6
      rw [if_pos (show tp.1 = p5 (c, r, i).1 from hq), List.dropLast_concat]
      exact ⟨[], (p8 rfl).trans (e3.trans ((d4 ((i9 e2).trans ((j3 g3).trans ((j3 g6).trans rfl)))).trans rfl))⟩
    . rw [dff hq] at g6
      rw [if_neg (show ¬ tp.1 = p5 (c, r, i).1 from hq)]
      exact ⟨_, (p8 rfl).trans (e3.trans (f8 ((i9 e2).trans ((j3 g3).trans (f8 ((i9 g6).trans (f8 (k4 rfl))))))))⟩
end
end Mine.Internal.S
end
section
namespace Mine.Internal.S
section
variable {U : Nat -> Fn} {t : Option F} {wt : List Mk} {r i c : Nat} {rows : LL}
theorem xD (r i c : Nat) (rest : List Nat) (wt : List Mk) : lf ((q6 i (c :: rest)).map (low r)) wt = match J1 c r i wt with
  | .inl f => .inl f
  | .inr wt' => lf ((q6 (i + 1) rest).map (low r)) wt' := by
 unfold J1
 rw [q6]
 cases m8 c with
 | false => rfl
 | true =>
  rw [if_pos rfl, if_pos rfl, List.map_cons, show low r (c, 0, i) = (c, r, i) by unfold low; rw [Nat.zero_add]]
  exact cB [(c, r, i)] _ wt
theorem x2R {wt' : List Mk} (hw : M2 wt) (h : J1 c r i wt = .inr wt') : M2 wt' /\ wt'.length <= wt.length + 1 := by
 unfold J1 at h
 rw [C5] at h
 cases hc : isCl c with
 | true =>
  rw [hc, Bool.or_true, if_pos rfl, lf, show isCl (c, r, i).1 = true from hc, if_pos rfl] at h
  cases hl : wt.getLast? with
  | none => rw [hl] at h; cases h
  | some tp =>
   rw [hl] at h
   dsimp only at h
   split at h
   . cases h
     exact ⟨fun m hm => hw m (List.dropLast_subset _ hm), by rw [List.length_dropLast]; lia⟩
   . cases h
 | false =>
  rw [hc, Bool.or_false] at h
  cases ho : isOp c with
  | false =>
   rw [ho] at h
   cases h
   exact ⟨hw, Nat.le_succ _⟩
  | true =>
   rw [ho, if_pos rfl, lf, show isCl (c, r, i).1 = false from hc, if_neg Bool.false_ne_true] at h
   cases h
   exact ⟨fun m hm => by
    rcases List.mem_append.mp hm with hm | hm
    . exact hw m hm
    . rw [lsm hm]; exact ho, by rw [lap]; exact Nat.le_refl _⟩
theorem uY (r : Nat) : ∀ (rest : List Nat) (i : Nat) (wt : List Mk) (s3 s4 : Option F), M2 wt -> wt.length + rest.length <= 90000 -> match lf ((q6 i rest).map (low r)) wt with
  | .inl f => ∃ v', forL (stepB U true [3, 4] fB) (enumFrom i (rest.map sgn)) (fS t wt r s3 s4) = .ok (.ret (.val (q4 f))) ⟨v', [], 0⟩
  | .inr wt' => (M2 wt' /\ wt'.length <= wt.length + rest.length) /\ ∃ s3' s4', forL (stepB U true [3, 4] fB) (enumFrom i (rest.map sgn)) (fS t wt r s3 s4) = .ok .next (fS t wt' r s3' s4')
 | [], i, wt, s3, s4, hw, _ => ⟨⟨hw, Nat.le_refl _⟩, s3, s4, rfl⟩
 | c :: rest, i, wt, s3, s4, hw, hz => by
  have hz : wt.length + (rest.length + 1) <= 90000 := hz
  obtain ⟨v', e1⟩ := x5v (U := U) (t := t) (r := r) (i := i) (c := c) hw (by lia) s3 s4
  rw [xD]
  cases ho : J1 c r i wt with
  | inl f =>
   rw [ho] at e1
   exact ⟨v', T5 e1⟩
  | inr w =>
   rw [ho] at e1
   obtain ⟨h1, h2⟩ := x2R hw ho
   have ih := uY r rest (i + 1) w (sI i) (sG c) h1 (by lia)
   dsimp only
   cases hl : lf ((q6 (i + 1) rest).map (low r)) w with
   | inl f =>
    rw [hl] at ih
    obtain ⟨v', ih⟩ := ih
    exact ⟨v', (u6 e1).trans ih⟩
   | inr w' =>
    rw [hl] at ih
    obtain ⟨⟨h3, h4⟩, s3', s4', ih⟩ := ih
    exact ⟨⟨h3, by rw [List.length_cons]; lia⟩, s3', s4', (u6 e1).trans ih⟩
theorem x2K {all : LL} {l : List Nat} (h : n4 l = true) (ha : all.length <= 64) (hl : all[r]? = some l) (s2 s3 s4 : Option F) : stepB U false [2] gB (.int r) ⟨[some (vR all), some (.own (encL wt)), s2, s3, s4], [], 0⟩ = (forL (stepB U true [3, 4] fB) (enumFrom 0 (l.map sgn)) (fS (sR all) wt r s3 s4)).bind fun fl st => match fl with
  | .next => .ok .next st
  | .ret f => .ok (.ret f) st := by
 have hi : (sRows all)[r]? = some (strD l) := by unfold sRows; rw [List.getElem?_map, hl]; rfl
 have hk := n9 h
 refine (p8 (st1 := fS (sR all) wt r s3 s4) rfl).trans ?_
 show (ex U (.loop true [3, 4] 2 _ fB) _).bind _ = _
 rw [A9 (t8 (fs := [.val (strD l)]) (m6 (l := l) ((d6 (fs := [.val (.list (sRows all)), .val (.int r)]) rfl).trans (V4 (by rw [k8]; lia) hi)) rfl) (show itF 2 _ [.val (strD l)] = some (enumFrom 0 (l.map sgn)) by
  show (((gd (okLen l.length) (l.map sgn)).or none)).map (enumFrom 0) = _
  rw [i6 (by lia)]; rfl))]
 rfl
theorem qM (all : LL) (ha : all.length <= 64) : ∀ (rest pre : LL) (wt : List Mk) (s2 s3 s4 : Option F), all = pre ++ rest -> T0 rest -> M2 wt -> wt.length + 120 * rest.length <= 80000 ->
  match lf (marksAll pre.length rest) wt with
   | .inl f => ∃ v', forL (stepB U false [2] gB) ((List.range' pre.length rest.length).map fun (k : Nat) => PyData.int k) ⟨[some (vR all), some (.own (encL wt)), s2, s3, s4], [], 0⟩ = .ok (.ret (.val (q4 f))) ⟨v', [], 0⟩
   | .inr wt' => wt'.length <= wt.length + 120 * rest.length /\ ∃ s2' s3' s4', forL (stepB U false [2] gB) ((List.range' pre.length rest.length).map fun (k : Nat) => PyData.int k) ⟨[some (vR all), some (.own (encL wt)), s2, s3, s4], [], 0⟩ = .ok .next ⟨[some (vR all), some (.own (encL wt')), s2', s3', s4'], [], 0⟩
 | [], pre, wt, s2, s3, s4, _, _, _, _ => ⟨Nat.le_refl _, s2, s3, s4, rfl⟩
 | l :: rest, pre, wt, s2, s3, s4, hA, hr, hw, hz => by
  have hz : wt.length + 120 * (rest.length + 1) <= 80000 := hz
  have hl := hr l (.head _)
  have hll := n9 hl
  have hg : all[pre.length]? = some l := by rw [hA, List.getElem?_append_right (Nat.le_refl _), Nat.sub_self]; rfl
  have row := uY (U := U) (t := some (vR all)) pre.length l 0 wt s3 s4 hw (by lia)
  have e1 := x2K (U := U) (wt := wt) hl ha hg s2 s3 s4
  rw [marksAll, cB, List.length_cons, List.range'_succ, List.map_cons]
  cases hf : lf ((q6 0 l).map (low pre.length)) wt with
  | inl f =>
   rw [hf] at row
   obtain ⟨v', row⟩ := row
   rw [row] at e1
   exact ⟨v', T5 e1⟩
  | inr w =>
   rw [hf] at row
   obtain ⟨⟨h1, h2⟩, s3', s4', row⟩ := row
   rw [row] at e1
   have ih := qM all ha rest (pre ++ [l]) w (sI pre.length) s3' s4' (by rw [hA, List.append_assoc]; rfl) (fun k hk => hr k (.tail _ hk)) h1 (by lia)
   rw [show (pre ++ [l]).length = pre.length + 1 from lap] at ih
   dsimp only
   cases hl2 : lf (marksAll (pre.length + 1) rest) w with
   | inl f =>
    rw [hl2] at ih
    obtain ⟨v', ih⟩ := ih
    exact ⟨v', (u6 e1).trans ih⟩
   | inr w' =>
    rw [hl2] at ih
    obtain ⟨h3, s2', s3', s4', ih⟩ := ih
    exact ⟨by lia, s2', s3', s4', (u6 e1).trans ih⟩
theorem x3H (h : OkText rows) : B U tR [.val (.list (sRows rows))] = .ret (.val (q4 (faultR (rd rows)))) [] := by
 have hm := h.most
 unfold rd
 rw [vX]
 have hr := qM (U := U) rows hm rows [] [] none none none rfl h.rows (fun m hm => nomatch hm) (by show 0 + _ <= _; lia)
 have el := A9 (many := false) (is := [2]) (body := gB) (t8 (kd := 1) (e := .cons (.op .len (b9 d8)) .nil) (U := U) (st := ⟨[some (vR rows), some (.own []), none, none, none], [], 0⟩) (st1 := ⟨[some (vR rows), some (.own []), none, none, none], [], 0⟩) (fs := [.val (.int rows.length)]) (xs := (List.range' 0 rows.length).map fun (k : Nat) => PyData.int k) (f0 (i := rows.length) ((d6 (fs := [.val (.list (sRows rows))]) rfl).trans ((vZ (by rw [k8]; lia)).trans (by rw [k8]))) rfl) (by
  show ((rangeF 0 (rows.length : Int)).or _) = _
  rw [fE (by lia) (by lia), Int.toNat_natCast, List.range_eq_range']; rfl))
 dsimp only [List.length_nil] at hr
 cases hf : lf (marksAll 0 rows) [] with
 | inl f =>
  rw [hf] at hr
  obtain ⟨v', hr⟩ := hr
  exact j2 rfl ((d4 rfl).trans (f8 (el.trans hr)))
 | inr w =>
  rw [hf] at hr
  obtain ⟨hz, s2, s3, s4, hr⟩ := hr
  have e2 : ev U (.cmpNil true (.loc 1)) ⟨[some (vR rows), some (.own (encL w)), s2, s3, s4], [], 0⟩ = .ok [bV (!(encL w).isEmpty)] _ := J8 (f := .own (encL w)) rfl rfl
  dsimp only
  unfold cJ
  cases hl : w.getLast? with
  | none =>
   cases List.getLast?_eq_none_iff.mp hl
   exact j2 rfl ((d4 rfl).trans ((d4 (el.trans hr)).trans ((j3 e2).trans (f8 (k4 rfl)))))
  | some m =>
   obtain ⟨ws, rfl⟩ := List.getLast?_eq_some_iff.mp hl
   have e3 : ev U (.peek .idx (.loc 1) (b9 (.op .neg (b9 f7)))) ⟨[some (vR rows), some (.own (encL (ws ++ [m]))), s2, s3, s4], [], 0⟩ = .ok [.val (encM m)] ⟨[some (vR rows), some (.own (encL (ws ++ [m]))), s2, s3, s4], [], 0⟩ := M4 (f := .own (encL (ws ++ [m]))) (m := -1) rfl rfl rfl (by
    rw [<- P9]; exact iS (by rw [A2]; have : (ws ++ [m]).length = ws.length + 1 := lap; simp at hz; lia))
   have e4 : (!(encL (ws ++ [m])).isEmpty) = true := by rw [<- P9]; cases encL ws <;> rfl
   rw [e4] at e2
   exact j2 rfl ((d4 rfl).trans ((d4 (el.trans hr)).trans (f8 ((i9 e2).trans (f8 (k4 (d := q4 (.lft m.2.1 m.2.2)) ((d6 (fs := [.val (.int m.2.1), .val (.int m.2.2), .val (strD [108, 101, 102, 116, 32, 111, 112, 101, 110])]) (f0 (i := m.2.1) ((d6 (fs := [.val (encM m), .val (.int 1)]) (d5 e3 rfl)).trans rfl) (f0 (i := m.2.2) ((d6 (fs := [.val (encM m), .val (.int 2)]) (d5 e3 rfl)).trans rfl) rfl))).trans rfl)))))))
end
section
variable {U : Nat -> Fn} {rows : LL} {r p c : Nat} {ln l2 : List Nat}
theorem aO {d : PyData} (hi : asI d = none) (hs : asS d = none) (h : L6 d = true) : eqF d d = some true := by
 unfold eqF o8
 rw [hi, hs, h]
 exact congrArg some (PySem.SeqAt.eqv_refl d (and2 h).1)
theorem C7 {st : St} {a b : CE} (h : OkText rows) (hr : rows[r]? = some ln) (ha : ev U a st = .ok [.val (.list (sRows rows))] st) (hb : ev U b st = .ok [.val (.int r)] st) : ev U (.op .idx (a9 a b)) st = .ok [.val (strD ln)] st :=
 (d6 (d5 (f := .val (.list (sRows rows))) ha (f0 (i := r) hb rfl))).trans (V4 (by rw [k8]; have := h.most; lia) (by unfold sRows; rw [List.getElem?_map, hr]; rfl))
theorem uG {st : St} {a b : CE} (hl : ln.length <= 120) (hp : p <= 1000) (ha : ev U a st = .ok [.val (strD ln)] st) (hb : ev U b st = .ok [.val (.int p)] st) : ev U (.op (.slc false true) (a9 a b)) st = .ok [.val (strD (ln.take p))] st :=
 (d6 (m6 (l := ln) ha (f0 (i := p) hb rfl))).trans (H8 (nlt hl (by decide)) (nlt hp (by decide)))
theorem nV {st : St} {a b : CE} (hl : ln.length <= 120) (hp : p <= 1000) (ha : ev U a st = .ok [.val (strD ln)] st) (hb : ev U b st = .ok [.val (.int p)] st) : ev U (.op (.slc true false) (a9 a b)) st = .ok [.val (strD (ln.drop p))] st :=
 (d6 (m6 (l := ln) ha (f0 (i := p) hb rfl))).trans (Q5 (nlt hl (by decide)) (nlt hp (by decide)))
theorem bY {st : St} {a b : CE} {x y : List Nat} (hx : x.length <= 1000) (hy : y.length <= 1000) (ha : ev U a st = .ok [.val (strD x)] st) (hb : ev U b st = .ok [.val (strD y)] st) : ev U (bA a b) st = .ok [.val (strD (x ++ y))] st :=
 (d6 (m6 (l := x) ha (m6 (l := y) hb rfl))).trans (v6 (nlt (Nat.add_le_add hx hy) (by decide)))
theorem E4 {st : St} {a : CE} (hl : ln.length <= 120) (ha : ev U a st = .ok [.val (strD ln)] st) : ev U (.op .len (b9 a)) st = .ok [.val (.int ln.length)] st :=
 (d6 (m6 (l := ln) ha rfl)).trans (F1 (nlt hl (by decide)))
theorem V6 {st : St} {a : CE} (h : OkText rows) (ha : ev U a st = .ok [.val (.list (sRows rows))] st) : ev U (.op .len (b9 a)) st = .ok [.val (.int rows.length)] st :=
 (d6 (d5 (f := .val (.list (sRows rows))) ha rfl)).trans ((vZ (by rw [k8]; have := h.most; lia)).trans (by rw [k8]))
noncomputable def linesP (ln : List Nat) (p c : Nat) : LL := if c = 10 then [ln.take p, ln.drop p] else [u8 ln p c]
theorem zT : (linesP ln p c).length <= 2 := by
 unfold linesP; split
 . exact Nat.le_refl 2
 . exact Nat.le_succ 1
theorem sM (hl : ln.length <= 120) : (ln.take p).length <= 120 := nlt (List.length_take_le' ..) hl
theorem pY (hl : ln.length <= 120) : (ln.drop p).length <= 120 := nlt (by rw [List.length_drop]; exact Nat.sub_le ..) hl
noncomputable abbrev y3 (rows : LL) (r p c : Nat) (a b : Option F) : St := ⟨[some (vR rows), some (.val (.int r)), some (.val (.int p)), some (.val (sgn c)), a, b], [], 0⟩
theorem x3j (h : OkText rows) (hr : rows[r]? = some ln) (hp : p <= ln.length) : B U rQ [.val (.list (sRows rows)), .val (.int r), .val (.int p), .val (sgn c)] = .ret (.own (sRows (splice rows (linesP ln p c) r 1))) [] := by
 obtain ⟨hi, _⟩ := n5 hr
 have hm := h.most
 have hl := n9 (h.rows ln (mog hr))
 have hp' : p <= 1000 := nlt hp (big hl)
 have e1 : ex U (.assign (.loc 4) _) (y3 rows r p c none none) = .ok .next (y3 rows r p c (sT ln) none) := (j5 (C7 (a := .get (.loc 0)) (b := .get (.loc 1)) h hr rfl rfl)).trans rfl
 have a1 : ∀ {b : Option F}, ev U (.op (.slc false true) (a9 g7 f6)) (y3 rows r p c (sT ln) b) = .ok [.val (strD (ln.take p))] _ := uG hl hp' rfl rfl
 have a2 : ∀ {b : Option F}, ev U (.op (.slc true false) (a9 g7 f6)) (y3 rows r p c (sT ln) b) = .ok [.val (strD (ln.drop p))] _ := nV hl hp' rfl rfl
 have t1 : (ln.take p).length <= 120 := sM hl
 have t2 : (ln.drop p).length <= 120 := pY hl
 have a3 : ev U _ (y3 rows r p c (sT ln) none) = .ok [.val (strD (u8 ln p c))] (y3 rows r p c (sT ln) none) := bY (x := ln.take p ++ [c]) (by rw [lap]; exact big (Nat.add_le_add_right t1 1)) (big t2) (bY (y := [c]) (b := .get (.loc 3)) (big t1) (show 1 <= 1000 by decide) a1 rfl) a2
 have e2 : ex U (.assign (.loc 5) (.op .lst (b9 _))) (y3 rows r p c (sT ln) none) = .ok .next (y3 rows r p c (sT ln) (some (.own (sRows [u8 ln p c])))) := (j5 ((d6 (m6 (l := (u8 ln p c)) a3 rfl)).trans rfl)).trans rfl
 have e3 : ex U (.iff (.cmp .Eq (a9 f5 (.lit (.str (S [10]))))) (.seq (.assign (.loc 5) (.op .lst (a9 (.op (.slc false true) (a9 g7 f6)) (.op (.slc true false) (a9 g7 f6))))) .nil) .nil) (y3 rows r p c (sT ln) (some (.own (sRows [u8 ln p c])))) = .ok .next (y3 rows r p c (sT ln) (some (.own (sRows (linesP ln p c))))) := by
  have q := k9 (U := U) (op := .Eq) (es := .cons f5 (b9 (.lit (.str (S [10]))))) (st := y3 rows r p c (sT ln) (some (.own (sRows [u8 ln p c])))) (u := sgn c) (v := .str (S [10])) (q := [c] == [10]) rfl rfl
  unfold linesP
  by_cases hc : c = 10
  . rw [if_pos hc]
    rw [show ([c] == [10]) = true by rw [hc]; rfl] at q
    exact (i9 q).trans ((d4 ((j5 ((d6 (m6 (l := (ln.take p)) a1 (m6 (l := (ln.drop p)) a2 rfl))).trans rfl)).trans rfl)).trans rfl)
  . rw [if_neg hc]
    rw [show ([c] == [10]) = false from w2 fun z => hc (List.cons.inj (eq_of_beq z)).1] at q
    exact (o5 q).trans rfl
 have e4 := K9 (U := U) (p := .loc 0) (E := .get (.loc 5)) (rE := .get (.loc 1)) (gE := .lit (.int 1)) (r := r) (g := 1) (f := .val (.list (sRows (linesP ln p c)))) (xs := sRows rows) (ys := sRows (linesP ln p c)) (st := y3 rows r p c (sT ln) (some (.own (sRows (linesP ln p c))))) (st1 := y3 rows r p c (sT ln) (some (.own (sRows (linesP ln p c))))) (st2 := y3 rows r p c (sT ln) (some (.val (.list (sRows (linesP ln p c)))))) rfl rfl rfl rfl rfl rfl rfl (by rw [k8]; lia) (by rw [k8]; exact nlt zT (by decide)) (by lia)
 rw [show splice (sRows rows) (sRows (linesP ln p c)) r 1 = sRows (splice rows (linesP ln p c) r 1) from P6 ..] at e4
 exact j2 rfl ((d4 e1).trans ((d4 e2).trans ((d4 e3).trans (f8 (D1 e4)))))
noncomputable abbrev u0 (rows : LL) (r p : Nat) (a : Option F) : St := ⟨[some (vR rows), some (.val (.int r)), some (.val (.int p)), a], [], 0⟩
theorem mY (hl : ln.length <= 120) : ev U (.cmp .Lt (a9 f6 (.op .len (b9 f5)))) (u0 rows r p (sT ln)) = .ok [bV (decide (p < ln.length))] (u0 rows r p (sT ln)) :=
 (k9 (u := .int p) (v := .int ln.length) (f0 (i := p) rfl (f0 (i := ln.length) (E4 hl rfl) rfl)) rfl).trans (congrArg (fun q => Mine.Internal.R.ok [bV q] _) (decide_eq_decide.mpr Int.ofNat_lt))
theorem x0Z (h : OkText rows) (hr : rows[r]? = some ln) (hp : p < ln.length) : B U W8 [.val (.list (sRows rows)), .val (.int r), .val (.int p)] = .ret (.own (sRows (splice rows [delL ln p] r 1))) [] := by
 obtain ⟨hi, _⟩ := n5 hr
 have hm := h.most
 have hl := n9 (h.rows ln (mog hr))
 have e1 : ex U (.assign (.loc 3) _) (u0 rows r p none) = .ok .next (u0 rows r p (sT ln)) := (j5 (C7 (a := .get (.loc 0)) (b := .get (.loc 1)) h hr rfl rfl)).trans rfl
 have e2 : ev U _ (u0 rows r p (sT ln)) = _ := mY hl
 rw [dtt hp] at e2
 have a3 : ev U _ (u0 rows r p (sT ln)) = .ok [.val (strD (delL ln p))] (u0 rows r p (sT ln)) := bY (nlt (sM hl) (by decide)) (nlt (pY hl) (by decide)) (uG (a := .get (.loc 3)) (b := .get (.loc 2)) (p := p) hl (by lia) rfl rfl) (nV (a := .get (.loc 3)) (b := .op (.bin .Add) (a9 f6 f7)) (p := p + 1) hl (by lia) rfl rfl)
 have e4 := K9 (U := U) (p := .loc 0) (rE := .get (.loc 1)) (gE := .lit (.int 1)) (r := r) (g := 1) (f := .own (sRows [delL ln p])) (xs := sRows rows) (ys := sRows [delL ln p]) (st := u0 rows r p (sT ln)) (st1 := u0 rows r p (sT ln)) (st2 := u0 rows r p (sT ln)) rfl rfl ((d6 (o := .lst) (m6 (b := .nil) (l := (delL ln p)) a3 rfl)).trans rfl) rfl rfl rfl rfl (by rw [k8]; lia) (by rw [k8]; exact show 1 <= 1000 by decide) (by lia)
 rw [show splice (sRows rows) (sRows [delL ln p]) r 1 = sRows (splice rows [delL ln p] r 1) from P6 ..] at e4
 exact j2 rfl ((d4 e1).trans (f8 ((i9 e2).trans (f8 (D1 e4)))))
theorem x6N (h : OkText rows) (hr : rows[r]? = some ln) (hr2 : rows[r + 1]? = some l2) (hp : p = ln.length) : B U W8 [.val (.list (sRows rows)), .val (.int r), .val (.int p)] = .ret (.own (sRows (splice rows [ln ++ l2] r 2))) [] := by
 obtain ⟨hi, _⟩ := n5 hr2
 have hm := h.most
 have hl := n9 (h.rows ln (mog hr))
 have hl2 := n9 (h.rows l2 (mog hr2))
 have e1 : ex U (.assign (.loc 3) _) (u0 rows r p none) = .ok .next (u0 rows r p (sT ln)) := (j5 (C7 (a := .get (.loc 0)) (b := .get (.loc 1)) h hr rfl rfl)).trans rfl
 have e2 : ev U _ (u0 rows r p (sT ln)) = _ := mY hl
 rw [dff (by lia)] at e2
 have a3 : ev U _ (u0 rows r p (sT ln)) = .ok [.val (strD (ln ++ l2))] (u0 rows r p (sT ln)) := bY (a := .get (.loc 3)) (nlt hl (by decide)) (nlt hl2 (by decide)) rfl (C7 (a := .get (.loc 0)) (b := .op (.bin .Add) (a9 d7 f7)) h hr2 rfl rfl)
 have e4 := K9 (U := U) (p := .loc 0) (rE := .get (.loc 1)) (gE := .lit (.int 2)) (r := r) (g := 2) (f := .own (sRows [ln ++ l2])) (xs := sRows rows) (ys := sRows [ln ++ l2]) (st := u0 rows r p (sT ln)) (st1 := u0 rows r p (sT ln)) (st2 := u0 rows r p (sT ln)) rfl rfl ((d6 (o := .lst) (m6 (b := .nil) (l := (ln ++ l2)) a3 rfl)).trans rfl) rfl rfl rfl rfl (by rw [k8]; lia) (by rw [k8]; exact show 1 <= 1000 by decide) (by lia)
 rw [show splice (sRows rows) (sRows [ln ++ l2]) r 2 = sRows (splice rows [ln ++ l2] r 2) from P6 ..] at e4
 exact j2 rfl ((d4 e1).trans ((j3 e2).trans (f8 (D1 e4))))
end
section
variable {U : Nat -> Fn} {rows : LL} {r p c : Nat} {ln l2 : List Nat} {X : Int}
theorem uE {a b : Int} {st : St} (h : (b != 0) = true) : o3 (.bin .Mod) [.val (.int a), .val (.int b)] st = .ok [.val (.int (a.fmod b))] st := by
 show oneO (gd (b != 0) (F.val (.int (a.fmod b)))) st = _
 rw [h]; rfl
theorem X1 (a : Int) {n : Nat} (hn : 0 < n) : ∃ r : Nat, r < n /\ a.fmod n = r := by
 have h1 := F9 a (b := n) (by lia)
 have h2 := H7 a (b := n) (by lia)
 exact ⟨(a.fmod n).toNat, by lia, by lia⟩
theorem eQ {st : St} {a b : CE} {k m : Int} {n : Nat} (hk : small k = true) (hm : (m != 0) = true) (hn : 0 < n) (ha : ev U a st = .ok [.val (.int X)] st) (hb : ev U b st = .ok [.val (.int n)] st) : ∃ r : Nat, r < n /\ ev U (bM (bM (bX a (.lit (.int k))) (.lit (.int m))) b) st = .ok [.val (.int r)] st := by
 obtain ⟨r, h1, h2⟩ := X1 ((X * k).fmod m) hn
 refine ⟨r, h1, ?_⟩
 rw [<- h2]
 exact (d6 (f0 (i := ((X * k).fmod m)) ((d6 (f0 (i := (X * k)) ((d6 (f0 (i := X) ha rfl)).trans (V1 (.inr hk))) rfl)).trans (uE hm)) (f0 (i := n) hb rfl))).trans (uE (bne_iff_ne.mpr (by lia)))
inductive Deed (rows : LL) : PyData -> Prop where
 | no : Deed rows .none
 | put (r p c : Nat) (ln : List Nat) (hr : rows[r]? = some ln) (hp : p <= ln.length) (h : (c = 10 /\ rows.length < 64) \/ (m5 c = true /\ ln.length < 120)) : Deed rows (.tuple [.int 0, .int r, .int p, sgn c])
 | cut (r p : Nat) (ln : List Nat) (hr : rows[r]? = some ln) (h : p < ln.length \/ (p = ln.length /\ ∃ l2, rows[r + 1]? = some l2 /\ ln.length + l2.length <= 120)) : Deed rows (.tuple [.int 1, .int r, .int p, .str (S [])])
noncomputable abbrev dS (rows : LL) (X : Int) (a b c d : Option F) : St := ⟨[some (vR rows), some (.val (.int X)), a, b, c, d], [], 0⟩
noncomputable def dL (X : Int) : List Nat := [40, 41, 91, 93, 123, 125, 10, 32, 97, s7 (X.fdiv 11)]
theorem x1y : ∀ c ∈ dL X, c = 10 \/ m5 c = true := fun c hc => by
 unfold dL at hc
 simp only [List.mem_cons, List.not_mem_nil, or_false] at hc
 rcases hc with rfl | rfl | rfl | rfl | rfl | rfl | rfl | rfl | rfl | rfl
 all_goals first | exact .inl rfl | exact .inr rfl | exact .inr (gA _)
theorem zK (h31 : z9 U) (h : OkText rows) (hr : rows[r]? = some ln) (hp : p <= ln.length) : ∃ d v', Deed rows d /\ ex U dP (dS rows X (sI r) (sI p) none none) = .ok (.ret (.val d)) ⟨v', [], 0⟩ := by
 have hm := h.most
 have hl := n9 (h.rows ln (mog hr))
 have e1 : ex U (.assign (.loc 4) Z0) (dS rows X (sI r) (sI p) none none) = .ok .next (dS rows X (sI r) (sI p) (some (.own ((dL X).map sgn))) none) := by
  have a0 : ev U Z0 (dS rows X (sI r) (sI p) none none) = .ok [.own ((dL X).map sgn)] (dS rows X (sI r) (sI p) none none) := by
   refine (d6 (fs := (dL X).map fun c => F.val (sgn c)) ?_).trans rfl
   refine d5 (f := .val (sgn 40)) rfl (d5 (f := .val (sgn 41)) rfl (d5 (f := .val (sgn 91)) rfl (d5 (f := .val (sgn 93)) rfl (d5 (f := .val (sgn 123)) rfl (d5 (f := .val (sgn 125)) rfl (d5 (f := .val (sgn 10)) rfl (d5 (f := .val (sgn 32)) rfl (d5 (f := .val (sgn 97)) rfl (d5 (f := .val (sgn (s7 (X.fdiv 11)))) ?_ rfl)))))))))
   exact n8 (fs := [.val (.int (X.fdiv 11))]) rfl rfl (h31 (X.fdiv 11))
  exact (j5 a0).trans rfl
 obtain ⟨j, hj, e2⟩ := eQ (U := U) (X := X) (st := dS rows X (sI r) (sI p) (some (.val (.list ((dL X).map sgn)))) none) (a := .get (.loc 1)) (b := .lit (.int 10)) (k := 48271) (m := 10007) (n := 10) rfl rfl (by decide) rfl rfl
 obtain ⟨c, hc⟩ : ∃ c, (dL X)[j]? = some c := ⟨_, geg (show j < (dL X).length from hj)⟩
 have e3 : ex U (.assign (.loc 5) (.op .idx (a9 g7 (bM (bM (bX d7 I9) hU) cV)))) (dS rows X (sI r) (sI p) (some (.own ((dL X).map sgn))) none) = .ok .next (dS rows X (sI r) (sI p) (some (.val (.list ((dL X).map sgn)))) (sG c)) :=
  (j5 ((d6 (d5 (f := .val (.list ((dL X).map sgn))) rfl (f0 (i := j) e2 rfl))).trans (V4 (show 10 <= 200000 by decide) (by rw [List.getElem?_map, hc]; rfl)))).trans rfl
 have t1 := v8 (U := U) (q7 (a := .cmp .Eq (a9 i8 (.lit (.str (S [10]))))) (st := dS rows X (sI r) (sI p) (some (.val (.list ((dL X).map sgn)))) (sG c)) (x := [c] == [10]) rfl fun _ => k9 (op := .Eq) (es := .cons (.op .len (b9 d8)) (b9 dF)) (u := .int rows.length) (v := .int 64) (q := (rows.length : Int) == 64) (f0 (i := rows.length) (V6 h rfl) rfl) rfl) fun _ => q7 (a := .cmp .NotEq (a9 i8 (.lit (.str (S [10]))))) (x := !([c] == [10])) rfl fun _ => k9 (op := .Eq) (es := .cons (.op .len (b9 (.op .idx (a9 d8 f6)))) (b9 R7)) (u := .int ln.length) (v := .int 120) (q := (ln.length : Int) == 120) (f0 (i := ln.length) (E4 hl (C7 h hr rfl rfl)) rfl) rfl
 cases hq : (([c] == [10]) && ((rows.length : Int) == 64)) || (!([c] == [10]) && ((ln.length : Int) == 120)) with
 | true =>
  rw [hq] at t1
  exact ⟨.none, _, .no, (d4 e1).trans ((d4 e3).trans (f8 ((i9 t1).trans (f8 (k4 rfl)))))⟩
 | false =>
  rw [hq] at t1
  refine ⟨_, _, .put r p c ln hr hp ?_, (d4 e1).trans ((d4 e3).trans ((j3 t1).trans (f8 (k4 rfl))))⟩
  rw [Bool.or_eq_false_iff] at hq
  by_cases h10 : c = 10
  . have := hq.1
    rw [h10, show (([10] : List Nat) == [10]) = true from rfl, Bool.true_and] at this
    exact .inl ⟨h10, Nat.lt_of_le_of_ne hm fun q => by rw [q] at this; cases this⟩
  . have := hq.2
    rw [show ([c] == [10]) = false from w2 fun z => h10 (List.cons.inj (eq_of_beq z)).1, Bool.not_false, Bool.true_and] at this
    exact .inr ⟨(x1y c (mog hc)).resolve_left h10, Nat.lt_of_le_of_ne hl fun q => by rw [q] at this; cases this⟩
theorem wF (h : OkText rows) (hr : rows[r]? = some ln) (hp : p <= ln.length) : ∃ d v', Deed rows d /\ ex U dC (dS rows X (sI r) (sI p) none none) = .ok (.ret (.val d)) ⟨v', [], 0⟩ := by
 have hm := h.most
 have hl := n9 (h.rows ln (mog hr))
 have e1 := (k9 (U := U) (op := .Lt) (es := .cons f5 (b9 (.op .len (b9 (.op .idx (a9 d8 f6)))))) (st := dS rows X (sI r) (sI p) none none) (u := .int p) (v := .int ln.length) (q := decide ((p : Int) < ln.length)) (f0 (i := p) rfl (f0 (i := ln.length) (E4 hl (C7 h hr rfl rfl)) rfl)) rfl)
 by_cases hlt : p < ln.length
 . rw [dtt (Int.ofNat_lt.mpr hlt)] at e1
   exact ⟨_, _, .cut r p ln hr (.inl hlt), f8 ((i9 e1).trans (f8 (k4 rfl)))⟩
 . rw [dff fun q => hlt (Int.ofNat_lt.mp q)] at e1
   have hpe : p = ln.length := Nat.le_antisymm hp (Nat.le_of_not_lt hlt)
   have a1 := (k9 (U := U) (op := .Eq) (es := .cons (bA f6 f7) (b9 (.op .len (b9 d8)))) (st := dS rows X (sI r) (sI p) none none) (u := .int (r + 1 : Nat)) (v := .int rows.length) (q := ((r + 1 : Nat) : Int) == rows.length) (f0 (i := (r + 1 : Nat)) rfl (f0 (i := rows.length) (V6 h rfl) rfl)) rfl)
   cases hr2 : rows[r + 1]? with
   | none =>
    have hn : r + 1 = rows.length := Nat.le_antisymm (n5 hr).1 (List.getElem?_eq_none_iff.mp hr2)
    rw [show (((r + 1 : Nat) : Int) == rows.length) = true by rw [hn]; exact beq_self_eq_true _] at a1
    exact ⟨_, _, .no, (j3 e1).trans (f8 ((i9 (v8 (x := true) (y := false) a1 fun q => nomatch q)).trans (f8 (k4 rfl))))⟩
   | some l2 =>
    have hn : r + 1 < rows.length := (n5 hr2).1
    have hl2 := n9 (h.rows l2 (mog hr2))
    rw [show (((r + 1 : Nat) : Int) == rows.length) = false from w2 fun q => Nat.ne_of_lt hn (Int.ofNat_inj.mp (eq_of_beq q))] at a1
    have a2 := v8 a1 fun _ => k9 (op := .Gt) (es := .cons (bA (.op .len (b9 (.op .idx (a9 d8 f6)))) (.op .len (b9 (.op .idx (a9 d8 (bA f6 f7)))))) (b9 R7)) (u := .int (ln.length + l2.length : Nat)) (v := .int 120) (q := decide ((120 : Int) < (ln.length + l2.length : Nat))) (f0 (i := (ln.length + l2.length : Nat)) ((d6 (f0 (i := ln.length) (E4 hl (C7 h hr rfl rfl)) (f0 (i := l2.length) (E4 hl2 (C7 (r := r + 1) h hr2 rfl rfl)) rfl))).trans rfl) rfl) rfl
    by_cases h120 : 120 < ln.length + l2.length
    . rw [dtt (show (120 : Int) < (ln.length + l2.length : Nat) by lia)] at a2
      exact ⟨_, _, .no, (j3 e1).trans (f8 ((i9 a2).trans (f8 (k4 rfl))))⟩
    . rw [dff (show ¬ (120 : Int) < (ln.length + l2.length : Nat) by lia)] at a2
      exact ⟨_, _, .cut r p ln hr (.inr ⟨hpe, l2, hr2, Nat.le_of_not_lt h120⟩), (j3 e1).trans ((j3 a2).trans (f8 (k4 rfl)))⟩
theorem x2P (h31 : z9 U) (h : OkText rows) : ∃ d, Deed rows d /\ B U kT [.val (.list (sRows rows)), .val (.int X)] = .ret (.val d) [] := by
 obtain ⟨r, hr, e1⟩ := eQ (U := U) (X := X) (st := dS rows X none none none none) (a := .get (.loc 1)) (k := 69621) (m := 100019) (n := rows.length) rfl rfl h.one rfl (V6 (a := .get (.loc 0)) h rfl)
 obtain ⟨ln, hln⟩ : ∃ ln, rows[r]? = some ln := ⟨_, geg hr⟩
 have hl := n9 (h.rows ln (mog hln))
 obtain ⟨p, hp, e2⟩ := eQ (U := U) (X := X) (st := dS rows X (sI r) none none none) (a := .get (.loc 1)) (b := .op (.bin .Add) (a9 (.op .len (b9 (.op .idx (a9 d8 f6)))) f7)) (k := 16807) (m := 10009) (n := ln.length + 1) rfl rfl (Nat.succ_pos _) rfl ((d6 (f0 (i := ln.length) (E4 hl (C7 h hln rfl rfl)) rfl)).trans rfl)
 have b1 : ex U (.assign (.loc 2) _) (dS rows X none none none none) = .ok .next (dS rows X (sI r) none none none) := (j5 e1).trans rfl
 have b2 : ex U (.assign (.loc 3) _) (dS rows X (sI r) none none none) = .ok .next (dS rows X (sI r) (sI p) none none) := (j5 e2).trans rfl
 have b3 : ev U (.cmp .Lt (a9 (bM d7 aQ) B8)) (dS rows X (sI r) (sI p) none none) = .ok [bV (decide (X.fmod 9 < 5))] (dS rows X (sI r) (sI p) none none) := rfl
 cases hq : decide (X.fmod 9 < 5) with
 | true =>
  rw [hq] at b3
  obtain ⟨d, v', hd, g⟩ := zK (U := U) (X := X) h31 h hln (Nat.le_of_lt_succ hp)
  exact ⟨d, hd, j2 rfl ((d4 b1).trans ((d4 b2).trans (f8 ((i9 b3).trans g))))⟩
 | false =>
  rw [hq] at b3
  obtain ⟨d, v', hd, g⟩ := wF (U := U) (X := X) h hln (Nat.le_of_lt_succ hp)
  exact ⟨d, hd, j2 rfl ((d4 b1).trans ((d4 b2).trans ((j3 b3).trans g)))⟩
end
structure Kd' (P : Tab) : Prop where
 l1 : P.lookup 1 = some hM
 l2 : P.lookup 2 = some cR
 l3 : P.lookup 3 = some fQ
 l4 : P.lookup 4 = some Y0
 l5 : P.lookup 5 = some gS
 l7 : P.lookup 7 = some dU
 l8 : P.lookup 8 = some jC
 l9 : P.lookup 9 = some eN
 l10 : P.lookup 10 = some jV
structure Pd' (P : Tab) : Prop extends Kd' P where
 l0 : P.lookup 0 = some bR
 l15 : P.lookup 15 = some aZ
 l16 : P.lookup 16 = some I3
 l17 : P.lookup 17 = some V9
 l18 : P.lookup 18 = some cK
 l19 : P.lookup 19 = some Z9
 l20 : P.lookup 20 = some J0
 l21 : P.lookup 21 = some I2
 l22 : P.lookup 22 = some Z4
 l23 : P.lookup 23 = some bU
structure Td' (P : Tab) : Prop where
 l30 : P.lookup 30 = some dK
 l31 : P.lookup 31 = some gL
 l32 : P.lookup 32 = some jX
 l33 : P.lookup 33 = some jD
section
variable {P : Tab} {k : Nat} {d : FnDef} (n : Nat)
theorem j6 (h : P.lookup k = some d) (p : List Slots) (fs : List F) : Gam P (n + 1) k p fs = M (Gam P n) d p fs := congrFun (congrFun (cT h) p) fs
variable (H : Kd' P)
include H
theorem pQ : Z3 (Gam P (n + 1)) := fun c => (j6 n H.l1 _ _).trans x1q
theorem x3n : jR (Gam P (n + 2)) := fun d hd => (j6 _ H.l2 _ _).trans (x6o (pQ n H) hd)
theorem x1F : vL (Gam P (n + 3)) := fun ds hz hr => (j6 _ H.l3 _ _).trans (x4F (x3n n H) hz hr)
theorem dN : D4 (Gam P (n + 1)) := ⟨fun c => (j6 n H.l4 _ _).trans x1V, fun w hw h => (j6 n H.l4 _ _).trans (x5n hw h)⟩
theorem iX : bW (Gam P (n + 2)) := fun L hL => (j6 _ H.l5 _ _).trans (xF (dN n H) hL)
theorem x1d : Z8 (Gam P (n + 1)) := fun m k => (j6 n H.l7 _ _).trans x6c
theorem dD : Q8 (Gam P (n + 2)) := fun a b k hc hz => (j6 _ H.l9 _ _).trans (x0b (x1d n H) hc hz)
theorem nB : Sp8 (Gam P (n + 3)) := fun ts hg hz => (j6 _ H.l8 _ _).trans (x2b (dN (n + 1) H) (dD n H) ts hg hz)
theorem zI : qJ (Gam P (n + 1)) := fun R hz => (j6 n H.l10 _ _).trans (zQ hz)
end
section
variable {P : Tab} (n : Nat) (H : Pd' P)
include H
theorem sJ {rows : LL} (h : OkText rows) : ∀ k n, J k (Gam P (n + 4 + k)) rows
 | 0, n => pX (nB n H.toKd') (dD (n + 1) H.toKd') h (fun q => absurd rfl q) fun p fs => j6 _ H.l16 _ _
 | k + 1, n => pX (k := k + 1) (U := Gam P (n + 4 + k)) (show Sp8 (Gam P (n + 4 + k)) by rw [show n + 4 + k = (n + k + 1) + 3 by lia]; exact nB _ H.toKd') (by rw [show n + 4 + k = (n + k + 2) + 2 by lia]; exact dD _ H.toKd') h (fun _ => sJ h k n) fun p fs => j6 _ H.l16 _ _
theorem nH : fF (Gam P (n + 11)) := fun rows h b es m e => by
 obtain ⟨es', h1, h2, h3⟩ := x5o (b := b) (es := es) (m := m) (e := e) (sJ H h 6 n) h
 exact ⟨es', h1, h2, (j6 _ H.l15 _ _).trans h3⟩
theorem O4 : G2 (Gam P (n + 1)) := fun rows cts es m ps r p ln h hr hp => (j6 _ H.l17 _ _).trans (wU h hr hp)
theorem mU : iG (Gam P (n + 11)) := fun rows cts es m ps r ln h hr hl hz => by
 obtain ⟨es', h1, h2, h3⟩ := x5r (m := m) (ps := ps) (iX (n + 8) H.toKd') (sJ H (h.ok.set hl) 6 n) h hr hl hz
 exact ⟨es', h1, h2, (j6 _ H.l18 _ _).trans h3⟩
theorem nP : gH (Gam P (n + 12)) := fun rows cts es m ps r g fr h hf hg hn => by
 obtain ⟨es', h1, h2, h3⟩ := yE (m := m) (ps := ps) (iX (n + 9) H.toKd') (nH n H) h hf hg hn
 exact ⟨es', h1, h2, (j6 _ H.l19 _ _).trans h3⟩
end
section
variable {P : Tab} (n : Nat) (H : Td' P)
include H
theorem uP : B6 (Gam P (n + 1)) := fun xs hx j => (j6 _ H.l30 _ _).trans (yK hx)
theorem cM : z9 (Gam P (n + 1)) := fun c => (j6 _ H.l31 _ _).trans x5g
theorem x4S : qU (Gam P (n + 2)) := fun c sz pt hs => let ⟨l, h1, h2⟩ := x6i (cM n H) c sz pt hs; ⟨l, h1, (j6 _ H.l32 _ _).trans h2⟩
theorem x6A : xG (Gam P (n + 3)) := fun xs hx => let ⟨rows, h1, h2⟩ := text_ok (uP (n + 1) H) (cM (n + 1) H) (x4S n H) hx; ⟨rows, h1, (j6 _ H.l33 _ _).trans h2⟩
end
section
variable {rows : LL} {r p c : Nat} {ln : List Nat}
theorem x2l (h : n4 ln = true) (hc : m5 c = true) (hl : ln.length < 120) : n4 (u8 ln p c) = true := by
 obtain ⟨_, h2⟩ := and2 h
 unfold n4 u8
 rw [dtt ?_, Bool.true_and, List.all_append, List.all_append, Bool.and_eq_true, Bool.and_eq_true]
 . exact ⟨⟨List.all_eq_true.mpr fun x hx => List.all_eq_true.mp h2 x (List.mem_of_mem_take hx), by rw [List.all_cons, hc]; rfl⟩, List.all_eq_true.mpr fun x hx => List.all_eq_true.mp h2 x (List.mem_of_mem_drop hx)⟩
 . rw [lap, lap]
   show (ln.take p).length + 1 + (ln.drop p).length <= 120
   rw [Nat.add_right_comm, <- lap, List.take_append_drop]; exact hl
theorem aF {a : List Nat} (h : n4 ln = true) (hs : a.Sublist ln) : n4 a = true := by
 obtain ⟨h1, h2⟩ := and2 h
 unfold n4
 rw [dtt (nlt hs.length_le (k6 h1)), Bool.true_and]
 exact List.all_eq_true.mpr fun x hx => List.all_eq_true.mp h2 x (hs.subset hx)
theorem x1C {a b : List Nat} (h1 : n4 a = true) (h2 : n4 b = true) (hl : a.length + b.length <= 120) : n4 (a ++ b) = true := by
 unfold n4
 rw [dtt (by rw [lap]; exact hl), Bool.true_and, List.all_append, (and2 h1).2, (and2 h2).2]; rfl
theorem sQ {α : Type} {xs : List α} {x : α} {r : Nat} (h : r < xs.length) : xs.set r x = splice xs [x] r 1 := by
 unfold splice
 rw [List.set_eq_take_append_cons_drop, if_pos h, List.append_assoc]; rfl
noncomputable def N0 (rows : LL) (r p : Nat) : LL := if p < (rows[r]?.getD []).length then splice rows [delL (rows[r]?.getD []) p] r 1 else splice rows [rows[r]?.getD [] ++ rows[r + 1]?.getD []] r 2
theorem x4N {U : Nat -> Fn} (h : OkText rows) (hr : rows[r]? = some ln) (hc : p < ln.length \/ (p = ln.length /\ ∃ l2, rows[r + 1]? = some l2 /\ ln.length + l2.length <= 120)) : B U W8 [.val (.list (sRows rows)), .val (.int r), .val (.int p)] = .ret (.own (sRows (N0 rows r p))) [] := by
 unfold N0
 rw [hr, Option.getD_some]
 rcases hc with hc | ⟨hc, l2, hr2, hc2⟩
 . rw [if_pos hc]; exact x0Z h hr hc
 . rw [if_neg (Nat.not_lt.mpr (Nat.le_of_eq hc.symm)), hr2, Option.getD_some]; exact x6N h hr hr2 hc
end
theorem x5L {ms : List Mk} (h : faultR (run .nil ms) = .ok) : dM ms 0 = some 0 := by
 rw [vX] at h
 cases hl : lf ms [] with
 | inl f => rw [hl] at h; cases show f = .ok from h; exact absurd hl (jI ms [])
 | inr wt =>
  rw [hl] at h
  have h : cJ wt = .ok := h
  unfold cJ at h
  cases hw : wt.getLast? with
  | none => cases List.getLast?_eq_none_iff.mp hw; exact cQ ms [] [] hl
  | some m => rw [hw] at h; cases h
noncomputable abbrev eX (P0 : F) (Fd : List (List PyData)) (w : List Nat) (a3 a4 a5 a6 a7 a8 : Option F) : St := ⟨[some P0, some (.own (encF Fd)), some (.own (x0 w)), a3, a4, a5, a6, a7, a8], [], 0⟩
noncomputable def qZ : FnDef := ⟨0, "tree_of_parts", ["parts"], ["found", "waiting", "row", "triples", "place", "what", "behind", "at"], (.seq (.assign (.loc 1) (.op .lst .nil)) (.seq (.assign (.loc 2) (.op .lst .nil)) (.seq (.loop true [3, 4] 2 (b9 (.lend 0)) fV) (.seq (.ret (.mv (.loc 1))) .nil))))⟩
noncomputable def trAll : Nat -> LL -> List (List PyData) × List Nat -> List (List PyData) × List Nat
 | _, [], s => s
 | n, l :: rows, s => trAll (n + 1) rows ((toks l).foldl (stT n) s)
theorem x6p {n : Nat} {l : List Nat} {rows : LL} {s : List (List PyData) × List Nat} : trAll n (l :: rows) s = trAll (n + 1) rows ((toks l).foldl (stT n) s) := rfl
noncomputable def S5 (rows : LL) : List PyData := encF (trAll 0 rows ([], [])).1
theorem lP {l : List Nat} (h : n4 l = true) : (toks l).length <= 242 := nlt (lJ l) (Nat.add_le_add_right (Nat.mul_le_mul_left 2 (n9 h)) 2)
theorem x2Q : TI [] [] := ⟨fun x hx => (nomatch hx), fun a ha => (nomatch ha), Nat.le_refl _⟩
section
variable {U : Nat -> Fn} {P0 : F} {rows : LL} {cts : List Nat} {es : Es} {m : Int} {ps : List (Nat × Nat)}
inductive TrQ (P0 : F) (s : List (List PyData) × List Nat) (r : R Fl) : Prop
 | mk (b3 b4 b5 b6 b7 b8 : Option F) (h : r = .ok .next (eX P0 s.1 s.2 b3 b4 b5 b6 b7 b8))
theorem mB (h4 : D4 U) (P0 : F) : ∀ (rows : LL) (n : Nat) (Fd : List (List PyData)) (w : List Nat) (d' : Nat) (a3 a4 a5 a6 a7 a8 : Option F), T0 rows -> TI Fd w -> dM (marksAll n rows) w.length = some d' -> Fd.length + 242 * rows.length <= 70000 ->
  TrQ P0 (trAll n rows (Fd, w)) (forL (stepB U true [3, 4] fV) (enumFrom n (rows.map encP)) (eX P0 Fd w a3 a4 a5 a6 a7 a8))
 | [], n, Fd, w, d', a3, a4, a5, a6, a7, a8, _, _, _, _ => ⟨a3, a4, a5, a6, a7, a8, rfl⟩
 | l :: rows, n, Fd, w, d', a3, a4, a5, a6, a7, a8, hr, h, hd, hz => by
  have hz : Fd.length + 242 * (rows.length + 1) <= 70000 := hz
  have ht : (toks l).length <= 242 := lP (hr l (.head _))
  rw [K2, fA] at hd
  obtain ⟨d1, h1, h2⟩ := c0 hd
  rw [fK, <- uW] at h1
  obtain ⟨b5, b6, b7, b8, i1, i2, i3, i4⟩ := bC h4 P0 n (some (.val (encP l))) (toks l) Fd w d1 a5 a6 a7 a8 (vW l) h h1 (by lia)
  rw [<- i2] at h2
  obtain ⟨c3, c4, c5, c6, c7, c8, j1⟩ := mB h4 P0 rows (n + 1) _ _ d' (sI n) (some (.val (encP l))) b5 b6 b7 b8 (fun k hk => hr k (.tail _ hk)) i1 h2 (by lia)
  have e := A9 (U := U) (many := true) (is := [5, 6, 7]) (body := dX) (t8 (kd := 0) (e := .get (.loc 4)) (st := r8 P0 Fd w n (some (.val (encP l))) a5 a6 a7 a8) (fs := [.val (encP l)]) (xs := (toks l).map encT) rfl (by
   show (((none : Option (List PyData)).or (gd (okLen ((toks l).map encT).length) ((toks l).map encT))).or none) = _
   rw [i6 (by rw [i7]; exact big ht)]; rfl))
  exact ⟨c3, c4, c5, c6, c7, c8, (u6 ((p8 rfl).trans ((d4 (e.trans i4)).trans rfl))).trans j1⟩
theorem x4H (h : OkText rows) (v : Slots) : itF 2 (some (.brw (rows.map encP)) :: v) [.lnd 0] = some (enumFrom 0 (rows.map encP)) := by
 show ((gd (okLen (rows.map encP).length) (rows.map encP)).map _) = _
 rw [i6 (by rw [i7]; exact big h.most)]; rfl
theorem x4J (h : OkText rows) : 242 * rows.length <= 15488 := Nat.mul_le_mul_left 242 h.most
theorem x4w (h4 : D4 U) (h : OkText rows) (hf : faultR (rd rows) = .ok) : B U qZ [.brw (rows.map encP)] = .ret (.own (S5 rows)) [] := by
 obtain ⟨b3, b4, b5, b6, b7, b8, e⟩ := mB h4 (.brw (rows.map encP)) rows 0 [] [] 0 none none none none none none h.rows x2Q (x5L hf) (by rw [List.length_nil, Nat.zero_add]; exact big (x4J h))
 have e1 := A9 (U := U) (many := true) (is := [3, 4]) (body := fV) (t8 (kd := 2) (e := .cons (.lend 0) .nil) (st := eX (.brw (rows.map encP)) [] [] none none none none none none) (fs := [.lnd 0]) rfl (x4H h _))
 exact j2 rfl ((d4 rfl).trans ((d4 rfl).trans ((d4 (e1.trans e)).trans (f8 (D1 rfl)))))
noncomputable def pA (U : Nat -> Fn) : Prop := ∀ rows, OkText rows -> faultR (rd rows) = .ok -> U 6 [] [.brw (rows.map encP)] = .ret (.own (S5 rows)) []
noncomputable def aK (U : Nat -> Fn) : Prop := ∀ rows cts es (m : Int) ps, Pg rows cts es -> U 23 [pP rows cts es m ps] [.pg 0] = .ret (.val (q4 (faultR (rd rows)))) [pP rows cts es m ps]
theorem bQ (f : Fa) : C1 (q4 f) = true ↔ f = .ok := by cases f <;> constructor <;> intro h <;> first | rfl | cases h
theorem x4K {f : Fa} (h : f ≠ .ok) : C1 (q4 f) = false := w2 fun q => h ((bQ f).mp q)
theorem pL (h23 : aK U) (h : Pg rows cts es) : ev U (.cmp .IsNot (a9 (.meth 23 d8 .nil) (.lit .none))) ⟨[some (.pg 0)], [pP rows cts es m ps], 0⟩ = .ok [bV (!C1 (q4 (faultR (rd rows))))] ⟨[some (.pg 0)], [pP rows cts es m ps], 0⟩ :=
 k9 (U := U) (op := .IsNot) (es := .cons (.meth 23 d8 .nil) (b9 (.lit .none))) (st := ⟨[some (.pg 0)], [pP rows cts es m ps], 0⟩) (st1 := ⟨[some (.pg 0)], [pP rows cts es m ps], 0⟩) (u := q4 (faultR (rd rows))) (v := .none) (q := !C1 (q4 (faultR (rd rows)))) (d5 (f := .val (q4 (faultR (rd rows)))) (q8 (n := 0) (ys := []) rfl rfl rfl (h23 rows cts es m ps h)) rfl) rfl
theorem x5V (h6 : pA U) (h23 : aK U) (h : Pg rows cts es) (hf : faultR (rd rows) = .ok) : M U aW [pP rows cts es m ps] [.pg 0] = .ret (.own (S5 rows)) [pP rows cts es m ps] := by
 have c1 := pL (m := m) (ps := ps) h23 h
 rw [(bQ _).mpr hf] at c1
 refine j2 rfl ((j3 c1).trans (f8 (D1 (st1 := ⟨[some (.pg 0)], [pP rows cts es m ps], 0⟩) ?_)))
 show outE true (U 6 [] [.brw (rows.map encP)]) _ = _
 rw [h6 rows h.ok hf]; rfl
theorem x5x (h23 : aK U) (h : Pg rows cts es) (hf : faultR (rd rows) ≠ .ok) : M U aW [pP rows cts es m ps] [.pg 0] = .exc 4 [pP rows cts es m ps] := by
 have c1 := pL (m := m) (ps := ps) h23 h
 rw [x4K hf] at c1
 exact I1 rfl (p0 ((i9 c1).trans (p0 rfl)))
end
end Mine.Internal.S
namespace Mine.Internal.S
section
variable {rows : LL} {cts : List Nat} {es : Es} {m : Int} {ps : List (Nat × Nat)} {r p c : Nat} {ln l2 : List Nat}
theorem uA {n : Nat} : (A8 r n).length <= n := by
 unfold A8
 rw [i7]
 exact nlt (List.length_filter_le ..) (Nat.le_of_eq List.length_range)
theorem rT {g f n : Nat} (h : r + g <= n) : (t4 r g f n).length <= n := by
 unfold t4
 rw [lap, i7, i7, List.length_range, List.length_range]; lia
noncomputable def B0 (cts : List Nat) (r c : Nat) : List Nat := if c = 10 then splice cts [1, 1] r 1 else bump cts r
noncomputable def U9 (n r c : Nat) : List (Nat × Nat) := if c = 10 then t4 r 1 2 n else A8 r n
theorem wP {n : Nat} (h : r < n) : (U9 n r c).length <= n := by
 unfold U9
 split
 . exact rT h
 . exact uA
theorem x1n {P : Tab} (H : Pd' P) (n : Nat) (h : Pg rows cts es) (hr : rows[r]? = some ln) (hp : p <= ln.length) (hc : (c = 10 /\ rows.length < 64) \/ (m5 c = true /\ ln.length < 120)) (hz : es.length <= 9000) : ∃ es' m', es'.length <= es.length + 128 /\ Pg (splice rows (linesP ln p c) r 1) (B0 cts r c) es' /\ Gam P (n + 13) 20 [pP rows cts es m ps] [.pg 0, .val (.int r), .val (.int p), .val (sgn c)] = .ret (.val .none) [pP (splice rows (linesP ln p c) r 1) (B0 cts r c) es' m' (U9 rows.length r c)] := by
 obtain ⟨hi, _⟩ := n5 hr
 have hl := h.ok.rows ln (mog hr)
 unfold linesP B0 U9
 rcases hc with ⟨rfl, hc⟩ | ⟨hc, hc2⟩
 . rw [if_pos rfl, if_pos rfl, if_pos rfl]
   have hf : ∀ l ∈ [ln.take p, ln.drop p], n4 l = true := fun l hm => by
    rcases List.mem_cons.mp hm with rfl | hm
    . exact aF hl (List.take_sublist ..)
    . rw [lsm hm]; exact aF hl (List.drop_sublist ..)
   have hsl : (splice rows [ln.take p, ln.drop p] r 1).length + 1 = rows.length + 2 := aI rows [ln.take p, ln.drop p] (g := 1) hi
   obtain ⟨es', h1, h2, h3⟩ := x2m (m := m) (ps := ps) (O4 (n + 11) H) (nP n H) h hr hp (h.ok.splice_rows hf (by lia) (by lia)) hf
   exact ⟨es', _, nlt h1 (Nat.le_add_left ..), h2, (j6 _ H.l20 _ _).trans h3⟩
 . rw [if_neg (Q3 hc), if_neg (Q3 hc), if_neg (Q3 hc), <- sQ hi]
   obtain ⟨es', h1, h2, h3⟩ := zX (m := m) (ps := ps) (pQ (n + 11) H.toKd') (O4 (n + 11) H) (mU (n + 1) H) h hr hp hc (x2l hl hc hc2) hz
   exact ⟨es', _, h1, h2, (j6 _ H.l20 _ _).trans h3⟩
noncomputable def K3 (cts : List Nat) (b : Bool) (r : Nat) : List Nat := if b then bump cts r else splice cts [1] r 2
noncomputable def iL (n : Nat) (b : Bool) (r : Nat) : List (Nat × Nat) := if b then A8 r n else t4 r 2 1 n
theorem x0L {P : Tab} (H : Pd' P) (n : Nat) (h : Pg rows cts es) (hr : rows[r]? = some ln) (hc : p < ln.length \/ (p = ln.length /\ ∃ l2, rows[r + 1]? = some l2 /\ ln.length + l2.length <= 120)) (hz : es.length <= 9000) : ∃ es' m', es'.length <= es.length + 128 /\ Pg (N0 rows r p) (K3 cts (decide (p < ln.length)) r) es' /\ (iL rows.length (decide (p < ln.length)) r).length <= rows.length /\ Gam P (n + 13) 21 [pP rows cts es m ps] [.pg 0, .val (.int r), .val (.int p)] = .ret (.val .none) [pP (N0 rows r p) (K3 cts (decide (p < ln.length)) r) es' m' (iL rows.length (decide (p < ln.length)) r)] := by
 obtain ⟨hi, _⟩ := n5 hr
 have hl := h.ok.rows ln (mog hr)
 unfold N0
 rw [hr, Option.getD_some]
 rcases hc with hc | ⟨hc, l2, hr2, hc2⟩
 . rw [if_pos hc, dtt hc, <- sQ hi]
   obtain ⟨es', h1, h2, h3⟩ := x5X (m := m) (ps := ps) (O4 (n + 11) H) (mU (n + 1) H) h hr hc (aF hl (pG p)) hz
   exact ⟨es', _, h1, h2, uA, (j6 _ H.l21 _ _).trans h3⟩
 . rw [if_neg (Nat.not_lt.mpr (Nat.le_of_eq hc.symm)), hr2, Option.getD_some, dff (Nat.not_lt.mpr (Nat.le_of_eq hc.symm))]
   obtain ⟨hi2, _⟩ := n5 hr2
   obtain ⟨es', h1, h2, h3⟩ := x3l (m := m) (ps := ps) (O4 (n + 11) H) (nP n H) h hr hr2 hc (x1C hl (h.ok.rows l2 (mog hr2)) hc2)
   exact ⟨es', _, nlt h1 (Nat.le_add_left ..), h2, rT hi2, (j6 _ H.l21 _ _).trans h3⟩
end
section
variable {U : Nat -> Fn} {rows : LL} {cts : List Nat} {es : Es} {m : Int} {ps : List (Nat × Nat)} {r p c : Nat} {ln : List Nat} {R P : Int} {st st1 : St} {s : PyData}
theorem K7 {rc es : CE} {ys as : List F} {k n j : Nat} {p' : List Slots} (hr : ev U rc st = .ok [.pg n] st) (he : ev U es st = .ok ys st1) (ha : args st1.v (.pg n :: ys) = some as) (hg : U k st1.p as = .exc j p') : ev U (.meth k rc es) st = .exc j { st1 with p := p' } := by
 show (ev U rc st).bind _ = _
 rw [hr]
 show (ev U es st).bind _ = _
 rw [he]
 show callE U false k (.pg n :: ys) st1 = _
 unfold callE
 rw [ha]
 show outE false (U k st1.p as) st1 = _
 rw [hg]; rfl
noncomputable def gW (rows : LL) (R P : Int) : Prop := ¬ (0 <= R /\ R < rows.length) \/ ∃ (r : Nat) (ln : List Nat), R = r /\ rows[r]? = some ln /\ ¬ (0 <= P /\ P <= ln.length)
theorem mJ {a b : Prop} [Decidable a] [Decidable b] (h : ¬ (a /\ b)) : (!(decide a && decide b)) = true := by
 rw [<- Bool.decide_and, dff h]; rfl
theorem x5G {a b : Prop} [Decidable a] [Decidable b] (h : a /\ b) : (!(decide a && decide b)) = false := by
 rw [dtt h.1, dtt h.2]; rfl
theorem qI (h : OkText rows) (ho : gW rows R P) : M U V9 [pP rows cts es m ps] [.pg 0, .val (.int R), .val (.int P)] = .exc 1 [pP rows cts es m ps] := by
 have e1 := y2 (K4 (U := U) (ab := .cons j0 (b9 d7)) (o1 := .LtE) (o2 := .Lt) (u := .int 0) (v := .int R) (st := ⟨[some (.pg 0), some (.val (.int R)), some (.val (.int P))], [pP rows cts es m ps], 0⟩) rfl rfl (V8 h rfl) rfl)
 rcases ho with ho | ⟨r, ln, rfl, hr, ho⟩
 . rw [mJ ho] at e1
   exact I1 rfl (p0 ((i9 (v8 (x := true) (y := true) e1 fun q => nomatch q)).trans (p0 rfl)))
 . obtain ⟨hn, _⟩ := n5 hr
   have hl := n9 (h.rows ln (mog hr))
   have e2 := y2 (K4 (U := U) (ab := .cons j0 (b9 f6)) (o1 := .LtE) (o2 := .LtE) (u := .int 0) (v := .int P) (st := ⟨[some (.pg 0), some (.val (.int r)), some (.val (.int P))], [pP rows cts es m ps], 0⟩) rfl rfl ((d6 (d5 (b := .nil) (L9 (k := .get (.loc 1)) h hr rfl rfl) rfl)).trans (F1 (l := ln) (big hl))) rfl)
   rw [x5G ⟨Int.natCast_nonneg r, Int.ofNat_lt.mpr hn⟩] at e1
   rw [mJ ho] at e2
   exact I1 rfl (p0 ((i9 (v8 (x := false) (y := true) e1 fun _ => e2)).trans (p0 rfl)))
noncomputable abbrev iF (rows : LL) (cts : List Nat) (es : Es) (m : Int) (ps : List (Nat × Nat)) (R P : Int) (s : PyData) (t : Option F) : St := ⟨[some (.pg 0), some (.val (.int R)), some (.val (.int P)), some (.val s), t], [pP rows cts es m ps], 0⟩
theorem x1T (h17 : U 17 [pP rows cts es m ps] [.pg 0, .val (.int R), .val (.int P)] = .exc 1 [pP rows cts es m ps]) : M U J0 [pP rows cts es m ps] [.pg 0, .val (.int R), .val (.int P), .val s] = .exc 1 [pP rows cts es m ps] :=
 I1 rfl (p0 (L8 (K7 (k := 17) (rc := .get (.loc 0)) (es := .cons d7 (b9 f6)) (st := iF rows cts es m ps R P s none) (st1 := iF rows cts es m ps R P s none) (n := 0) (ys := [.val (.int R), .val (.int P)]) rfl rfl rfl h17)))
theorem x0d (h17 : U 17 [pP rows cts es m ps] [.pg 0, .val (.int R), .val (.int P)] = .exc 1 [pP rows cts es m ps]) : M U I2 [pP rows cts es m ps] [.pg 0, .val (.int R), .val (.int P)] = .exc 1 [pP rows cts es m ps] :=
 I1 rfl (p0 (L8 (K7 (k := 17) (rc := .get (.loc 0)) (es := .cons d7 (b9 f6)) (st := ⟨[some (.pg 0), some (.val (.int R)), some (.val (.int P)), none], [pP rows cts es m ps], 0⟩) (st1 := ⟨[some (.pg 0), some (.val (.int R)), some (.val (.int P)), none], [pP rows cts es m ps], 0⟩) (n := 0) (ys := [.val (.int R), .val (.int P)]) rfl rfl rfl h17)))
theorem zO (h17 : G2 U) (h : OkText rows) (hr : rows[r]? = some ln) (hp : p <= ln.length) : M U J0 [pP rows cts es m ps] [.pg 0, .val (.int r), .val (.int p), .val (strD [97, 98])] = .exc 2 [pP rows cts es m ps] := by
 have e1 : ex U _ (iF rows cts es m ps r p (strD [97, 98]) none) = _ := y8 (q8 (k := 17) (r := .get (.loc 0)) (es := .cons d7 (b9 f6)) (n := 0) (ys := [.val (.int r), .val (.int p)]) rfl rfl rfl (h17 rows cts es m ps r p ln h hr hp))
 exact I1 rfl ((d4 e1).trans (p0 ((i9 (c := mI) (v8 (x := false) (y := true) rfl fun _ => v8 (x := true) (y := true) rfl fun q => nomatch q)).trans (p0 rfl))))
theorem x0Y (h17 : G2 U) (h : OkText rows) (hr : rows[r]? = some ln) (hp : p = ln.length) (hn : r + 1 = rows.length) : M U I2 [pP rows cts es m ps] [.pg 0, .val (.int r), .val (.int p)] = .exc 1 [pP rows cts es m ps] := by
 have hll := n9 (h.rows ln (mog hr))
 have e1 : ev U _ (s5 rows cts es m ps r p (sT ln)) = _ := fH hll
 rw [dff (by rw [hp]; exact Nat.lt_irrefl _)] at e1
 have e2 := k9 (U := U) (op := .Eq) (es := .cons d7 (b9 (o0 (.peek .len (.fld 0 0) .nil) f7))) (st := s5 rows cts es m ps r p (sT ln)) (u := .int r) (v := .int ((rows.length : Int) - 1)) (q := (r : Int) == (rows.length : Int) - 1) (f0 (i := r) rfl (f0 (i := ((rows.length : Int) - 1)) ((d6 (f0 (i := rows.length) (V8 h rfl) rfl)).trans rfl) rfl)) rfl
 rw [show ((r : Int) == (rows.length : Int) - 1) = true by rw [<- hn]; exact beq_iff_eq.mpr (by lia)] at e2
 exact I1 rfl ((dQ h17 h hr (Nat.le_of_eq hp)).trans ((j3 e1).trans (p0 ((i9 e2).trans (p0 rfl)))))
end
noncomputable def E0 (x : List PyData) : Prop := ∃ (a r p q e : Int) (s : Str), x = [.int a, .str s, .int r, .int p, .int q, .int e] /\ (PyData.str s).canLay0 = true
noncomputable def dG : Tk -> Prop
 | .word _ l _ => n4 l = true
 | .br _ c => m8 c = true
theorem uI {l : List Nat} (h : n4 l = true) : (PyData.str (S l)).canLay0 = true := by
 show PyData.strOk (S l) = true
 unfold PyData.strOk S
 rw [Array.all_eq_true]
 intro i hi
 have hm : (l.toArray)[i] ∈ l := by simp
 have := List.all_eq_true.mp (and2 h).2 _ hm
 unfold m5 at this
 simp at this
 simp
 have := this.1.2
 lia
theorem x6Y {c : Nat} (h : m8 c = true) : (PyData.str (S [c])).canLay0 = true := by
 rw [C5] at h
 unfold isOp isCl at h
 have h1 : (c = 40 \/ c = 91 \/ c = 123) \/ (c = 41 \/ c = 93 \/ c = 125) := by simpa using h
 rcases h1 with (rfl | rfl | rfl) | (rfl | rfl | rfl) <;> decide +kernel
theorem tU {Fd : List (List PyData)} {x : List PyData} (h : ∀ x ∈ Fd, E0 x) (hx : E0 x) : ∀ z ∈ Fd ++ [x], E0 z := fun y hy => by
 rcases List.mem_append.mp hy with hy | hy
 . exact h y hy
 . rw [lsm hy]; exact hx
theorem x1s {r : Nat} {s : List (List PyData) × List Nat} {t : Tk} (ht : dG t) (h : ∀ x ∈ s.1, E0 x) : (∀ x ∈ (stT r s t).1, E0 x) /\ (stT r s t).1.length <= s.1.length + 1 := by
 cases t with
 | word p l q => exact ⟨tU h ⟨_, _, _, _, _, _, rfl, uI ht⟩, by show (_ ++ [_]).length <= _; rw [lap]; exact Nat.le_refl _⟩
 | br p c =>
  unfold stT
  dsimp only
  split
  . refine ⟨fun y hy => ?_, by rw [List.length_set]; exact Nat.le_succ _⟩
    cases hg : s.1[s.2.getLast?.getD 0]? with
    | none => rw [hg, List.set_eq_of_length_le (List.getElem?_eq_none_iff.mp hg)] at hy; exact h y hy
    | some z =>
     rw [hg] at hy
     rcases List.mem_or_eq_of_mem_set hy with hy | rfl
     . exact h y hy
     . obtain ⟨a, r', p', q, e, s', rfl, hs⟩ := h z (mog hg)
       exact ⟨_, _, _, _, _, _, rfl, hs⟩
  . exact ⟨tU h ⟨_, _, _, _, _, _, rfl, x6Y ht⟩, by rw [lap]; exact Nat.le_refl _⟩
theorem kR (r : Nat) : ∀ (ts : List Tk) (s : List (List PyData) × List Nat), (∀ t ∈ ts, dG t) -> (∀ x ∈ s.1, E0 x) -> (∀ x ∈ (ts.foldl (stT r) s).1, E0 x) /\ (ts.foldl (stT r) s).1.length <= s.1.length + ts.length
 | [], s, _, h => ⟨h, Nat.le_refl _⟩
 | t :: ts, s, ht, h => by
  obtain ⟨h1, h2⟩ := x1s (r := r) (ht t (.head _)) h
  obtain ⟨h3, h4⟩ := kR r ts (stT r s t) (fun k hk => ht k (.tail _ hk)) h1
  exact ⟨h3, nlt h4 (nlt (Nat.add_le_add_right h2 _) (Nat.le_of_eq (add1 _ _)))⟩
theorem nE {L : List Nat} (hL : n4 L = true) : ∀ (rest : List Nat) (i : Nat) (bg : Option Nat), ∀ t ∈ tk L i bg rest, dG t
 | [], i, bg, t, ht => nomatch ht
 | c :: rest, i, bg, t, ht => by
  rw [R6] at ht
  rcases List.mem_append.mp ht with ht | ht
  . unfold D7 at ht
    rcases List.mem_append.mp ht with ht | ht
    . cases he : ends c with
      | false => rw [he] at ht; cases ht
      | true =>
       rw [he] at ht
       cases bg with
       | none => cases ht
       | some b => rw [lsm ht]; exact aF hL ((List.drop_sublist ..).trans (List.take_sublist ..))
    . cases hb : m8 c with
      | false => rw [hb] at ht; cases ht
      | true => rw [hb] at ht; rw [lsm ht]; exact hb
  . exact nE hL rest _ _ t ht
theorem tG : ∀ (rows : LL) (n : Nat) (s : List (List PyData) × List Nat), T0 rows -> (∀ x ∈ s.1, E0 x) -> (∀ x ∈ (trAll n rows s).1, E0 x) /\ (trAll n rows s).1.length <= s.1.length + 242 * rows.length
 | [], n, s, _, h => ⟨h, Nat.le_refl _⟩
 | l :: rows, n, s, hr, h => by
  obtain ⟨h1, h2⟩ := kR n (toks l) s (nE (hr l (.head _)) _ _ _) h
  obtain ⟨h3, h4⟩ := tG rows (n + 1) _ (fun k hk => hr k (.tail _ hk)) h1
  have := lP (hr l (.head _))
  exact ⟨h3, by rw [x6p, List.length_cons]; lia⟩
theorem vV : ∀ (Fd : List (List PyData)), (∀ x ∈ Fd, E0 x) -> PyData.canLayAll0 (encF Fd) = true /\ PyData.depthAll (encF Fd) <= 1
 | [], _ => ⟨rfl, Nat.zero_le _⟩
 | x :: Fd, h => by
  obtain ⟨h1, h2⟩ := vV Fd fun k hk => h k (.tail _ hk)
  obtain ⟨a, r, p, q, e, s, rfl, hs⟩ := h x (.head _)
  refine ⟨?_, Nat.max_le.mpr ⟨Nat.le_refl 1, h2⟩⟩
  show ((PyData.str s).canLay0 && true && PyData.canLayAll0 (encF Fd)) = true
  rw [hs, h1]; rfl
noncomputable def rn (i : Nat) : F -> F
 | .pg _ => .pg i
 | f => f
noncomputable abbrev rnS (i : Nat) (v : Slots) : Slots := v.map (Option.map (rn i))
noncomputable def Up (i : Nat) (P0 : List Slots) : List Slots -> List Slots
 | [] => []
 | q :: _ => P0.set i (rnS i q)
noncomputable def up (i : Nat) (P0 : List Slots) (st : St) : St := ⟨rnS i st.v, Up i P0 st.p, st.x⟩
noncomputable def Sm (i : Nat) (P0 : List Slots) (n : Nat) {α β : Type} (f : α -> β) (r : R α) (r' : R β) : Prop := match r with
 | .ok x st => r' = .ok (f x) (up i P0 st) /\ st.p.length = n
 | .exc k st => r' = .exc k (up i P0 st) /\ st.p.length = n
 | .stuck => True
section
variable {i n j : Nat} {P0 : List Slots} {st st1 : St} {f g : F} {α β γ δ : Type} {o : Option F} {p : Pl} {v : Slots} {xs : List PyData}
theorem Sm.bind {h : α -> β} {k : γ -> δ} {r : R α} {r' : R β} {a : α -> St -> R γ} {b : β -> St -> R δ} (H : Sm i P0 n h r r') (K : ∀ x st, st.p.length = n -> Sm i P0 n k (a x st) (b (h x) (up i P0 st))) : Sm i P0 n k (r.bind a) (r'.bind b) := by
 cases r with
 | ok x st => obtain ⟨rfl, h2⟩ := H; exact K x st h2
 | exc j st => obtain ⟨rfl, h2⟩ := H; exact ⟨rfl, h2⟩
 | stuck => trivial
theorem M8 : slot (rnS i v) j = (slot v j).map (rn i) := by
 unfold slot
 rw [List.getElem?_map]
 cases v[j]? <;> rfl
theorem uZ : pgAt (up i P0 st) j = (pgAt st j).map fun _ => i := by
 unfold pgAt
 show (match slot (rnS i st.v) j with | some (.pg k) => some k | _ => none) = _
 rw [M8]
 cases slot st.v j with
 | none => rfl
 | some f => cases f <;> rfl
theorem rX {k : Nat} {q : Slots} (h : st.p.length <= 1) (e : st.p[k]? = some q) : k = 0 /\ st.p = [q] := by
 obtain ⟨v, p, x⟩ := st
 cases p with
 | nil => cases e
 | cons a p => cases p with
  | nil => cases k with
   | zero => cases e; exact ⟨rfl, rfl⟩
   | succ k => cases e
  | cons b p => exact absurd h (by simp)
theorem E6 (hi : i < P0.length) (hn : st.p.length <= 1) (h : getP st p = some f) : getP (up i P0 st) p = some (rn i f) := by
 cases p with
 | loc j => show slot (rnS i st.v) j = _; rw [M8, show slot st.v j = some f from h]; rfl
 | fld j m =>
  obtain ⟨k, h1, h⟩ := c0 h
  obtain ⟨q, h2, h3⟩ := c0 h
  obtain ⟨rfl, h4⟩ := rX hn h2
  show (pgAt (up i P0 st) j).bind _ = _
  rw [uZ, h1]
  show ((Up i P0 st.p)[i]?).bind _ = _
  rw [h4]
  show ((P0.set i (rnS i q))[i]?).bind _ = _
  rw [List.getElem?_set_self hi]
  show slot (rnS i q) m = _
  rw [M8, h3]; rfl
theorem R0 (hi : i < P0.length) (hn : st.p.length <= 1) (h : setP st o p = some st1) : setP (up i P0 st) (o.map (rn i)) p = some (up i P0 st1) /\ st1.p.length = st.p.length := by
 cases p with
 | loc j =>
  obtain ⟨h1, rfl⟩ := i5 h
  refine ⟨?_, rfl⟩
  show gd (decide (j < (rnS i st.v).length)) _ = _
  rw [i7, h1]
  show some (⟨(rnS i st.v).set j (o.map (rn i)), Up i P0 st.p, st.x⟩ : St) = some ⟨(st.v.set j o).map (Option.map (rn i)), Up i P0 st.p, st.x⟩
  rw [List.map_set]
 | fld j m =>
  obtain ⟨k, h1, h⟩ := c0 h
  obtain ⟨q, h2, h3⟩ := c0 h
  obtain ⟨rfl, h4⟩ := rX hn h2
  obtain ⟨h5, rfl⟩ := i5 h3
  refine ⟨?_, by show (st.p.set 0 _).length = _; rw [List.length_set]⟩
  show (pgAt (up i P0 st) j).bind _ = _
  rw [uZ, h1]
  show ((Up i P0 st.p)[i]?).bind (fun fl => gd (decide (m < fl.length)) (⟨rnS i st.v, (Up i P0 st.p).set i (fl.set m (o.map (rn i))), st.x⟩ : St)) = some ⟨rnS i st.v, Up i P0 (st.p.set 0 (q.set m o)), st.x⟩
  rw [h4]
  show ((P0.set i (rnS i q))[i]?).bind (fun fl => gd (decide (m < fl.length)) (⟨rnS i st.v, (P0.set i (rnS i q)).set i (fl.set m (o.map (rn i))), st.x⟩ : St)) = some ⟨rnS i st.v, P0.set i (rnS i (q.set m o)), st.x⟩
  rw [List.getElem?_set_self hi]
  show gd (decide (m < (rnS i q).length)) _ = _
  rw [i7, h5, List.set_set]
  show some _ = some _
  unfold rnS
  rw [List.map_set]
noncomputable def VO (g : F) : Prop := ∀ i, rn i g = g
theorem o6 {d : PyData} : VO (.val d) := fun _ => rfl
theorem J6 : VO (.own xs) := fun _ => rfl
theorem w6 {o : Option α} {f : α -> F} (hf : ∀ a, VO (f a)) (h : o.map f = some g) : VO g := by obtain ⟨a, _, rfl⟩ := m3 h; exact hf a
theorem k7 {o : Option α} {f : α -> Option F} (hf : ∀ a g, f a = some g -> VO g) (h : o.bind f = some g) : VO g := by obtain ⟨a, _, h⟩ := c0 h; exact hf a g h
theorem u4 {b : Bool} {x : F} (hx : VO x) (h : gd b x = some g) : VO g := by obtain ⟨_, rfl⟩ := i5 h; exact hx
theorem oL {x : F} (hx : VO x) (h : some x = some g) : VO g := by cases h; exact hx
theorem O0 {a b : Option F} (ha : a = some g -> VO g) (hb : b = some g -> VO g) (h : a.or b = some g) : VO g := by
 cases a with
 | none => exact hb h
 | some x => exact ha h
theorem E9 {k : PyData -> Option α} {d e : PyData} {f : α -> α -> Option F} (hf : ∀ a b g, f a b = some g -> VO g) (h : o8 k d e f = some g) : VO g := by obtain ⟨a, b, _, _, h⟩ := A1 h; exact hf a b g h
theorem aX {d : PyData} {lo hi : Option PyData} (h : P4 d lo hi = some g) : VO g :=
 O0 (fun h => k7 (fun _ _ h => k7 (fun _ _ h => k7 (fun _ _ h => k7 (fun _ _ h => u4 o6 h) h) h) h) h) (fun h => O0 (fun h => k7 (fun _ _ h => w6 (fun _ => o6) h) h) (fun h => k7 (fun _ _ h => w6 (fun _ => J6) h) h) h) h
theorem x5T {op : Operator} {d e : PyData} (h : binF op d e = some g) : VO g := by
 cases op with
 | Add => exact O0 (fun h => O0 (fun h => E9 (fun _ _ _ h => oL o6 h) h) (fun h => E9 (fun _ _ _ h => u4 o6 h) h) h) (fun h => O0 (fun h => E9 (fun _ _ _ h => u4 J6 h) h) (fun h => E9 (fun _ _ _ h => u4 o6 h) h) h) h
 | Sub => exact E9 (fun _ _ _ h => oL o6 h) h
 | Mult => exact O0 (fun h => E9 (fun _ _ _ h => u4 o6 h) h) (fun h => k7 (fun _ _ h => k7 (fun _ _ h => u4 o6 h) h) h) h
 | FloorDiv => exact E9 (fun _ _ _ h => u4 o6 h) h
 | Mod => exact E9 (fun _ _ _ h => u4 o6 h) h
 | _ => exact nos h
theorem x0c {o : Op} {ds : List PyData} (h : I0 o ds = some g) : VO g := by
 cases o with
 | bin op => exact k7 (fun _ _ h => x5T h) h
 | neg => exact k7 (fun _ _ h => w6 (fun _ => o6) h) h
 | idx => exact k7 (fun _ _ h => w6 (fun _ => o6) h) h
 | slc l u =>
  cases ds with
  | nil => cases h
  | cons x r => cases l with
   | true => cases u with
    | true => exact k7 (fun _ _ h => aX h) h
    | false => exact k7 (fun _ _ h => aX h) h
   | false => cases u with
    | true => exact k7 (fun _ _ h => aX h) h
    | false => exact k7 (fun _ _ h => aX h) h
 | tup => exact u4 o6 h
 | lst => exact u4 J6 h
 | len => exact k7 (fun _ _ h => w6 (fun _ => o6) h) h
 | ord => exact k7 (fun _ _ h => k7 (fun _ _ h => w6 (fun _ => o6) h) h) h
 | abs => exact k7 (fun _ _ h => w6 (fun _ => o6) h) h
 | toInt => exact k7 (fun _ _ h => w6 (fun _ => o6) h) h
 | list => exact k7 (fun _ _ h => k7 (fun _ _ h => u4 J6 h) h) h
 | isinst t => exact k7 (fun _ _ h => u4 o6 h) h
 | splitNl => exact k7 (fun _ _ h => k7 (fun _ _ h => u4 J6 h) h) h
 | find => exact k7 (fun _ _ h => E9 (fun _ _ _ h => k7 (fun _ _ h => u4 o6 h) h) h) h
 | join => exact k7 (fun _ _ h => k7 (fun _ _ h => k7 (fun _ _ h => k7 (fun _ _ h => u4 o6 h) h) h) h) h
 | getOpen => exact k7 (fun _ _ h => k7 (fun _ _ h => w6 (fun _ => o6) h) h) h
 | sum => exact k7 (fun _ _ h => k7 (fun _ _ h => k7 (fun _ _ h => u4 o6 h) h) h) h
 | rev => exact k7 (fun _ _ h => k7 (fun _ _ h => u4 J6 h) h) h
end
noncomputable def n6 (L : Nat) : CE -> Bool
 | .cons a b => n6 L a && n6 L b
 | .op _ e => n6 L e
 | .sm _ a b => n6 L a && n6 L b
 | .peek o _ e => n6 L e && o.ctorIdx != 5
 | .cmp _ e => n6 L e
 | .inOpen e => n6 L e
 | .chain a _ _ b => n6 L a && n6 L b
 | .not e => n6 L e
 | .and a b => n6 L a && n6 L b
 | .or a b => n6 L a && n6 L b
 | .call _ k e => n6 L e && decide (k < L)
 | .callP k _ => decide (k < L)
 | .meth k a b => (n6 L a && n6 L b) && decide (k < L)
 | .new _ => false
 | .comp _ _ s e c => (n6 L s && n6 L e) && n6 L c
 | .isEx _ _ => false
 | _ => true
noncomputable def x9 (L : Nat) : CS -> Bool
 | .seq s r => x9 L s && x9 L r
 | .assign _ e => n6 L e
 | .unpack _ e => n6 L e
 | .setidx _ a b => n6 L a && n6 L b
 | .setkey _ a b => n6 L a && n6 L b
 | .append _ e => n6 L e
 | .drop e => n6 L e
 | .ret e => n6 L e
 | .iff e a b => n6 L e && (x9 L a && x9 L b)
 | .loop _ _ _ e b => n6 L e && x9 L b
 | .whl _ _ _ => false
 | .try_ a b => x9 L a && x9 L b
 | .hd _ i a b => i.isNone && (x9 L a && x9 L b)
 | .pages _ _ _ _ => false
 | _ => true
noncomputable abbrev rnF (i : Nat) (fs : List F) : List F := fs.map (rn i)
noncomputable def u9 (i : Nat) : Fl -> Fl
 | .next => .next
 | .ret f => .ret (rn i f)
noncomputable def SmO (i : Nat) (P0 : List Slots) (n : Nat) (r r' : Out) : Prop := match r with
 | .ret f p => r' = .ret (rn i f) (Up i P0 p) /\ p.length = n
 | .exc k p => r' = .exc k (Up i P0 p) /\ p.length = n
 | .stuck => True
noncomputable def S6 (i : Nat) (P0 : List Slots) (L : Nat) (U : Nat -> Fn) : Prop := ∀ k p as, k < L -> p.length <= 1 -> SmO i P0 p.length (U k p as) (U k (Up i P0 p) (rnF i as))
section
variable {U : Nat -> Fn} {i n j L : Nat} {P0 : List Slots} {st st1 st' : St} {f g : F} {α : Type} {o o' : Option F} {p : Pl} {v : Slots} {fs : List F} {xs : List PyData}
theorem x2x : (rn i f).frz = rn i f.frz := by cases f <;> rfl
theorem R9 : ∀ {fs : List F}, valsOf (rnF i fs) = valsOf fs
 | [] => rfl
 | f :: fs => by cases f <;> first | rfl | exact congrArg (Option.map _) (R9 (fs := fs))
theorem V2 : valOf (rn i f) = valOf f := by cases f <;> rfl
theorem U6 : one (rnF i fs) = (one fs).map (rn i) := by
 match fs with
 | [] => rfl
 | [_] => rfl
 | _ :: _ :: _ => rfl
theorem U4 {k : F -> Option α} (hk : ∀ f, k (rn i f) = k f) : (one (rnF i fs)).bind k = (one fs).bind k := by
 rw [U6]
 cases one fs with
 | none => rfl
 | some f => exact hk f
theorem B4 : oneV (rnF i fs) = oneV fs := U4 fun _ => V2
theorem gV : (rnF i fs).isEmpty = fs.isEmpty := by cases fs <;> rfl
theorem M0 (hl : st.p.length = n) (h : ∀ g, o = some g -> o' = some (rn i g)) : Sm i P0 n (rnF i) (oneO o st) (oneO o' (up i P0 st)) := by
 cases o with
 | none => trivial
 | some g => rw [h g rfl]; exact ⟨rfl, hl⟩
theorem aN (hl : st.p.length = n) (hv : ∀ g, o = some g -> VO g) : Sm i P0 n (rnF i) (oneO o st) (oneO o (up i P0 st)) := M0 hl fun g e => by rw [hv g e]; exact e
theorem lst_rn : lstOf (rn i f) = lstOf f := by cases f <;> rfl
theorem own_rn : ownOf (rn i f) = ownOf f := by cases f <;> rfl
theorem dct_rn : R4 (rn i f) = R4 f := by cases f <;> rfl
theorem cG (hi : i < P0.length) (hn : st.p.length <= 1) (h : listAt st p = some xs) : listAt (up i P0 st) p = some xs := by
 obtain ⟨f, h1, h2⟩ := c0 h
 unfold listAt
 rw [E6 hi hn h1]
 exact lst_rn.trans h2
theorem Q9 (hi : i < P0.length) (hn : st.p.length <= 1) (h : ownAt st p = some xs) : ownAt (up i P0 st) p = some xs := by
 obtain ⟨f, h1, h2⟩ := c0 h
 unfold ownAt
 rw [E6 hi hn h1]
 exact own_rn.trans h2
theorem pV {es : List (List Int × PyData)} (hi : i < P0.length) (hn : st.p.length <= 1) (h : dctAt st p = some es) : dctAt (up i P0 st) p = some es := by
 obtain ⟨f, h1, h2⟩ := c0 h
 unfold dctAt
 rw [E6 hi hn h1]
 exact dct_rn.trans h2
theorem eG {o : Option F} : seen (o.map (rn i)) = (seen o).map (rn i) := by
 cases o with
 | none => rfl
 | some f => cases f <;> rfl
theorem lM : ∀ {fs : List F}, args (rnS i v) (rnF i fs) = (args v fs).map (rnF i)
 | [] => rfl
 | f :: fs => by
  have ih := lM (fs := fs)
  cases f with
  | val d => show (args (rnS i v) (rnF i fs)).map _ = ((args v fs).map _).map _; rw [ih]; cases args v fs <;> rfl
  | pg k => show (args (rnS i v) (rnF i fs)).map _ = ((args v fs).map _).map _; rw [ih]; cases args v fs <;> rfl
  | lnd j =>
   show (seen (slot (rnS i v) j)).bind (fun f => (args (rnS i v) (rnF i fs)).map fun l => f :: l) = ((seen (slot v j)).bind fun f => (args v fs).map fun l => f :: l).map _
   rw [ih, M8, eG]
   cases seen (slot v j) with
   | none => rfl
   | some g => cases args v fs <;> rfl
  | _ => rfl
theorem x1I {d : PyData} : inV (rnS i v) d = rnS i (inV v d) := by
 unfold inV rnS
 rw [List.map_append, List.map_map, List.map_map]
 congr 1
 exact List.map_congr_left fun o _ => eG
theorem wZ (hi : i < P0.length) (hl : st.p.length = n) (hn : n <= 1) : Sm i P0 n (rnF i) (getE p st) (getE p (up i P0 st)) := by
 unfold getE
 cases h : getP st p with
 | none => trivial
 | some f =>
  rw [E6 hi (hl ▸ hn) h]
  cases f with
  | val d => exact ⟨rfl, hl⟩
  | pg k => exact ⟨rfl, hl⟩
  | own xs =>
   dsimp only [rn]
   cases h2 : setP st (some (.val (.list xs))) p with
   | none => trivial
   | some st1 =>
    have := R0 hi (hl ▸ hn) h2
    rw [show setP (up i P0 st) (some (.val (.list xs))) p = _ from this.1]
    exact ⟨rfl, this.2.trans hl⟩
  | _ => trivial
theorem yI (hi : i < P0.length) (hl : st.p.length = n) (hn : n <= 1) : Sm i P0 n (rnF i) (O6 p st) (O6 p (up i P0 st)) := by
 unfold O6
 cases h : getP st p with
 | none => trivial
 | some f =>
  rw [E6 hi (hl ▸ hn) h]
  cases f with
  | own xs =>
   dsimp only [rn]
   cases h2 : setP st none p with
   | none => trivial
   | some st1 =>
    have := R0 hi (hl ▸ hn) h2
    rw [show setP (up i P0 st) none p = _ from this.1]
    exact ⟨rfl, this.2.trans hl⟩
  | _ => trivial
theorem vI {o : Op} (hl : st.p.length = n) : Sm i P0 n (rnF i) (o3 o fs st) (o3 o (rnF i fs) (up i P0 st)) := by
 unfold o3
 rw [R9]
 exact aN hl fun g e => k7 (fun _ _ h => x0c h) e
theorem kS {o : CmpOp} (hl : st.p.length = n) : Sm i P0 n (rnF i) (G1 o fs st) (G1 o (rnF i fs) (up i P0 st)) := by
 unfold G1
 rw [R9]
 exact aN hl fun g e => k7 (fun _ _ h => k7 (fun _ _ h => w6 (fun _ => o6) h) h) e
theorem T2 {r r' : R (List F)} (H : Sm i P0 n (rnF i) r r') : Sm i P0 n id (toB r) (toB r') := H.bind fun fs st hl => by
 rw [show boolL (rnF i fs) = boolL fs from U4 fun f => by rw [V2]]
 cases boolL fs with
 | none => trivial
 | some b => exact ⟨rfl, hl⟩
theorem x1e {o : Pk} (ho : (o.ctorIdx != 5) = true) (hi : i < P0.length) (hl : st.p.length = n) (hn : n <= 1) : Sm i P0 n (rnF i) (H0 o p fs st) (H0 o p (rnF i fs) (up i P0 st)) := by
 cases o with
 | len =>
  refine M0 hl fun g e => ?_
  rw [gV]
  obtain ⟨u, h1, e⟩ := c0 e
  obtain ⟨xs, h2, e⟩ := c0 e
  rw [h1]
  show (listAt (up i P0 st) p).bind _ = _
  rw [cG hi (hl ▸ hn) h2, w6 (f := intV) (fun _ => o6) e]
  exact e
 | copy =>
  refine M0 hl fun g e => ?_
  rw [gV]
  obtain ⟨u, h1, e⟩ := c0 e
  obtain ⟨xs, h2, e⟩ := c0 e
  rw [h1]
  show (listAt (up i P0 st) p).bind _ = _
  rw [cG hi (hl ▸ hn) h2, u4 J6 e]
  exact e
 | idx =>
  refine M0 hl fun g e => ?_
  rw [B4]
  obtain ⟨k, h1, e⟩ := c0 e
  obtain ⟨q, h2, e⟩ := c0 e
  obtain ⟨xs, h3, e⟩ := c0 e
  rw [h1]
  show (asI k).bind _ = _
  rw [h2]
  show (listAt (up i P0 st) p).bind _ = _
  rw [cG hi (hl ▸ hn) h3, w6 (fun _ => o6) e]
  exact e
 | key =>
  refine M0 hl fun g e => ?_
  rw [B4]
  obtain ⟨k, h1, e⟩ := c0 e
  obtain ⟨q, h2, e⟩ := c0 e
  obtain ⟨xs, h3, e⟩ := c0 e
  rw [h1]
  show (keyI k).bind _ = _
  rw [h2]
  show (dctAt (up i P0 st) p).bind _ = _
  rw [pV hi (hl ▸ hn) h3, w6 (fun _ => o6) e]
  exact e
 | pgx => cases ho
 | pop =>
  show Sm i P0 n (rnF i) (match G8 p fs st with | some q => R.ok [.val q.1] q.2 | none => .stuck) (match G8 p (rnF i fs) (up i P0 st) with | some q => R.ok [.val q.1] q.2 | none => .stuck)
  cases e : G8 p fs st with
  | none => trivial
  | some q =>
   obtain ⟨u, h1, e⟩ := c0 e
   obtain ⟨xs, h2, e⟩ := c0 e
   obtain ⟨d, h3, e⟩ := c0 e
   obtain ⟨u', h4, e⟩ := c0 e
   obtain ⟨st1, h5, rfl⟩ := m3 e
   have z := R0 hi (hl ▸ hn) h5
   have : G8 p (rnF i fs) (up i P0 st) = some (d, up i P0 st1) := by
    unfold G8
    rw [gV, h1]
    show (ownAt (up i P0 st) p).bind _ = _
    rw [Q9 hi (hl ▸ hn) h2]
    show (xs.getLast?).bind _ = _
    rw [h3]
    show (gd (okLen xs.length) ()).bind _ = _
    rw [h4]
    show (setP (up i P0 st) (some (.own xs.dropLast)) p).map _ = _
    rw [show setP (up i P0 st) (some (.own xs.dropLast)) p = _ from z.1]; rfl
   rw [this]
   exact ⟨rfl, z.2.trans hl⟩
theorem qP {pure : Bool} {r r' : Out} (hl : st.p.length = n) (h : SmO i P0 (C6 pure st).length r r') : Sm i P0 n (rnF i) (outE pure r st) (outE pure r' (up i P0 st)) := by
 cases r with
 | ret f q =>
  obtain ⟨rfl, h2⟩ := h
  cases pure with
  | true => exact ⟨rfl, hl⟩
  | false => exact ⟨rfl, h2.trans hl⟩
 | exc k q =>
  obtain ⟨rfl, h2⟩ := h
  cases pure with
  | true => exact ⟨rfl, hl⟩
  | false => exact ⟨rfl, h2.trans hl⟩
 | stuck => trivial
theorem x4T {pure : Bool} : C6 pure (up i P0 st) = Up i P0 (C6 pure st) := by cases pure <;> rfl
theorem x1k {pure : Bool} (hl : st.p.length = n) (hn : n <= 1) : (C6 pure st).length <= 1 := by
 cases pure with
 | true => exact Nat.zero_le _
 | false => exact hl ▸ hn
theorem mS {pure : Bool} {k : Nat} (HG : S6 i P0 L U) (hk : k < L) (hl : st.p.length = n) (hn : n <= 1) : Sm i P0 n (rnF i) (callE U pure k fs st) (callE U pure k (rnF i fs) (up i P0 st)) := by
 unfold callE
 show Sm i P0 n (rnF i) _ (match args (rnS i st.v) (rnF i fs) with | some as => outE pure (U k (C6 pure (up i P0 st)) as) (up i P0 st) | none => .stuck)
 rw [lM, x4T]
 cases args st.v fs with
 | none => trivial
 | some as => exact qP hl (HG k _ as hk (x1k hl hn))
theorem x4X {k : Nat} (HG : S6 i P0 L U) (hk : k < L) (hi : i < P0.length) (hl : st.p.length = n) (hn : n <= 1) : Sm i P0 n (rnF i) (X3 U k p st) (X3 U k p (up i P0 st)) := by
 unfold X3
 cases h : getP st p with
 | none => trivial
 | some f =>
  rw [E6 hi (hl ▸ hn) h, show seen (some (rn i f)) = (seen (some f)).map (rn i) from eG (o := some f)]
  cases seen (some f) with
  | none => trivial
  | some g => exact qP (pure := true) hl (HG k [] [g] hk (Nat.zero_le _))
theorem vK {t : PyData -> Option (List PyData)} : itF1 t (rnS i v) (rn i f) = itF1 t v f := by
 cases f with
 | lnd j =>
  show (match slot (rnS i v) j with | some (.brw xs) => gd (okLen xs.length) xs | some (.val d) => t d | _ => none) = (match slot v j with | some (.brw xs) => gd (okLen xs.length) xs | some (.val d) => t d | _ => none)
  rw [M8]
  cases slot v j with
  | none => rfl
  | some g => cases g <;> rfl
 | _ => rfl
theorem tY {kd : Nat} (hl : st.p.length = n) : Sm i P0 n id (itE kd fs st) (itE kd (rnF i fs) (up i P0 st)) := by
 have e : itF kd (rnS i st.v) (rnF i fs) = itF kd st.v fs := by
  match kd with
  | 0 =>
   show (one (rnF i fs)).bind _ = (one fs).bind _
   rw [U6]
   cases one fs with
   | none => rfl
   | some f => exact vK
  | 1 =>
   show ((one (rnF i fs)).bind fun f => (valOf f).bind _).or ((valsOf (rnF i fs)).bind _) = _
   rw [R9, U4 (k := fun f => (valOf f).bind _) fun f => by rw [V2]]
   rfl
  | 2 =>
   show ((one (rnF i fs)).bind _).map _ = ((one fs).bind _).map _
   rw [U6]
   cases one fs with
   | none => rfl
   | some f => exact congrArg (Option.map (enumFrom 0)) vK
  | k + 3 => rfl
 unfold itE
 show Sm i P0 n id _ (match itF kd (rnS i st.v) (rnF i fs) with | some xs => .ok xs (up i P0 st) | none => .stuck)
 rw [e]
 cases itF kd st.v fs with
 | none => trivial
 | some xs => exact ⟨rfl, hl⟩
theorem oW {s s' : PyData -> List Slots -> R (List PyData)} (h : ∀ d p, p.length = n -> Sm i P0 n id (s d p) (s' d (Up i P0 p))) : ∀ (xs : List PyData) (p : List Slots) q, p.length = n -> mapR s xs p = some q -> mapR s' xs (Up i P0 p) = some (q.1, Up i P0 q.2) /\ q.2.length = n
 | [], p, q, hl, e => by cases e; exact ⟨rfl, hl⟩
 | x :: xs, p, q, hl, e => by
  rw [T4] at e ⊢
  have h1 := h x p hl
  cases hr : s x p with
  | ok ys st =>
   rw [hr] at e h1
   rw [h1.1]
   obtain ⟨w, h2, rfl⟩ := m3 e
   obtain ⟨h3, h4⟩ := oW h xs st.p w h1.2 h2
   refine ⟨?_, h4⟩
   show (mapR s' xs (Up i P0 st.p)).map _ = _
   rw [h3]; rfl
  | exc k st => rw [hr] at e; cases e
  | stuck => rw [hr] at e; cases e
theorem x6f {k : Nat} {s s' : PyData -> List Slots -> R (List PyData)} (hl : st.p.length = n) (h : ∀ d p, p.length = n -> Sm i P0 n id (s d p) (s' d (Up i P0 p))) : Sm i P0 n (rnF i) (E1 k s xs st) (E1 k s' xs (up i P0 st)) := by
 unfold E1
 cases hm : mapR s xs st.p with
 | none => trivial
 | some q =>
  obtain ⟨h1, h2⟩ := oW h xs st.p q hl hm
  show Sm i P0 n (rnF i) _ (match mapR s' xs (Up i P0 st.p) with | some q => if okLen xs.length && (rnS i st.v).length == k then .ok [.own q.1] ⟨rnS i st.v, q.2, st.x⟩ else .stuck | none => .stuck)
  rw [h1, i7]
  dsimp only
  cases okLen xs.length && st.v.length == k with
  | true => exact ⟨rfl, h2⟩
  | false => trivial
theorem xX (HG : S6 i P0 L U) (hi : i < P0.length) (hn : n <= 1) (e : CE) : ∀ st, st.p.length = n -> n6 L e = true -> Sm i P0 n (rnF i) (ev U e st) (ev U e (up i P0 st)) := by
 induction e with
 | nil => exact fun st hl _ => ⟨rfl, hl⟩
 | cons a b iha ihb =>
  exact fun st hl h => (iha st hl (and2 h).1).bind fun x st hl => match x with
   | [] => trivial
   | [f] => (ihb st hl (and2 h).2).bind fun y st hl => ⟨congrArg (fun z => R.ok (z :: rnF i y) (up i P0 st)) x2x, hl⟩
   | _ :: _ :: _ => trivial
 | lit d => exact fun st hl _ => ⟨rfl, hl⟩
 | get p => exact fun st hl _ => wZ hi hl hn
 | mv p => exact fun st hl _ => yI hi hl hn
 | lend j =>
  intro st hl _
  show Sm i P0 n (rnF i) (if (slot st.v j).isSome then .ok [.lnd j] st else .stuck) (if (slot (rnS i st.v) j).isSome then .ok [.lnd j] (up i P0 st) else .stuck)
  rw [M8]
  cases slot st.v j with
  | none => trivial
  | some f => exact ⟨rfl, hl⟩
 | glob k => exact fun st hl _ => aN hl fun g e => w6 (fun _ => o6) e
 | op o a iha => exact fun st hl h => (iha st hl h).bind fun x st hl => vI hl
 | sm o a b iha ihb =>
  intro st hl h
  refine (iha st hl (and2 h).1).bind fun x st hl => ?_
  rw [U4 (k := C9) fun f => by unfold C9; rw [V2]]
  cases (one x).bind C9 with
  | none => trivial
  | some q => exact (ihb st hl (and2 h).2).bind fun y st hl => vI (fs := .val (.str q) :: y) hl
 | peek o p a iha =>
  intro st hl h
  show Sm i P0 n (rnF i) (if (getP st p).isSome then _ else .stuck) (if (getP (up i P0 st) p).isSome then _ else .stuck)
  cases hg : getP st p with
  | none => trivial
  | some f =>
   rw [E6 hi (hl ▸ hn) hg]
   exact (iha st hl (and2 h).1).bind fun x st hl => x1e (and2 h).2 hi hl hn
 | cmp o a iha => exact fun st hl h => (iha st hl h).bind fun x st hl => kS hl
 | cmpNil ne p =>
  exact fun st hl _ => M0 hl fun g e => by
   obtain ⟨xs, h1, rfl⟩ := m3 e
   rw [cG hi (hl ▸ hn) h1]; rfl
 | inOpen a iha =>
  exact fun st hl h => (iha st hl h).bind fun x st hl => by
   rw [U4 (k := fun f => (C9 f).map fun s => bV (openF s).isSome) fun f => by unfold C9; rw [V2]]
   exact aN hl fun g e => k7 (fun _ _ h => w6 (fun _ => o6) h) e
 | chain a o1 o2 b iha ihb =>
  intro st hl h
  refine (iha st hl (and2 h).1).bind fun x st hl => ?_
  rw [R9]
  cases (valsOf x).bind z8 with
  | none => trivial
  | some q =>
   dsimp only
   cases cmpF o1 q.1 q.2 with
   | none => trivial
   | some b =>
    cases b with
    | true => exact (ihb st hl (and2 h).2).bind fun y st hl => kS (fs := .val q.2 :: y) hl
    | false => exact ⟨rfl, hl⟩
 | not a iha => exact fun st hl h => (T2 (iha st hl h)).bind fun b st hl => ⟨rfl, hl⟩
 | and a b iha ihb =>
  exact fun st hl h => (T2 (iha st hl (and2 h).1)).bind fun t st hl => match t with
   | true => ihb st hl (and2 h).2
   | false => ⟨rfl, hl⟩
 | or a b iha ihb =>
  exact fun st hl h => (T2 (iha st hl (and2 h).1)).bind fun t st hl => match t with
   | false => ihb st hl (and2 h).2
   | true => ⟨rfl, hl⟩
 | call pure k a iha => exact fun st hl h => (iha st hl (and2 h).1).bind fun x st hl => mS HG (k6 (and2 h).2) hl hn
 | callP k p => exact fun st hl h => x4X HG (k6 h) hi hl hn
 | meth k a b iha ihb =>
  exact fun st hl h => (iha st hl (and2 (and2 h).1).1).bind fun x st hl => match x with
   | [.pg m] => (ihb st hl (and2 (and2 h).1).2).bind fun y st hl => mS (fs := .pg m :: y) HG (k6 (and2 h).2) hl hn
   | [.val _] => trivial
   | [.own _] => trivial
   | [.brw _] => trivial
   | [.lnd _] => trivial
   | [.dct _] => trivial
   | [.ex _] => trivial
   | [.pgs _] => trivial
   | [] => trivial
   | f :: _ :: _ => by cases f <;> trivial
 | new a => exact fun st hl h => nomatch h
 | comp k kd s e c ihs ihe ihc =>
  intro st hl h
  refine ((ihs st hl (and2 (and2 h).1).1).bind fun x st hl => tY hl).bind fun xs st hl => x6f hl fun d p hp => ?_
  have hin : inV (rnS i st.v) d = rnS i (inV st.v d) := x1I
  refine Sm.bind (h := id) ?_ fun b st' hl' => ?_
  . unfold cndE
    cases c.ctorIdx == 0 with
    | true => exact ⟨by show R.ok true ⟨inV (rnS i st.v) d, Up i P0 p, 0⟩ = _; rw [hin]; rfl, hp⟩
    | false =>
     have := T2 (ihc ⟨inV st.v d, p, 0⟩ hp (and2 h).2)
     show Sm i P0 n id (toB (ev U c ⟨inV st.v d, p, 0⟩)) (toB (ev U c ⟨inV (rnS i st.v) d, Up i P0 p, 0⟩))
     rw [hin]
     exact this
  . cases b with
    | false => exact ⟨rfl, hl'⟩
    | true =>
     have := ihe ⟨inV st.v d, st'.p, 0⟩ hl' (and2 (and2 h).1).2
     show Sm i P0 n id ((ev U e ⟨inV st.v d, st'.p, 0⟩).bind Q4) ((ev U e ⟨inV (rnS i st.v) d, Up i P0 st'.p, 0⟩).bind Q4)
     rw [hin]
     refine Sm.bind this fun y st hl => ?_
     unfold Q4 C2
     rw [B4]
     cases oneV y with
     | none => trivial
     | some d => exact ⟨rfl, hl⟩
 | isEx _ _ => exact fun _ _ h => nomatch h
theorem J9 {o o' : Option St} (hl : st.p.length = n) (h : ∀ st1, o = some st1 -> o' = some (up i P0 st1) /\ st1.p.length = st.p.length) : Sm i P0 n (u9 i) (nextO o) (nextO o') := by
 cases o with
 | none => trivial
 | some st1 => rw [(h st1 rfl).1]; exact ⟨rfl, (h st1 rfl).2.trans hl⟩
theorem W6 {o : Option F} (hi : i < P0.length) (hl : st.p.length = n) (hn : n <= 1) (ho : o.map (rn i) = o) (h : setP st o p = some st1) : setP (up i P0 st) o p = some (up i P0 st1) /\ st1.p.length = st.p.length := by
 have z := R0 (i := i) (P0 := P0) hi (hl ▸ hn) h
 rw [ho] at z
 exact z
theorem vF : storO (rn i f) p = (storO f p).map (rn i) := by
 cases f with
 | pg k => show gd _ _ = (gd _ _).map _; cases !i0 p <;> rfl
 | _ => rfl
theorem zP (hi : i < P0.length) (hl : st.p.length = n) (hn : n <= 1) : Sm i P0 n (u9 i) (R3 p fs st) (R3 p (rnF i fs) (up i P0 st)) := J9 hl fun st1 e => by
 obtain ⟨f, h1, e⟩ := c0 e
 obtain ⟨g, h2, e⟩ := c0 e
 rw [U6, h1]
 show (storO (rn i f) p).bind _ = _ /\ _
 rw [vF, h2]
 exact R0 hi (hl ▸ hn) e
theorem vH : ∀ {is : List Nat} {ds : List PyData} {v w : Slots}, setAll is ds v = some w -> setAll is ds (rnS i v) = some (rnS i w)
 | [], ds, v, w, h => by obtain ⟨h1, rfl⟩ := i5 h; show gd _ _ = _; rw [h1]; rfl
 | _ :: _, [], v, w, h => nos h
 | j :: is, d :: ds, v, w, h => by
  obtain ⟨u, h1, h⟩ := c0 h
  show (gd (decide (j < (rnS i v).length)) ()).bind (fun _ => setAll is ds ((rnS i v).set j (some (.val d)))) = _
  rw [i7, h1]
  have z := vH h
  rw [show rnS i (v.set j (some (.val d))) = (rnS i v).set j (some (.val d)) from List.map_set] at z
  exact z
theorem gM {many : Bool} {is : List Nat} {d : PyData} (h : bindT many is d st = some st1) : bindT many is d (up i P0 st) = some (up i P0 st1) /\ st1.p.length = st.p.length := by
 obtain ⟨w, h0, rfl⟩ := m3 h
 obtain ⟨ds, h1, h2⟩ := c0 h0
 refine ⟨?_, rfl⟩
 unfold bindT
 rw [h1]
 show (setAll is ds (rnS i st.v)).map _ = _
 rw [vH h2]; rfl
theorem x6b {is : List Nat} (hl : st.p.length = n) : Sm i P0 n (u9 i) (hZ is fs st) (hZ is (rnF i fs) (up i P0 st)) := J9 hl fun st1 e => by
 obtain ⟨d, h1, e⟩ := c0 e
 rw [B4, h1]
 exact gM e
theorem zN {ks : List F} (hi : i < P0.length) (hl : st.p.length = n) (hn : n <= 1) : Sm i P0 n (u9 i) (U2 p fs ks st) (U2 p (rnF i fs) (rnF i ks) (up i P0 st)) := J9 hl fun st1 e => by
 obtain ⟨d, h1, e⟩ := c0 e
 obtain ⟨k, h2, e⟩ := c0 e
 obtain ⟨m, h3, e⟩ := c0 e
 obtain ⟨xs, h4, e⟩ := c0 e
 obtain ⟨u, h5, e⟩ := c0 e
 rw [B4, h1, Option.bind_some, B4, h2, Option.bind_some, h3, Option.bind_some, Q9 hi (hl ▸ hn) h4, Option.bind_some, h5, Option.bind_some]
 exact W6 hi hl hn rfl e
theorem x3x {ks : List F} (hi : i < P0.length) (hl : st.p.length = n) (hn : n <= 1) : Sm i P0 n (u9 i) (bP p fs ks st) (bP p (rnF i fs) (rnF i ks) (up i P0 st)) := J9 hl fun st1 e => by
 obtain ⟨d, h1, e⟩ := c0 e
 obtain ⟨k, h2, e⟩ := c0 e
 obtain ⟨m, h3, e⟩ := c0 e
 obtain ⟨xs, h4, e⟩ := c0 e
 obtain ⟨u, h5, e⟩ := c0 e
 rw [B4, h1, Option.bind_some, B4, h2, Option.bind_some, h3, Option.bind_some, pV hi (hl ▸ hn) h4, Option.bind_some, h5, Option.bind_some]
 exact W6 hi hl hn rfl e
theorem x5P (hi : i < P0.length) (hl : st.p.length = n) (hn : n <= 1) : Sm i P0 n (u9 i) (T1 p fs st) (T1 p (rnF i fs) (up i P0 st)) := J9 hl fun st1 e => by
 obtain ⟨d, h1, e⟩ := c0 e
 obtain ⟨xs, h4, e⟩ := c0 e
 obtain ⟨u, h5, e⟩ := c0 e
 rw [B4, h1, Option.bind_some, Q9 hi (hl ▸ hn) h4, Option.bind_some, h5, Option.bind_some]
 exact W6 hi hl hn rfl e
theorem x4h (hi : i < P0.length) (hl : st.p.length = n) (hn : n <= 1) : Sm i P0 n (u9 i) (kA p st) (kA p (up i P0 st)) := J9 hl fun st1 e => by
 obtain ⟨xs, h4, e⟩ := c0 e
 obtain ⟨u, h5, e⟩ := c0 e
 rw [Q9 hi (hl ▸ hn) h4, Option.bind_some, h5, Option.bind_some]
 exact W6 hi hl hn rfl e
theorem yM (hl : st.p.length = n) : Sm i P0 n (u9 i) (P5 fs st) (P5 (rnF i fs) (up i P0 st)) := by
 unfold P5
 rw [U6]
 cases one fs with
 | none => trivial
 | some f =>
  show Sm i P0 n (u9 i) (match storO f (.fld 0 0) with | some f => .ok (.ret f) st | none => .stuck) (match storO (rn i f) (.fld 0 0) with | some f => .ok (.ret f) (up i P0 st) | none => .stuck)
  rw [vF]
  cases storO f (.fld 0 0) with
  | none => trivial
  | some g => exact ⟨rfl, hl⟩
theorem zY {r r' : R Fl} (H : Sm i P0 n (u9 i) r r') : Sm i P0 n (u9 i) (A6 r) (A6 r') := by
 cases r with
 | ok x st => obtain ⟨rfl, h⟩ := H; exact ⟨rfl, h⟩
 | exc k st => trivial
 | stuck => trivial
theorem vD {s s' : PyData -> St -> R Fl} (h : ∀ d st, st.p.length = n -> Sm i P0 n (u9 i) (s d st) (s' d (up i P0 st))) : ∀ (xs : List PyData) (st : St), st.p.length = n -> Sm i P0 n (u9 i) (forL s xs st) (forL s' xs (up i P0 st))
 | [], st, hl => ⟨rfl, hl⟩
 | x :: xs, st, hl => by
  rw [iA, iA]
  have h1 := h x st hl
  cases hr : s x st with
  | ok fl st1 =>
   rw [hr] at h1
   rw [h1.1]
   cases fl with
   | next => exact vD h xs st1 h1.2
   | ret f => exact ⟨rfl, h1.2⟩
  | exc k st1 => trivial
  | stuck => trivial
theorem x0B (HG : S6 i P0 L U) (hi : i < P0.length) (hn : n <= 1) (s : CS) : ∀ st, st.p.length = n -> x9 L s = true -> Sm i P0 n (u9 i) (ex U s st) (ex U s (up i P0 st)) := by
 have E := xX HG hi hn
 induction s with
 | nil => exact fun st hl _ => ⟨rfl, hl⟩
 | seq s r ihs ihr =>
  exact fun st hl h => (ihs st hl (and2 h).1).bind fun fl st hl => match fl with
   | .next => ihr st hl (and2 h).2
   | .ret f => ⟨rfl, hl⟩
 | assign p e => exact fun st hl h => (E e st hl h).bind fun x st hl => zP hi hl hn
 | setd p => exact fun st hl h => J9 hl fun st1 e => W6 hi hl hn rfl e
 | unpack is e => exact fun st hl h => (E e st hl h).bind fun x st hl => x6b hl
 | setidx p k v =>
  intro st hl h
  refine (E v st hl (and2 h).2).bind fun x st hl => ?_
  rw [B4]
  cases oneV x with
  | none => trivial
  | some d =>
   cases hg : getP st p with
   | none => trivial
   | some f =>
    rw [E6 hi (hl ▸ hn) hg]
    exact (E k st hl (and2 h).1).bind fun y st hl => zN hi hl hn
 | setkey p k v =>
  intro st hl h
  refine (E v st hl (and2 h).2).bind fun x st hl => ?_
  rw [B4]
  cases oneV x with
  | none => trivial
  | some d =>
   cases hg : getP st p with
   | none => trivial
   | some f =>
    rw [E6 hi (hl ▸ hn) hg]
    exact (E k st hl (and2 h).1).bind fun y st hl => x3x hi hl hn
 | append p e =>
  intro st hl h
  show Sm i P0 n (u9 i) (if (ownAt st p).isSome then _ else .stuck) (if (ownAt (up i P0 st) p).isSome then _ else .stuck)
  cases hg : ownAt st p with
  | none => trivial
  | some f =>
   rw [Q9 hi (hl ▸ hn) hg]
   exact (E e st hl h).bind fun y st hl => x5P hi hl hn
 | clear p => exact fun st hl h => x4h hi hl hn
 | drop e => exact fun st hl h => (E e st hl h).bind fun x st hl => ⟨rfl, hl⟩
 | ret e => exact fun st hl h => (E e st hl h).bind fun x st hl => yM hl
 | retN => exact fun st hl _ => ⟨rfl, hl⟩
 | iff e a b iha ihb =>
  exact fun st hl h => (T2 (E e st hl (and2 h).1)).bind fun t st hl => match t with
   | true => iha st hl (and2 (and2 h).2).1
   | false => ihb st hl (and2 (and2 h).2).2
 | loop many is kd e b ihb =>
  exact fun st hl h => ((E e st hl (and2 h).1).bind fun x st hl => tY hl).bind fun xs st hl => vD (fun d st hl => by
   cases hb : bindT many is d st with
   | none => trivial
   | some st1 =>
    rw [(gM hb).1]
    exact ihb st1 ((gM (i := i) (P0 := P0) hb).2.trans hl) (and2 h).2) xs st hl
 | whl _ _ _ => exact fun _ _ h => nomatch h
 | raise k => exact fun st hl _ => ⟨rfl, hl⟩
 | try_ b hs ihb ihh =>
  intro st hl h
  have h1 := ihb st hl (and2 h).1
  show Sm i P0 n (u9 i) (tryE (ex U b st) (ex U hs)) (tryE (ex U b (up i P0 st)) (ex U hs))
  cases hr : ex U b st with
  | ok x st => rw [hr] at h1; rw [h1.1]; exact ⟨rfl, h1.2⟩
  | exc k st => rw [hr] at h1; rw [h1.1]; exact ihh { st with x := k } h1.2 (and2 h).2
  | stuck => trivial
 | hd c j s r ihs ihr =>
  intro st hl h
  cases j with
  | none =>
   show Sm i P0 n (u9 i) (if decide (st.x < 5) && y7 st.x c then A6 (ex U s st) else ex U r st) (if decide (st.x < 5) && y7 st.x c then A6 (ex U s (up i P0 st)) else ex U r (up i P0 st))
   cases decide (st.x < 5) && y7 st.x c with
   | false => exact ihr st hl (and2 (and2 h).2).2
   | true => exact zY (ihs st hl (and2 (and2 h).2).1)
  | some j => cases h
 | hnil => exact fun _ _ _ => trivial
 | pages _ _ _ _ => exact fun _ _ h => nomatch h
theorem tP {P : Tab} (hi : i < P0.length) (hP : (P.all fun q => decide (L <= q.1) || x9 L q.2.body) = true) : ∀ m, S6 i P0 L (Gam P m)
 | 0 => fun _ _ _ _ _ => trivial
 | m + 1 => fun k p as hk hp => by
  cases hd : P.lookup k with
  | none => show SmO _ _ _ ((match P.lookup k with | some d => w7 (Gam P m) d.ps.length d.vs.length d.body | none => fun _ _ => .stuck) p as) _; rw [hd]; trivial
  | some d =>
   rw [cT hd]
   unfold w7
   rw [i7]
   by_cases hl : as.length = d.ps.length
   . rw [if_pos hl, if_pos hl]
     have hn : x9 L d.body = true := by
      obtain ⟨l1, l2, e, _⟩ := List.lookup_eq_some_iff.mp hd
      have := List.all_eq_true.mp hP (k, d) (by rw [e]; simp)
      rw [show decide (L <= k) = false from dff (by lia)] at this
      exact this
     have z := x0B (tP hi hP m) hi hp d.body ⟨as.map some ++ List.replicate d.vs.length none, p, 0⟩ rfl hn
     rw [show up i P0 ⟨as.map some ++ List.replicate d.vs.length none, p, 0⟩ = ⟨(rnF i as).map some ++ List.replicate d.vs.length none, Up i P0 p, 0⟩ from congrArg (fun w => (⟨w, Up i P0 p, 0⟩ : St)) (by
      unfold rnS rnF
      rw [List.map_append, List.map_map, List.map_map, List.map_replicate]; rfl)] at z
     cases hr : ex (Gam P m) d.body ⟨as.map some ++ List.replicate d.vs.length none, p, 0⟩ with
     | ok fl st =>
      rw [hr] at z
      rw [z.1]
      cases fl with
      | next => exact ⟨rfl, z.2⟩
      | ret f => exact ⟨rfl, z.2⟩
     | exc k st => rw [hr] at z; rw [z.1]; exact ⟨rfl, z.2⟩
     | stuck => trivial
   . rw [if_neg hl]; trivial
noncomputable def PO (q : Slots) : Prop := ∀ i, rnS i q = q
theorem mR {P : Tab} {m k : Nat} {q q' : Slots} {ds : List PyData} (hP : (P.all fun q => decide (L <= q.1) || x9 L q.2.body) = true) (hk : k < L) (hi : P0[i]? = some q) (hq : PO q) (hq' : PO q') (hf : VO f) (h : Gam P m k [q] (.pg 0 :: ds.map .val) = .ret f [q']) : Gam P m k P0 (.pg i :: ds.map .val) = .ret f (P0.set i q') := by
 obtain ⟨hi', hs⟩ := n5 hi
 have z := tP (i := i) (P0 := P0) hi' hP m k [q] (.pg 0 :: ds.map .val) hk (Nat.le_refl _)
 rw [h] at z
 have e := z.1
 rw [show Up i P0 [q] = P0 by show P0.set i (rnS i q) = P0; rw [hq i, <- hs, List.set_getElem_self], show rnF i (.pg 0 :: ds.map .val) = .pg i :: ds.map .val by show F.pg i :: (ds.map F.val).map (rn i) = _; rw [List.map_map]; rfl, hf i, show Up i P0 [q'] = P0.set i q' by show P0.set i (rnS i q') = _; rw [hq' i]] at e
 exact e
end
end Mine.Internal.S
end
section
namespace Mine.Internal.L10
open Mine.Internal.S
noncomputable def x5t : CS := .seq (.drop (.meth 20 j7 (j9 (.op .idx (a9 p7 f7)) (.op .idx (a9 p7 j4)) (.op .idx (a9 p7 w9))))) (.seq (.setidx (.loc 2) i8 (b9 (.call true 37 (Q6 n3 (.op .idx (a9 p7 f7)) (.op .idx (a9 p7 j4)) (.op .idx (a9 p7 w9)))))) .nil)
noncomputable def xJ : CS := .seq (.drop (.meth 21 j7 (a9 (.op .idx (a9 p7 f7)) (.op .idx (a9 p7 j4))))) (.seq (.setidx (.loc 2) i8 (b9 (.call true 38 (j9 n3 (.op .idx (a9 p7 f7)) (.op .idx (a9 p7 j4)))))) .nil)
noncomputable def eB : CS := .seq (.assign (.loc 11) (.call true 44 (j9 (.meth 25 j7 .nil) p7 n3))) (.seq (.iff (.cmp .Eq (a9 (.op .idx (a9 p7 j0)) j0)) x5t xJ) (.seq (.iff (.not (.call false 43 (j9 j7 (.peek .idx (.loc 2) (b9 i8)) iH))) (.seq (.ret (.lit (.bool false))) .nil) .nil) .nil))
noncomputable def dB : CS := .seq (.assign (.loc 10) (.call true 39 (a9 n3 (bF g7 B8)))) (.seq (.iff (.cmp .IsNot (a9 p7 (.lit .none))) eB .nil) .nil)
noncomputable def rB : CS := .seq (.assign (.loc 9) (.op .lst (a9 (.call false 41 (b9 j7)) (.call false 42 (b9 j7))))) (.seq (.iff (.or (.not (.call false 40 (j9 j7 n3 (bF g7 oY)))) (.cmp .NotEq (a9 (.op .lst (a9 (.call false 41 (b9 j7)) (.call false 42 (b9 j7)))) rZ))) (.seq (.ret (.lit (.bool false))) .nil) .nil) .nil)
noncomputable def lB : CS := .seq (.assign (.loc 5) (bM (bF g7 B9) j4)) (.seq (.assign (.loc 6) (.peek .pgx (.loc 3) (b9 i8))) (.seq (.assign (.loc 7) (.peek .idx (.loc 2) (b9 i8))) (.seq (.assign (.loc 8) (.call false 41 (b9 (.peek .pgx (.loc 3) (b9 (o0 f7 i8)))))) (.seq (.iff (.cmp .Eq (a9 (bM g7 B8) y4)) rB dB) (.seq (.iff (.cmp .NotEq (a9 (.call false 41 (b9 (.peek .pgx (.loc 3) (b9 (o0 f7 i8))))) C4)) (.seq (.ret (.lit (.bool false))) .nil) .nil) .nil)))))
noncomputable def oE : CE := .peek .pgx (.loc 3) (b9 (o0 f7 i8))
noncomputable def bE : CE := .op .lst (a9 (.call false 41 (b9 j7)) (.call false 42 (b9 j7)))
noncomputable def uH : CS := .iff (.not (.call false 43 (j9 j7 (.peek .idx (.loc 2) (b9 i8)) iH))) (.seq (.ret (.lit (.bool false))) .nil) .nil
noncomputable def x5a : CS := .iff (.cmp .NotEq (a9 (.call false 41 (b9 oE)) C4)) (.seq (.ret (.lit (.bool false))) .nil) .nil
noncomputable def nwE : CE := .new (b9 (.op .list (b9 lN)))
noncomputable def rI : FnDef := ⟨2, "times", ["self"], [], (.seq (.ret (.peek .copy (.fld 0 2) .nil)) .nil)⟩
noncomputable def rN : FnDef := ⟨2, "joins", ["self"], [], (.seq (.ret (.get (.fld 0 4))) .nil)⟩
noncomputable def vE : FnDef := ⟨2, "kept", ["self"], [], (.seq (.ret (.peek .copy (.fld 0 5) .nil)) .nil)⟩
noncomputable def x4k : FnDef := ⟨1, "_law_refused", ["_law_page", "_law_rows", "_law_cell"], ["_law_way"], (.seq (.assign (.loc 3) (bM f6 y4)) (.seq (.try_ (.seq (.iff (.cmp .Eq (a9 f5 j0)) (.seq (.drop (.meth 20 d8 (j9 (.op .len (b9 d7)) j0 (.lit (.str (S [97])))))) .nil) (.seq (.iff (.cmp .Eq (a9 f5 f7)) (.seq (.drop (.meth 21 d8 (a9 j0 (bA (.op .len (b9 (.op .idx (a9 d7 j0)))) f7)))) .nil) (.seq (.iff (.cmp .Eq (a9 f5 j4)) (.seq (.drop (.meth 20 d8 (j9 j0 j0 (.lit (.str (S [97, 98])))))) .nil) (.seq (.drop (.meth 21 d8 (a9 (o0 (.op .len (b9 d7)) f7) (.op .len (b9 (.op .idx (a9 d7 (.op .neg (b9 f7))))))))) .nil)) .nil)) .nil)) .nil) (.hd 1 none (.seq (.ret (.cmp .NotEq (a9 f5 j4))) .nil) (.hd 2 none (.seq (.ret (.cmp .Eq (a9 f5 j4))) .nil) .hnil))) (.seq (.ret (.lit (.bool false))) .nil)))⟩
noncomputable def x3O : FnDef := ⟨1, "_law_seen", ["_law_page"], [], (.seq (.ret (.op .lst (x3Y (.meth 22 d8 .nil) (.meth 23 d8 .nil) (.meth 25 d8 .nil) (.meth 26 d8 .nil) (.meth 27 d8 .nil)))) .nil)⟩
noncomputable def x6x : FnDef := ⟨1, "_law_tree_or", ["_law_page"], [], (.seq (.try_ (.seq (.ret (.meth 24 d8 .nil)) .nil) (.hd 4 none (.seq (.ret (.lit .none)) .nil) .hnil)) .nil)⟩
noncomputable def yW : FnDef := ⟨1, "_law_stands", ["_law_page", "_law_rows", "_law_reads_here"], [], (.seq (.ret (.and (.cmp .Eq (a9 (.meth 22 d8 .nil) d7)) (.and (.cmp .Eq (a9 (.meth 23 d8 .nil) (.call true 35 (b9 d7)))) (.cmp .Eq (a9 (.op .sum (b9 (.meth 25 d8 .nil))) f6))))) .nil)⟩
noncomputable def X6 : FnDef := ⟨0, "_law_reads", ["_law_times", "_law_deed_here", "_law_rows"], ["_law_kind", "_law_row", "_law_place", "_law_sign"], (.seq (.unpack [3, 4, 5, 6] d7) (.seq (.iff (.and (.cmp .Eq (a9 f5 j0)) (.cmp .Eq (a9 j7 (.lit (.str (S [10])))))) (.seq (.ret (bA (o0 (.op .sum (b9 d8)) (.op .idx (a9 d8 g7))) j4)) .nil) .nil) (.seq (.iff (.and (.cmp .Eq (a9 f5 f7)) (.cmp .Eq (a9 i8 (.op .len (b9 (.op .idx (a9 f6 g7))))))) (.seq (.ret (bA (o0 (o0 (.op .sum (b9 d8)) (.op .idx (a9 d8 g7))) (.op .idx (a9 d8 (bA g7 f7)))) f7)) .nil) .nil) (.seq (.ret (bA (.op .sum (b9 d8)) f7)) .nil))))⟩
noncomputable def lW : FnDef := ⟨1, "law", ["_law_script"], ["_law_some", "_law_all_rows", "_law_pages", "_law_cell", "_law_side", "_law_page", "_law_rows", "_law_left", "_law_before", "_law_deed_here", "_law_reads_here"], (.seq (.assign (.loc 1) (.call true 33 (b9 d8))) (.seq (.assign (.loc 2) (.op .lst (a9 d7 (.op .idx (a9 (.op .lst (a9 (.op .rev (b9 d7)) (.op .lst (b9 (.lit (.str (S []))))))) (bM (.call true 30 (a9 d8 w9)) j4)))))) (.seq (.pages 3 12 2 nwE) (.seq (.loop false [4] 0 (.op (.slc true true) (j9 d8 B8 qG)) lB) (.seq (.ret (.and (.cmp .Eq (a9 (.meth 22 (.peek .pgx (.loc 3) (b9 j0)) .nil) (.peek .idx (.loc 2) (b9 j0)))) (.cmp .Eq (a9 (.meth 22 (.peek .pgx (.loc 3) (b9 f7)) .nil) (.peek .idx (.loc 2) (b9 f7)))))) .nil)))))⟩
noncomputable def P : Tab := [(0, bR), (1, hM), (2, cR), (3, fQ), (4, Y0), (5, gS), (6, qZ), (7, dU), (8, jC), (9, eN), (10, jV), (15, aZ), (16, I3), (17, V9), (18, cK), (19, Z9), (20, J0), (21, I2), (22, Z4), (23, bU), (24, aW), (25, rI), (26, rN), (27, vE), (30, dK), (31, gL), (32, jX), (33, jD), (35, tR), (37, rQ), (38, W8), (39, kT), (40, x4k), (41, x3O), (42, x6x), (43, yW), (44, X6), (45, lW)]
end Mine.Internal.L10
end
section
namespace Mine.Internal.L10
open Mine.Internal.S
theorem kd : Pd' P := { l0 := rfl, l1 := rfl, l2 := rfl, l3 := rfl, l4 := rfl, l5 := rfl, l7 := rfl, l8 := rfl, l9 := rfl, l10 := rfl, l15 := rfl, l16 := rfl, l17 := rfl, l18 := rfl, l19 := rfl, l20 := rfl, l21 := rfl, l22 := rfl, l23 := rfl }
theorem td : Td' P := ⟨rfl, rfl, rfl, rfl⟩
noncomputable abbrev rV (rows : LL) : F := .val (.list (sRows rows))
section
variable {rows : LL} {cts : List Nat} {es : Es} {m : Int} {ps : List (Nat × Nat)} {r p c : Nat} {U : Nat -> Fn} {st st1 : St} {d : PyData}
theorem x5S {es : CE} {fs ys : List F} {f : F} {k : Nat} {p' : List Slots} (h : ev U es st = .ok fs st1) (ha : args st1.v fs = some ys) (hr : U k st1.p ys = .ret f p') : ev U (.call false k es) st = .ok [f] { st1 with p := p' } := (qA h).trans (by
 unfold callE
 rw [ha]
 show outE false (U k st1.p ys) st1 = _
 rw [hr]; rfl)
theorem x3Z (n : Nat) : pA (Gam P (n + 2)) := fun rows h hf => (j6 _ rfl _ _).trans (x4w (dN n kd.toKd') h hf)
theorem Z7 (n : Nat) : aK (Gam P (n + 2)) := fun rows cts es m ps h => (j6 _ kd.l23 _ _).trans (x5b (zI n kd.toKd') h)
noncomputable def okT (rows : LL) : Bool := C1 (q4 (faultR (rd rows)))
noncomputable def J3 (rows : LL) : F := if okT rows then .own (S5 rows) else .val .none
noncomputable def v4 (rows : LL) : PyData := if okT rows then .list (S5 rows) else .none
theorem x5y : (J3 rows).frz = .val (v4 rows) := by unfold J3 v4; cases okT rows <;> rfl
theorem x0e : VO (J3 rows) := fun i => by unfold J3; cases okT rows <;> rfl
theorem x2r (n : Nat) (h : Pg rows cts es) : Gam P (n + 4) 42 [pP rows cts es m ps] [.pg 0] = .ret (J3 rows) [pP rows cts es m ps] := by
 refine (j6 _ rfl _ _).trans ?_
 unfold J3
 by_cases hf : faultR (rd rows) = .ok
 . rw [if_pos (show okT rows = true from (bQ _).mpr hf)]
   have e1 := D1 (q8 (U := Gam P (n + 3)) (k := 24) (r := .get (.loc 0)) (es := .nil) (st := ⟨[some (.pg 0)], [pP rows cts es m ps], 0⟩) (st1 := ⟨[some (.pg 0)], [pP rows cts es m ps], 0⟩) (n := 0) (ys := []) rfl rfl rfl ((j6 _ rfl _ _).trans (x5V (x3Z n) (Z7 n) h hf)))
   refine j2 (x' := 0) (v' := [some (.pg 0)]) rfl (f8 ?_)
   show tryE (ex (Gam P (n + 3)) (.seq (.ret (.meth 24 d8 .nil)) .nil) ⟨[some (.pg 0)], [pP rows cts es m ps], 0⟩) _ = _
   rw [f8 e1]; rfl
 . rw [if_neg (show ¬ okT rows = true from fun q => hf ((bQ _).mp q))]
   have e1 := x6C (K7 (U := Gam P (n + 3)) (k := 24) (rc := .get (.loc 0)) (es := .nil) (st := ⟨[some (.pg 0)], [pP rows cts es m ps], 0⟩) (st1 := ⟨[some (.pg 0)], [pP rows cts es m ps], 0⟩) (n := 0) (ys := []) rfl rfl rfl ((j6 _ rfl _ _).trans (x5x (Z7 n) h hf)))
   exact j2 rfl (f8 ((R2 (p0 e1)).trans rfl))
theorem x1w (hp : ps.length <= 64) : okLen (s9 ps).length = true := i6 (by unfold s9; rw [i7]; exact big hp)
theorem x1Y (h : Pg rows cts es) : okLen (encC cts).length = true := i6 (by unfold encC; rw [i7, h.cl]; exact big h.ok.most)
theorem x5B (n : Nat) (hp : ps.length <= 64) : Gam P (n + 1) 27 [pP rows cts es m ps] [.pg 0] = .ret (.own (s9 ps)) [pP rows cts es m ps] := (j6 _ rfl _ _).trans (j2 rfl (f8 (D1 (aY (f := .own (s9 ps)) rfl rfl (x1w hp)))))
theorem cW (n : Nat) (h : Pg rows cts es) : Gam P (n + 1) 25 [pP rows cts es m ps] [.pg 0] = .ret (.own (encC cts)) [pP rows cts es m ps] := (j6 _ rfl _ _).trans (j2 rfl (f8 (D1 (aY (f := .own (encC cts)) rfl rfl (x1Y h)))))
theorem zG (n : Nat) : Gam P (n + 1) 26 [pP rows cts es m ps] [.pg 0] = .ret (.val (.int m)) [pP rows cts es m ps] := (j6 _ rfl _ _).trans (j2 rfl (f8 (k4 rfl)))
theorem dH (n : Nat) (h : Pg rows cts es) : Gam P (n + 1) 22 [pP rows cts es m ps] [.pg 0] = .ret (.own (sRows rows)) [pP rows cts es m ps] := (j6 _ kd.l22 _ _).trans (x5u h.ok)
noncomputable def F5 (rows : LL) (cts : List Nat) (m : Int) (ps : List (Nat × Nat)) : List PyData := [.list (sRows rows), q4 (faultR (rd rows)), .list (encC cts), .int m, .list (s9 ps)]
noncomputable abbrev s0 (pg : Slots) : St := ⟨[some (.pg 0)], [pg], 0⟩
theorem xZ (n : Nat) (h : Pg rows cts es) (hp : ps.length <= 64) : Gam P (n + 3) 41 [pP rows cts es m ps] [.pg 0] = .ret (.own (F5 rows cts m ps)) [pP rows cts es m ps] := by
 refine (j6 _ rfl _ _).trans (j2 (v' := [some (.pg 0)]) (x' := 0) rfl (f8 (D1 ?_)))
 have me : ∀ {k : Nat} {f : F}, Gam P (n + 2) k [pP rows cts es m ps] [.pg 0] = .ret f [pP rows cts es m ps] -> ev (Gam P (n + 2)) (.meth k d8 .nil) (s0 (pP rows cts es m ps)) = .ok [f] (s0 (pP rows cts es m ps)) := fun {k f} g => q8 (st1 := s0 (pP rows cts es m ps)) (n := 0) (ys := []) rfl rfl rfl g
 exact (d6 (d5 (me (dH (n + 1) h)) (d5 (me (Z7 n rows cts es m ps h)) (d5 (me (cW (n + 1) h)) (d5 (me (zG (n + 1))) (d5 (me (x5B (n + 1) hp)) rfl)))))).trans rfl
noncomputable abbrev N5 (l : List PyData) (n : Nat) : Prop := PyData.canLayAll0 l = true /\ PyData.depthAll l <= n
theorem G3 {d : PyData} {l : List PyData} {n : Nat} (h1 : d.canLay0 = true) (h2 : d.depth <= n) (h : N5 l n) : N5 (d :: l) n := ⟨by show (d.canLay0 && PyData.canLayAll0 l) = true; rw [h1, h.1]; rfl, Nat.max_le.mpr ⟨h2, h.2⟩⟩
theorem iB {n : Nat} : N5 [] n := ⟨rfl, Nat.zero_le _⟩
theorem bB {α : Type} {f : α -> PyData} {n : Nat} : ∀ (l : List α), (∀ a ∈ l, (f a).canLay0 = true /\ (f a).depth <= n) -> N5 (l.map f) n
 | [], _ => iB
 | a :: l, h => G3 (h a (.head _)).1 (h a (.head _)).2 (bB l fun b hb => h b (.tail _ hb))
theorem J2 {l : List PyData} {n : Nat} (h : N5 l n) : (PyData.list l).canLay0 = true /\ (PyData.list l).depth <= n + 1 := ⟨h.1, Nat.succ_le_succ h.2⟩
theorem Z5 {d : PyData} {n : Nat} (h : d.canLay0 = true /\ d.depth <= n) (hn : n <= 50) : L6 d = true := by
 unfold L6
 rw [h.1, dtt (nlt h.2 hn)]; rfl
theorem oQ (h : OkText rows) : N5 (sRows rows) 0 := bB rows fun l hl => ⟨uI (h.rows l hl), Nat.le_refl _⟩
theorem lZ : ∀ f : Fa, (q4 f).canLay0 = true /\ (q4 f).depth <= 1
 | .ok => ⟨rfl, Nat.zero_le _⟩
 | .no r p => ⟨by show ((strD _).canLay0 && true) = true; decide +kernel, Nat.le_refl _⟩
 | .ano r p => ⟨by show ((strD _).canLay0 && true) = true; decide +kernel, Nat.le_refl _⟩
 | .lft r p => ⟨by show ((strD _).canLay0 && true) = true; decide +kernel, Nat.le_refl _⟩
theorem iU {d : PyData} {n k : Nat} (h : d.canLay0 = true /\ d.depth <= n) (hn : n <= k) : d.canLay0 = true /\ d.depth <= k := ⟨h.1, nlt h.2 hn⟩
theorem dT (h : OkText rows) : (PyData.list (F5 rows cts m ps)).canLay0 = true /\ (PyData.list (F5 rows cts m ps)).depth <= 3 := by
 have a := iU (k := 2) (J2 (oQ h)) (by decide)
 have b := iU (k := 2) (lZ (faultR (rd rows))) (by decide)
 have c := iU (k := 2) (J2 (bB (f := fun (n : Nat) => .int n) (n := 0) cts fun _ _ => ⟨rfl, Nat.le_refl _⟩)) (by decide)
 have e := J2 (bB (f := fun (q : Nat × Nat) => .tuple [.int q.1, .int q.2]) (n := 1) ps fun _ _ => ⟨rfl, Nat.le_refl _⟩)
 exact J2 (G3 a.1 a.2 (G3 b.1 b.2 (G3 c.1 c.2 (G3 (d := .int m) rfl (Nat.zero_le _) (G3 e.1 e.2 iB)))))
theorem sU (h : OkText rows) : (v4 rows).canLay0 = true /\ (v4 rows).depth <= 2 := by
 unfold v4
 cases okT rows with
 | true =>
  have := vV _ (tG rows 0 ([], []) h.rows fun x hx => nomatch hx).1
  exact J2 (n := 1) this
 | false => exact ⟨rfl, Nat.zero_le _⟩
theorem x0K (h : OkText rows) : eqF (.list (F5 rows cts m ps)) (.list (F5 rows cts m ps)) = some true := aO rfl rfl (Z5 (dT h) (by decide))
theorem x5z (h : OkText rows) : eqF (.list [.list (F5 rows cts m ps), v4 rows]) (.list [.list (F5 rows cts m ps), v4 rows]) = some true := aO rfl rfl (Z5 (n := 4) (J2 (G3 (dT h).1 (dT h).2 (G3 (sU h).1 (nlt (sU h).2 (by decide)) iB))) (by decide))
theorem tM (h : OkText rows) : eqF (.list (sRows rows)) (.list (sRows rows)) = some true := aO rfl rfl (Z5 (J2 (oQ h)) (by decide))
theorem x2I (f : Fa) : eqF (q4 f) (q4 f) = some true := aO (by cases f <;> rfl) (by cases f <;> rfl) (Z5 (lZ f) (by decide))
noncomputable def w8 (B : Nat) (cts : List Nat) : Prop := ∀ c ∈ cts, c <= B
theorem ints_of : ∀ (cts : List Nat), intsF (encC cts) = some (cts.map fun (n : Nat) => (n : Int))
 | [] => rfl
 | c :: cts => by
  show (asI (.int c)).bind (fun x => (intsF (encC cts)).map fun l => x :: l) = _
  rw [ints_of cts]; rfl
theorem rL : ∀ (cts : List Nat), (cts.map fun (n : Nat) => (n : Int)).sum = (cts.sum : Nat)
 | [] => rfl
 | c :: cts => by rw [List.map_cons, List.sum_cons, List.sum_cons, rL cts]; exact (Int.natCast_add ..).symm
theorem pR (h : cts.length <= 64) (hb : w8 100 cts) : o3 .sum [.val (.list (encC cts))] st = .ok [.val (.int (cts.sum : Nat))] st := by
 show oneO ((intsF (encC cts)).bind fun is => gd (decide (is.length <= 1000) && is.all small) (F.val (.int is.sum))) st = _
 rw [ints_of]
 show oneO (gd (decide ((cts.map fun (n : Nat) => (n : Int)).length <= 1000) && (cts.map fun (n : Nat) => (n : Int)).all small) (F.val (.int (cts.map fun (n : Nat) => (n : Int)).sum))) st = _
 rw [i7, dtt (big h), rL, show (cts.map fun (n : Nat) => (n : Int)).all small = true from List.all_eq_true.mpr fun x hx => by
  obtain ⟨c, hc, rfl⟩ := List.mem_map.mp hx
  have := hb c hc
  exact dtt (by lia)]
 rfl
theorem x6Z (n : Nat) (h : Pg rows cts es) (hb : w8 100 cts) : Gam P (n + 3) 43 [pP rows cts es m ps] [.pg 0, rV rows, .val (.int (cts.sum : Nat))] = .ret (.val (.bool true)) [pP rows cts es m ps] := by
 refine (j6 _ rfl _ _).trans ?_
 have me : ∀ {k : Nat} {f : F}, Gam P (n + 2) k [pP rows cts es m ps] [.pg 0] = .ret f [pP rows cts es m ps] -> ev (Gam P (n + 2)) (.meth k d8 .nil) ⟨[some (.pg 0), some (rV rows), some (.val (.int (cts.sum : Nat)))], [pP rows cts es m ps], 0⟩ = .ok [f] ⟨[some (.pg 0), some (rV rows), some (.val (.int (cts.sum : Nat)))], [pP rows cts es m ps], 0⟩ := fun {k f} g => q8 (st1 := ⟨[some (.pg 0), some (rV rows), some (.val (.int (cts.sum : Nat)))], [pP rows cts es m ps], 0⟩) (n := 0) (ys := []) rfl rfl rfl g
 have e1 := k9 (op := .Eq) (u := .list (sRows rows)) (v := .list (sRows rows)) (q := true) (d5 (b := .cons d7 .nil) (me (dH (n + 1) h)) rfl) (tM h.ok)
 have e2 := k9 (op := .Eq) (q := true) (d5 (b := .cons (.call true 35 (b9 d7)) .nil) (me (Z7 n rows cts es m ps h)) (d5 (n8 (fs := [rV rows]) rfl rfl ((j6 (n + 1) rfl _ _).trans (x3H h.ok))) rfl)) (x2I _)
 have e3 := k9 (op := .Eq) (u := .int (cts.sum : Nat)) (v := .int (cts.sum : Nat)) (q := true) (d5 (b := .cons f6 .nil) (st1 := ⟨[some (.pg 0), some (rV rows), some (.val (.int (cts.sum : Nat)))], [pP rows cts es m ps], 0⟩) (f := .val (.int (cts.sum : Nat))) ((d6 (d5 (b := .nil) (f := .own (encC cts)) (me (cW (n + 1) h)) rfl)).trans (pR (by rw [h.cl]; exact h.ok.most) hb)) rfl) (by show some (((cts.sum : Nat) : Int) == (cts.sum : Nat)) = _; rw [beq_self_eq_true])
 exact j2 rfl (f8 (k4 (q7 (x := true) (y := true) e1 fun _ => q7 (x := true) (y := true) e2 fun _ => e3)))
end
end Mine.Internal.L10
end
section
namespace Mine.Internal.L10
open Mine.Internal.S
section
variable {rows : LL} {cts : List Nat} {es : Es} {r p c : Nat} {ln : List Nat} {U : Nat -> Fn} {st : St} {d : PyData}
theorem kG (cts : List Nat) (r : Nat) : cts.sum = (cts.take r).sum + (cts.drop r).sum := by
 conv => lhs; rw [<- List.take_append_drop r cts]
 rw [List.sum_append]
theorem hS {a : Nat} (h : cts[r]? = some a) : (cts.drop r).sum = a + (cts.drop (r + 1)).sum := by
 obtain ⟨hi, rfl⟩ := n5 h
 rw [List.drop_eq_getElem_cons hi, List.sum_cons]
theorem lQ {a : Nat} (ys : List Nat) (h : cts[r]? = some a) : (splice cts ys r 1).sum + a = cts.sum + ys.sum := by
 unfold splice
 rw [List.sum_append, List.sum_append, kG cts r, hS h]; lia
theorem x3p {a b : Nat} (ys : List Nat) (h : cts[r]? = some a) (h2 : cts[r + 1]? = some b) : (splice cts ys r 2).sum + a + b = cts.sum + ys.sum := by
 unfold splice
 rw [List.sum_append, List.sum_append, kG cts r, hS h, hS h2, show r + 1 + 1 = r + 2 from rfl]; lia
theorem uL {a : Nat} (h : cts[r]? = some a) : S.bump cts r = splice cts [a + 1] r 1 := by
 obtain ⟨hi, _⟩ := n5 h
 unfold S.bump splice
 rw [h, Option.getD_some, List.set_eq_take_append_cons_drop, if_pos hi, List.append_assoc]; rfl
theorem pZ {a : Nat} (h : cts[r]? = some a) : (S.bump cts r).sum = cts.sum + 1 := by
 have := lQ [a + 1] h
 rw [<- uL h] at this
 simp at this
 lia
theorem dR {B g : Nat} {ys : List Nat} (h : w8 B cts) (hy : ∀ y ∈ ys, y <= B + 1) : w8 (B + 1) (splice cts ys r g) := fun c hc => by
 unfold splice at hc
 rcases List.mem_append.mp hc with hc | hc
 . rcases List.mem_append.mp hc with hc | hc
   . exact Nat.le_succ_of_le (h c (List.mem_of_mem_take hc))
   . exact hy c hc
 . exact Nat.le_succ_of_le (h c (List.mem_of_mem_drop hc))
theorem qL {B a : Nat} (h : w8 B cts) (ha : cts[r]? = some a) : w8 (B + 1) (S.bump cts r) := by
 rw [uL ha]
 exact dR h fun y hy => by rw [lsm hy]; exact Nat.succ_le_succ (h a (mog ha))
theorem x1c {B : Nat} {a : Nat} (h : w8 B cts) (ha : cts[r]? = some a) : w8 (B + 1) (B0 cts r c) := by
 unfold B0
 split
 . exact dR h fun y hy => by simp at hy; lia
 . exact qL h ha
theorem x3s {B : Nat} {a : Nat} {b : Bool} (h : w8 B cts) (ha : cts[r]? = some a) : w8 (B + 1) (K3 cts b r) := by
 unfold K3
 split
 . exact qL h ha
 . exact dR h fun y hy => by simp at hy; lia
noncomputable abbrev tV (cts : List Nat) : F := .val (.list (encC cts))
noncomputable abbrev D5 (rows : LL) (cts : List Nat) (d k r p s : PyData) : St := ⟨[some (tV cts), some (.val d), some (rV rows), some (.val k), some (.val r), some (.val p), some (.val s)], [], 0⟩
theorem W9 {v : Slots} {pp : List Slots} (h : cts.length <= 64) (hb : w8 100 cts) (hs : slot v 0 = some (tV cts)) : ev U (.op .sum (b9 d8)) ⟨v, pp, 0⟩ = .ok [.val (.int (cts.sum : Nat))] ⟨v, pp, 0⟩ := (d6 (d5 (f := tV cts) (F6 hs) rfl)).trans (pR h hb)
theorem cP {a : Nat} {e : CE} {v : Slots} {pp : List Slots} (h : cts.length <= 64) (ha : cts[r]? = some a) (hs : slot v 0 = some (tV cts)) (he : ev U e ⟨v, pp, 0⟩ = .ok [.val (.int r)] ⟨v, pp, 0⟩) : ev U (.op .idx (a9 d8 e)) ⟨v, pp, 0⟩ = .ok [.val (.int a)] ⟨v, pp, 0⟩ :=
 (d6 (d5 (f := tV cts) (F6 hs) (d5 he rfl))).trans (V4 (by unfold encC; rw [i7]; exact big h) (by unfold encC; rw [List.getElem?_map, ha]; rfl))
theorem x6I (h : Pg rows cts es) (hb : w8 100 cts) (hr : rows[r]? = some ln) : B U X6 [tV cts, .val (.tuple [.int 0, .int r, .int p, sgn c]), rV rows] = .ret (.val (.int ((B0 cts r c).sum : Nat))) [] := by
 have hl : cts.length <= 64 := by rw [h.cl]; exact h.ok.most
 obtain ⟨hi, _⟩ := n5 hr
 obtain ⟨a, ha⟩ : ∃ a, cts[r]? = some a := ⟨_, geg (by rw [h.cl]; exact hi)⟩
 have e1 : ex U (.unpack [3, 4, 5, 6] d7) ⟨[some (tV cts), some (.val (.tuple [.int 0, .int r, .int p, sgn c])), some (rV rows), none, none, none, none], [], 0⟩ = .ok .next (D5 rows cts (.tuple [.int 0, .int r, .int p, sgn c]) (.int 0) (.int r) (.int p) (sgn c)) := rfl
 have c1 := q7 (U := U) (a := .cmp .Eq (a9 f5 j0)) (b := .cmp .Eq (a9 j7 (.lit (.str (S [10]))))) (st := D5 rows cts (.tuple [.int 0, .int r, .int p, sgn c]) (.int 0) (.int r) (.int p) (sgn c)) (x := true) (y := [c] == [10]) rfl fun _ => rfl
 unfold B0
 by_cases hc : c = 10
 . subst hc
   rw [if_pos rfl]
   have e2 := d6 (U := U) (o := .bin .Add) (es := .cons (o0 (.op .sum (b9 d8)) (.op .idx (a9 d8 g7))) (b9 j4)) (f0 (i := (((cts.sum : Nat) : Int) - a)) ((d6 (d5 (W9 hl hb rfl) (d5 (cP (e := .get (.loc 4)) (v := (D5 rows cts (.tuple [.int 0, .int r, .int p, sgn 10]) (.int 0) (.int r) (.int p) (sgn 10)).v) (pp := []) hl ha rfl rfl) rfl))).trans rfl) rfl)
   have hs := lQ [1, 1] ha
   have e3 : ((cts.sum : Nat) : Int) - a + 2 = ((splice cts [1, 1] r 1).sum : Nat) := by simp at hs; lia
   rw [<- e3]
   exact j2 rfl ((d4 e1).trans (f8 ((i9 c1).trans (f8 (k4 (e2.trans rfl))))))
 . rw [if_neg hc, pZ ha]
   rw [show ([c] == [10]) = false from w2 fun z => hc (List.cons.inj (eq_of_beq z)).1] at c1
   have c2 : ev U (.and (.cmp .Eq (a9 f5 f7)) (.cmp .Eq (a9 i8 (.op .len (b9 (.op .idx (a9 f6 g7))))))) (D5 rows cts (.tuple [.int 0, .int r, .int p, sgn c]) (.int 0) (.int r) (.int p) (sgn c)) = .ok [bV false] _ := q7 (x := false) (y := true) rfl fun q => nomatch q
   have e2 := d6 (U := U) (o := .bin .Add) (es := .cons (.op .sum (b9 d8)) (b9 f7)) (d5 (W9 (v := (D5 rows cts (.tuple [.int 0, .int r, .int p, sgn c]) (.int 0) (.int r) (.int p) (sgn c)).v) (pp := []) hl hb rfl) rfl)
   exact j2 rfl ((d4 e1).trans ((j3 c1).trans ((j3 c2).trans (f8 (k4 (e2.trans rfl))))))
theorem zC (h : Pg rows cts es) (hb : w8 100 cts) (hr : rows[r]? = some ln) (hc : p < ln.length \/ (p = ln.length /\ ∃ l2, rows[r + 1]? = some l2 /\ ln.length + l2.length <= 120)) : B U X6 [tV cts, .val (.tuple [.int 1, .int r, .int p, .str (S [])]), rV rows] = .ret (.val (.int ((K3 cts (decide (p < ln.length)) r).sum : Nat))) [] := by
 have hl : cts.length <= 64 := by rw [h.cl]; exact h.ok.most
 have hll := n9 (h.ok.rows ln (mog hr))
 obtain ⟨hi, _⟩ := n5 hr
 obtain ⟨a, ha⟩ : ∃ a, cts[r]? = some a := ⟨_, geg (by rw [h.cl]; exact hi)⟩
 have e1 : ex U (.unpack [3, 4, 5, 6] d7) ⟨[some (tV cts), some (.val (.tuple [.int 1, .int r, .int p, .str (S [])])), some (rV rows), none, none, none, none], [], 0⟩ = .ok .next (D5 rows cts (.tuple [.int 1, .int r, .int p, .str (S [])]) (.int 1) (.int r) (.int p) (.str (S []))) := rfl
 have c1 : ev U (.and (.cmp .Eq (a9 f5 j0)) (.cmp .Eq (a9 j7 (.lit (.str (S [10])))))) (D5 rows cts (.tuple [.int 1, .int r, .int p, .str (S [])]) (.int 1) (.int r) (.int p) (.str (S []))) = .ok [bV false] _ := q7 (x := false) (y := true) rfl fun q => nomatch q
 have c2 := q7 (U := U) (a := .cmp .Eq (a9 f5 f7)) (st := D5 rows cts (.tuple [.int 1, .int r, .int p, .str (S [])]) (.int 1) (.int r) (.int p) (.str (S []))) (x := true) rfl fun _ => k9 (op := .Eq) (es := .cons i8 (b9 (.op .len (b9 (.op .idx (a9 f6 g7)))))) (u := .int p) (v := .int ln.length) (q := (p : Int) == ln.length) (f0 (i := p) rfl (f0 (i := ln.length) (E4 hll (C7 h.ok hr rfl rfl)) rfl)) rfl
 unfold K3
 rcases hc with hc | ⟨hc, l2, hr2, _⟩
 . rw [dtt hc, if_pos rfl, pZ ha]
   rw [show ((p : Int) == ln.length) = false from w2 fun q => Nat.ne_of_lt hc (Int.ofNat_inj.mp (eq_of_beq q))] at c2
   have e2 := d6 (U := U) (o := .bin .Add) (es := .cons (.op .sum (b9 d8)) (b9 f7)) (d5 (W9 (v := (D5 rows cts (.tuple [.int 1, .int r, .int p, .str (S [])]) (.int 1) (.int r) (.int p) (.str (S []))).v) (pp := []) hl hb rfl) rfl)
   exact j2 rfl ((d4 e1).trans ((j3 c1).trans ((j3 c2).trans (f8 (k4 (e2.trans rfl))))))
 . obtain ⟨hi2, _⟩ := n5 hr2
   obtain ⟨b, hb2⟩ : ∃ b, cts[r + 1]? = some b := ⟨_, geg (by rw [h.cl]; exact hi2)⟩
   rw [dff (Nat.not_lt.mpr (Nat.le_of_eq hc.symm)), if_neg Bool.false_ne_true]
   rw [show ((p : Int) == ln.length) = true by rw [hc]; exact beq_self_eq_true _] at c2
   have e2 := d6 (U := U) (o := .bin .Add) (es := .cons (o0 (o0 (.op .sum (b9 d8)) (.op .idx (a9 d8 g7))) (.op .idx (a9 d8 (bA g7 f7)))) (b9 f7)) (f0 (i := (((cts.sum : Nat) : Int) - a - b)) ((d6 (f0 (i := (((cts.sum : Nat) : Int) - a)) ((d6 (d5 (W9 hl hb rfl) (d5 (cP (e := .get (.loc 4)) (v := (D5 rows cts (.tuple [.int 1, .int r, .int p, .str (S [])]) (.int 1) (.int r) (.int p) (.str (S []))).v) (pp := []) hl ha rfl rfl) rfl))).trans rfl) (d5 (cP (r := r + 1) (e := .op (.bin .Add) (a9 g7 f7)) hl hb2 rfl rfl) rfl))).trans rfl) rfl)
   have hs := x3p [1] ha hb2
   have e3 : ((cts.sum : Nat) : Int) - a - b + 1 = ((splice cts [1] r 2).sum : Nat) := by simp at hs; lia
   rw [<- e3]
   exact j2 rfl ((d4 e1).trans ((j3 c1).trans (f8 ((i9 c2).trans (f8 (k4 (e2.trans rfl)))))))
end
end Mine.Internal.L10
end
section
namespace Mine.Internal.L10
open Mine.Internal.S
section
variable {rows : LL} {cts : List Nat} {es : Es} {m : Int} {ps : List (Nat × Nat)} {r p : Nat} {ln : List Nat} {U : Nat -> Fn} {st : St} {X : Int}
theorem x3T (n : Nat) {R Q : Int} {s : PyData} (h : OkText rows) (ho : gW rows R Q) : Gam P (n + 2) 20 [pP rows cts es m ps] [.pg 0, .val (.int R), .val (.int Q), .val s] = .exc 1 [pP rows cts es m ps] := (j6 _ kd.l20 _ _).trans (x1T ((j6 _ kd.l17 _ _).trans (qI h ho)))
theorem x4y (n : Nat) {R Q : Int} (h : OkText rows) (ho : gW rows R Q) : Gam P (n + 2) 21 [pP rows cts es m ps] [.pg 0, .val (.int R), .val (.int Q)] = .exc 1 [pP rows cts es m ps] := (j6 _ kd.l21 _ _).trans (x0d ((j6 _ kd.l17 _ _).trans (qI h ho)))
noncomputable abbrev fS (pg : Slots) (rows : LL) (X : Int) (w : Nat) : St := ⟨[some (.pg 0), some (rV rows), some (.val (.int X)), some (.val (.int w))], [pg], 0⟩
theorem x3w (n : Nat) (h : Pg rows cts es) : Gam P (n + 3) 40 [pP rows cts es m ps] [.pg 0, rV rows, .val (.int X)] = .ret (.val (.bool true)) [pP rows cts es m ps] := by
 refine (j6 _ rfl _ _).trans ?_
 obtain ⟨w, hw, ew⟩ := X1 X (n := 4) (by decide)
 have hone := h.ok.one
 have hmost := h.ok.most
 obtain ⟨l0, hl0⟩ : ∃ l0, rows[0]? = some l0 := ⟨_, geg hone⟩
 have hn0 := n9 (h.ok.rows l0 (mog hl0))
 have e1 : ex (Gam P (n + 2)) (.assign (.loc 3) (bM f6 y4)) ⟨[some (.pg 0), some (rV rows), some (.val (.int X)), none], [pP rows cts es m ps], 0⟩ = .ok .next (fS (pP rows cts es m ps) rows X w) := by
  show R.ok Fl.next (⟨[some (.pg 0), some (rV rows), some (.val (.int X)), some (.val (.int (X.fmod 4)))], [pP rows cts es m ps], 0⟩ : St) = _
  rw [show X.fmod 4 = (w : Int) from ew]
 match w, hw with
 | 0, _ =>
  have e2 := L8 (K7 (U := Gam P (n + 2)) (k := 20) (rc := .get (.loc 0)) (es := .cons (.op .len (b9 d7)) (a9 j0 (.lit (.str (S [97]))))) (st := fS (pP rows cts es m ps) rows X 0) (n := 0) (ys := [.val (.int rows.length), .val (.int 0), .val (.str (S [97]))]) rfl (f0 (i := rows.length) (V6 h.ok rfl) rfl) rfl (x3T n h.ok (.inl fun q => absurd q.2 (Int.lt_irrefl _))))
  exact j2 rfl ((d4 e1).trans (f8 ((R2 (p0 ((i9 rfl).trans (p0 e2)))).trans rfl)))
 | 1, _ =>
  have a1 := (d6 (U := Gam P (n + 2)) (o := .bin .Add) (f0 (i := l0.length) (E4 hn0 (C7 (r := 0) (st := fS (pP rows cts es m ps) rows X 1) (a := .get (.loc 1)) (b := .lit (.int 0)) h.ok hl0 rfl rfl)) (d5 (a := .lit (.int 1)) (b := .nil) (f := .val (.int 1)) rfl rfl)))
  have e2 := L8 (K7 (U := Gam P (n + 2)) (k := 21) (rc := .get (.loc 0)) (st := fS (pP rows cts es m ps) rows X 1) (n := 0) (ys := [.val (.int 0), .val (.int ((l0.length : Int) + 1))]) rfl (d5 (a := .lit (.int 0)) (f := .val (.int 0)) rfl (f0 (b := .nil) (i := ((l0.length : Int) + 1)) (a1.trans rfl) rfl)) rfl (x4y n h.ok (.inr ⟨0, l0, rfl, hl0, fun q => absurd q.2 (by lia)⟩)))
  exact j2 rfl ((d4 e1).trans (f8 ((R2 (p0 ((o5 rfl).trans (p0 ((i9 rfl).trans (p0 e2)))))).trans rfl)))
 | 2, _ =>
  have e2 := L8 (K7 (U := Gam P (n + 2)) (k := 20) (rc := .get (.loc 0)) (es := .cons j0 (a9 j0 (.lit (.str (S [97, 98]))))) (st := fS (pP rows cts es m ps) rows X 2) (n := 0) (ys := [.val (.int 0), .val (.int 0), .val (.str (S [97, 98]))]) rfl rfl rfl ((j6 _ kd.l20 _ _).trans (zO (r := 0) (p := 0) (O4 n kd) h.ok hl0 (Nat.zero_le _))))
  exact j2 rfl ((d4 e1).trans (f8 ((R2 (p0 ((o5 rfl).trans (p0 ((o5 rfl).trans (p0 ((i9 rfl).trans (p0 e2)))))))).trans rfl)))
 | 3, _ =>
  obtain ⟨rs, ln, rfl⟩ : ∃ rs ln, rows = rs ++ [ln] := by
   rcases List.eq_nil_or_concat rows with q | ⟨rs, ln, q⟩
   . rw [q] at hone; cases hone
   . exact ⟨rs, ln, by rw [q, List.concat_eq_append]⟩
  have hr : (rs ++ [ln])[rs.length]? = some ln := by rw [List.getElem?_append_right (Nat.le_refl _), Nat.sub_self]; rfl
  have hlen : (rs ++ [ln]).length = rs.length + 1 := by rw [lap]; rfl
  have hnl := n9 (h.ok.rows ln (mog hr))
  have a0 : ev (Gam P (n + 2)) (o0 (.op .len (b9 d7)) f7) (fS (pP (rs ++ [ln]) cts es m ps) (rs ++ [ln]) X 3) = .ok [.val (.int rs.length)] (fS (pP (rs ++ [ln]) cts es m ps) (rs ++ [ln]) X 3) := by
   refine (d6 (f0 (i := (rs ++ [ln]).length) (V6 h.ok rfl) (f0 (i := 1) rfl rfl))).trans ?_
   show R.ok [F.val (.int (((rs ++ [ln]).length : Int) - 1))] _ = _
   rw [hlen, Int.natCast_add]
   rw [show ((rs.length : Int) + ((1 : Nat) : Int)) - 1 = rs.length by lia]
  have a1 : ev (Gam P (n + 2)) (.op .idx (a9 d7 (.op .neg (b9 f7)))) (fS (pP (rs ++ [ln]) cts es m ps) (rs ++ [ln]) X 3) = .ok [.val (strD ln)] (fS (pP (rs ++ [ln]) cts es m ps) (rs ++ [ln]) X 3) := by
   refine (d6 (d5 (f := rV (rs ++ [ln])) rfl (f0 (i := (-1)) rfl rfl))).trans ?_
   show oneO ((((none : Option PyData).or (atL (sRows (rs ++ [ln])) (-1))).or none).map F.val) _ = _
   rw [show sRows (rs ++ [ln]) = sRows rs ++ [strD ln] from List.map_append .., iS (by rw [k8]; lia)]; rfl
  have e2 := L8 (K7 (U := Gam P (n + 2)) (k := 21) (rc := .get (.loc 0)) (st := fS (pP (rs ++ [ln]) cts es m ps) (rs ++ [ln]) X 3) (n := 0) (ys := [.val (.int rs.length), .val (.int ln.length)]) rfl (d5 a0 (f0 (b := .nil) (i := ln.length) (E4 hnl a1) rfl)) rfl ((j6 _ kd.l21 _ _).trans (x0Y (O4 n kd) h.ok hr rfl hlen.symm)))
  exact j2 rfl ((d4 e1).trans (f8 ((R2 (p0 ((o5 rfl).trans (p0 ((o5 rfl).trans (p0 ((o5 rfl).trans (p0 e2)))))))).trans rfl)))
end
end Mine.Internal.L10
end
section
namespace Mine.Internal.L10
open Mine.Internal.S
structure PD where
 rows : LL
 cts : List Nat
 es : Es
 m : Int
 ps : List (Nat × Nat)
noncomputable abbrev PD.pg (q : PD) : Slots := pP q.rows q.cts q.es q.m q.ps
noncomputable abbrev PD.tx (q : PD) : PyData := .list (sRows q.rows)
noncomputable abbrev PD.sn (q : PD) : List PyData := F5 q.rows q.cts q.m q.ps
structure PD.Ok (B E : Nat) (q : PD) : Prop where
 pg : Pg q.rows q.cts q.es
 el : q.es.length <= E
 pl : q.ps.length <= 64
 sm : w8 B q.cts
theorem hP : (P.all fun q => decide (45 <= q.1) || x9 45 q.2.body) = true := by rfl
section
variable {qs : List PD} {s k n : Nat} {q q' : PD} {f : F} {ds : List PyData}
theorem nW {α : Type} {l : List α} {i : Nat} {a : α} (h : l[i]? = some a) : l.set i a = l := by
 obtain ⟨hi, rfl⟩ := n5 h
 exact List.set_getElem_self hi
theorem dZ (hk : k < 45) (hs : qs[s]? = some q) (hf : VO f) (h : Gam P n k [q.pg] (.pg 0 :: ds.map .val) = .ret f [q'.pg]) : Gam P n k (qs.map PD.pg) (.pg s :: ds.map .val) = .ret f ((qs.set s q').map PD.pg) := by
 rw [List.map_set]
 exact mR hP hk (by rw [List.getElem?_map, hs]; rfl) (fun _ => rfl) (fun _ => rfl) hf h
theorem O7 (hk : k < 45) (hs : qs[s]? = some q) (hf : VO f) (h : Gam P n k [q.pg] (.pg 0 :: ds.map .val) = .ret f [q.pg]) : Gam P n k (qs.map PD.pg) (.pg s :: ds.map .val) = .ret f (qs.map PD.pg) := by
 have := dZ hk hs hf h
 rw [nW hs] at this
 exact this
theorem vO (n : Nat) {rows : LL} (h : OkText rows) : ∃ q : PD, q.rows = rows /\ q.Ok 1 128 /\ Gam P (n + 12) 0 [List.replicate 6 none] [.pg 0, .val (.list (sRows rows))] = .ret (.val .none) [q.pg] := by
 obtain ⟨es, hl, hp, g⟩ := x3K (U := Gam P (n + 11)) (x1F (n + 8) kd.toKd') (iX (n + 9) kd.toKd') (nH n kd) h
 exact ⟨⟨rows, _, es, _, []⟩, rfl, ⟨hp, hl, Nat.zero_le _, fun c hc => by obtain ⟨_, _, rfl⟩ := List.mem_map.mp hc; exact Nat.le_refl _⟩, (j6 _ kd.l0 _ _).trans g⟩
noncomputable abbrev G : Nat -> Fn := Gam P 19
noncomputable abbrev LS (xs : List Int) (T : F) (A : List PyData) (C s pg rw lf bf dd rh : Option F) (g : List Slots) : St := ⟨[some (.val (lS xs)), some T, some (.own A), some (.pgs [0, 1]), C, s, pg, rw, lf, bf, dd, rh], g, 0⟩
theorem eL {U : Nat -> Fn} {st : St} {e : CE} (hs : slot st.v 3 = some (.pgs [0, 1])) (hk : k < 2) (he : ev U e st = .ok [.val (.int k)] st) : ev U (.peek .pgx (.loc 3) (b9 e)) st = .ok [.pg k] st := by
 show (if (getP st (.loc 3)).isSome then (ev U (b9 e) st).bind fun x st' => H0 .pgx (.loc 3) x st' else .stuck) = _
 rw [show getP st (.loc 3) = _ from hs, d5 (b := .nil) he rfl]
 show oneO ((getP st (.loc 3)).bind fun f => (oU f).bind fun ks => (atL ks (k : Int)).map .pg) st = _
 rw [show getP st (.loc 3) = _ from hs]
 match k, hk with
 | 0, _ => rfl
 | 1, _ => rfl
theorem iQ {U : Nat -> Fn} {st : St} {e : CE} {A : List PyData} {d : PyData} (hs : slot st.v 2 = some (.own A)) (hz : A.length <= 64) (h : A[k]? = some d) (he : ev U e st = .ok [.val (.int k)] st) : ev U (.peek .idx (.loc 2) (b9 e)) st = .ok [.val d] st := by
 obtain ⟨hi, _⟩ := n5 h
 exact M4 (f := .own A) (m := k) hs rfl (d5 (b := .nil) he rfl) ((F3 (big hz) (Int.natCast_nonneg _) (Int.ofNat_lt.mpr hi)).trans h)
theorem zF {U : Nat -> Fn} {a b : CE} {st st1 st2 : St} {y : Bool} (h : ev U a st = .ok [bV false] st1) (h2 : ev U b st1 = .ok [bV y] st2) : ev U (.or a b) st = .ok [bV y] st2 := by
 show (toB (ev U a st)).bind _ = _
 rw [h]
 exact h2
theorem X4 {U : Nat -> Fn} {es : CE} {fs ys : List F} {st st1 : St} (h : ev U es st = .ok fs st1) (ha : args st1.v fs = some ys) (hr : U k st1.p ys = .ret f st1.p) : ev U (.call false k es) st = .ok [f] st1 := x5S h ha hr
theorem qN {U : Nat -> Fn} {st : St} (hs : s < 2) (h3 : slot st.v 3 = some (.pgs [0, 1])) (h5 : slot st.v 5 = some (.val (.int s))) : ev U oE st = .ok [.pg (1 - s)] st := by
 refine eL h3 (by lia) ((d6 (f0 (i := 1) rfl (f0 (i := s) (F6 h5) rfl))).trans ?_)
 show R.ok [F.val (.int ((1 : Int) - s))] st = _
 rw [show (1 : Int) - s = ((1 - s : Nat) : Int) by lia]
theorem fO {B E : Nat} {st : St} {e : CE} (hp : st.p = qs.map PD.pg) (he : ev G e st = .ok [.pg k] st) (hk : qs[k]? = some q) (ok : q.Ok B E) : ev G (.call false 41 (b9 e)) st = .ok [.own q.sn] st :=
 X4 (fs := [.pg k]) (ys := [.pg k]) (d5 he rfl) rfl (by rw [hp]; exact O7 (ds := []) (by decide) hk (fun _ => rfl) (xZ 16 ok.pg ok.pl))
theorem mQ {B E : Nat} {st : St} (hp : st.p = qs.map PD.pg) (h6 : slot st.v 6 = some (.pg k)) (hk : qs[k]? = some q) (ok : q.Ok B E) : ev G bE st = .ok [.own [.list q.sn, v4 q.rows]] st := by
 have e6 : ev G j7 st = .ok [.pg k] st := by
  show getE (.loc 6) st = _
  unfold getE
  rw [show getP st (.loc 6) = _ from h6]
 have e2 : ev G (.call false 42 (b9 j7)) st = .ok [J3 q.rows] st := X4 (fs := [.pg k]) (ys := [.pg k]) (d5 e6 rfl) rfl (by rw [hp]; exact O7 (ds := []) (by decide) hk x0e (x2r 15 ok.pg))
 have e3 := d5 (fO hp e6 hk ok) (d5 (b := .nil) e2 rfl)
 rw [x5y] at e3
 exact (d6 e3).trans rfl
section
variable {xs : List Int} {T : F} {X : Int} {lf bf dd rh : Option F} {B E : Nat}
noncomputable abbrev LQ (xs : List Int) (T : F) (qs : List PD) (X : Int) (s : Nat) (q : PD) (lf bf dd rh : Option F) : St := LS xs T (qs.map PD.tx) (sI X) (sI s) (some (.pg s)) (some (.val q.tx)) lf bf dd rh (qs.map PD.pg)
theorem x3f (hk : qs[s]? = some q) (ok : q.Ok B E) : ex G rB (LQ xs T qs X s q lf bf dd rh) = .ok .next (LQ xs T qs X s q lf (some (.val (.list [.list q.sn, v4 q.rows]))) dd rh) := by
 have e1 : ex G (.assign (.loc 9) bE) (LQ xs T qs X s q lf bf dd rh) = .ok .next (LQ xs T qs X s q lf (some (.own [.list q.sn, v4 q.rows])) dd rh) := (j5 (mQ rfl rfl hk ok)).trans rfl
 have e2 : ev G (.call false 40 (j9 j7 n3 (bF g7 oY))) (LQ xs T qs X s q lf (some (.own [.list q.sn, v4 q.rows])) dd rh) = .ok [bV true] (LQ xs T qs X s q lf (some (.own [.list q.sn, v4 q.rows])) dd rh) := X4 (fs := [.pg s, .val q.tx, .val (.int (X.fdiv 14))]) (ys := [.pg s, .val q.tx, .val (.int (X.fdiv 14))]) rfl rfl (O7 (ds := [q.tx, .int (X.fdiv 14)]) (by decide) hk (fun _ => rfl) (x3w 16 ok.pg))
 have e3 : ev G (.cmp .NotEq (a9 bE rZ)) (LQ xs T qs X s q lf (some (.own [.list q.sn, v4 q.rows])) dd rh) = .ok [bV false] (LQ xs T qs X s q lf (some (.val (.list [.list q.sn, v4 q.rows]))) dd rh) := k9 (u := .list [.list q.sn, v4 q.rows]) (v := .list [.list q.sn, v4 q.rows]) (d5 (f := .own [.list q.sn, v4 q.rows]) (mQ rfl rfl hk ok) rfl) (by
  show (eqF _ _).map _ = _
  rw [x5z ok.pg.ok]; rfl)
 exact (d4 e1).trans ((j3 (zF (y2 (x := true) e2) e3)).trans rfl)
theorem PD.Ok.up {B' E' : Nat} (h : q.Ok B E) (hB : B <= B') (hE : E <= E') : q.Ok B' E' := ⟨h.pg, nlt h.el hE, h.pl, fun c hc => nlt (h.sm c hc) hB⟩
theorem eK (h : q.Ok B E) (hB : B <= 100) : w8 100 q.cts := fun c hc => nlt (h.sm c hc) hB
theorem x2n {rw0 : Option F} (hs : s < 2) (hl : qs.length = 2) (hk : qs[s]? = some q) (ok : q.Ok B E) (hB : B <= 100) : ex G uH (LS xs T (qs.map PD.tx) (sI X) (sI s) (some (.pg s)) rw0 lf bf dd (sI (q.cts.sum : Nat)) (qs.map PD.pg)) = .ok .next (LS xs T (qs.map PD.tx) (sI X) (sI s) (some (.pg s)) rw0 lf bf dd (sI (q.cts.sum : Nat)) (qs.map PD.pg)) := by
 have e1 := X4 (U := G) (k := 43) (st := LS xs T (qs.map PD.tx) (sI X) (sI s) (some (.pg s)) rw0 lf bf dd (sI (q.cts.sum : Nat)) (qs.map PD.pg)) (st1 := LS xs T (qs.map PD.tx) (sI X) (sI s) (some (.pg s)) rw0 lf bf dd (sI (q.cts.sum : Nat)) (qs.map PD.pg)) (es := .cons j7 (a9 (.peek .idx (.loc 2) (b9 i8)) iH)) (fs := [.pg s, .val q.tx, .val (.int (q.cts.sum : Nat))]) (ys := [.pg s, .val q.tx, .val (.int (q.cts.sum : Nat))]) (f := bV true)
  (d5 (f := .pg s) rfl (d5 (f := .val q.tx) (iQ (k := s) (A := qs.map PD.tx) rfl (by rw [i7, hl]; decide) (by rw [List.getElem?_map, hk]; rfl) rfl) rfl)) rfl (O7 (ds := [q.tx, .int (q.cts.sum : Nat)]) (by decide) hk (fun _ => rfl) (x6Z 16 ok.pg (eK ok hB)))
 exact (o5 (y2 (x := true) e1)).trans rfl
theorem x0X (hs : s < 2) (hl : qs.length = 2) : (qs.set s q')[s]? = some q' := List.getElem?_set_self (by rw [hl]; exact hs)
theorem x1f (hs : s < 2) (hl : qs.length = 2) (hk : qs[s]? = some q) (ok : q.Ok B E) (hB : B <= 99) (hE : E <= 9000) : ∃ q' dd' rh', q'.Ok (B + 1) (E + 128) /\ ex G dB (LQ xs T qs X s q lf bf dd rh) = .ok .next (LS xs T ((qs.set s q').map PD.tx) (sI X) (sI s) (some (.pg s)) (some (.val q.tx)) lf bf dd' rh' ((qs.set s q').map PD.pg)) := by
 obtain ⟨d, hd, g⟩ := x2P (U := Gam P 18) (X := X.fdiv 5) (cM 17 td) ok.pg.ok
 have e1 : ex G (.assign (.loc 10) (.call true 39 (a9 n3 (bF g7 B8)))) (LQ xs T qs X s q lf bf dd rh) = .ok .next (LQ xs T qs X s q lf bf (some (.val d)) rh) := (j5 (n8 (fs := [.val q.tx, .val (.int (X.fdiv 5))]) rfl rfl ((j6 18 rfl _ _).trans g))).trans rfl
 have hA : (qs.map PD.tx).length = 2 := (i7 ..).trans hl
 have sr : ∀ {N : Nat}, S.B (Gam P 18) X6 [tV q.cts, .val d, .val q.tx] = .ret (.val (.int N)) [] -> ex G (.assign (.loc 11) (.call true 44 (j9 (.meth 25 j7 .nil) p7 n3))) (LQ xs T qs X s q lf bf (some (.val d)) rh) = .ok .next (LQ xs T qs X s q lf bf (some (.val d)) (sI N)) := fun {N} hN => by
  have a1 : ev G (.meth 25 j7 .nil) (LQ xs T qs X s q lf bf (some (.val d)) rh) = .ok [.own (encC q.cts)] (LQ xs T qs X s q lf bf (some (.val d)) rh) := q8 (st1 := LQ xs T qs X s q lf bf (some (.val d)) rh) (n := s) (ys := []) (as := [.pg s]) rfl rfl rfl (O7 (ds := []) (by decide) hk (fun _ => rfl) (cW 18 ok.pg))
  exact (j5 (n8 (fs := [tV q.cts, .val d, .val q.tx]) (d5 (f := .own (encC q.cts)) a1 rfl) rfl ((j6 18 rfl _ _).trans hN))).trans rfl
 have fin : ∀ {q' : PD} {d : PyData} {N : Nat}, N = q'.cts.sum -> q'.Ok (B + 1) (E + 128) -> ex G uH (LS xs T ((qs.set s q').map PD.tx) (sI X) (sI s) (some (.pg s)) (some (.val q.tx)) lf bf (some (.val d)) (sI N) ((qs.set s q').map PD.pg)) = .ok .next (LS xs T ((qs.set s q').map PD.tx) (sI X) (sI s) (some (.pg s)) (some (.val q.tx)) lf bf (some (.val d)) (sI N) ((qs.set s q').map PD.pg)) := fun {q' d N} hN ok' => by
  rw [hN]
  exact x2n hs (by rw [List.length_set]; exact hl) (x0X hs hl) ok' (Nat.succ_le_succ hB)
 cases hd with
 | no => exact ⟨q, _, _, ok.up (Nat.le_succ _) (Nat.le_add_right ..), by rw [nW hk]; exact (d4 e1).trans ((j3 rfl).trans rfl)⟩
 | put r p c ln hr hp hc =>
  obtain ⟨es', m', h1, h2, h3⟩ := x1n (m := q.m) (ps := q.ps) kd 6 ok.pg hr hp hc (nlt ok.el hE)
  obtain ⟨hi, _⟩ := n5 hr
  obtain ⟨a, ha⟩ : ∃ a, q.cts[r]? = some a := ⟨_, geg (by rw [ok.pg.cl]; exact hi)⟩
  let q' : PD := ⟨splice q.rows (linesP ln p c) r 1, B0 q.cts r c, es', m', U9 q.rows.length r c⟩
  have ok' : q'.Ok (B + 1) (E + 128) := ⟨h2, nlt h1 (Nat.add_le_add_right ok.el _), nlt (wP hi) ok.pg.ok.most, x1c ok.sm ha⟩
  have e2 := sr (x6I (p := p) ok.pg (eK ok (Nat.le_succ_of_le hB)) hr)
  have e3 : ex G (.drop (.meth 20 j7 (j9 (.op .idx (a9 p7 f7)) (.op .idx (a9 p7 j4)) (.op .idx (a9 p7 w9))))) (LQ xs T qs X s q lf bf (some (.val (.tuple [.int 0, .int r, .int p, sgn c]))) (some (.val (.int ((B0 q.cts r c).sum : Nat))))) = .ok .next (LS xs T (qs.map PD.tx) (sI X) (sI s) (some (.pg s)) (some (.val q.tx)) lf bf (some (.val (.tuple [.int 0, .int r, .int p, sgn c]))) (some (.val (.int ((B0 q.cts r c).sum : Nat)))) ((qs.set s q').map PD.pg)) := y8 (q8 (st1 := LQ xs T qs X s q lf bf (some (.val (.tuple [.int 0, .int r, .int p, sgn c]))) (some (.val (.int ((B0 q.cts r c).sum : Nat))))) (n := s) (ys := [.val (.int r), .val (.int p), .val (sgn c)]) (as := [.pg s, .val (.int r), .val (.int p), .val (sgn c)]) rfl rfl rfl (dZ (q' := q') (ds := [.int r, .int p, sgn c]) (by decide) hk (fun _ => rfl) h3))
  have e4 := bS (U := G) (i := 2) (ke := .get (.loc 5)) (m := s) (xs := qs.map PD.tx) (d := q'.tx) (e := .cons (.call true 37 (Q6 n3 (.op .idx (a9 p7 f7)) (.op .idx (a9 p7 j4)) (.op .idx (a9 p7 w9)))) .nil) (st := LS xs T (qs.map PD.tx) (sI X) (sI s) (some (.pg s)) (some (.val q.tx)) lf bf (some (.val (.tuple [.int 0, .int r, .int p, sgn c]))) (some (.val (.int ((B0 q.cts r c).sum : Nat)))) ((qs.set s q').map PD.pg)) (d5 (f := .own (sRows q'.rows)) (n8 (fs := [.val q.tx, .val (.int r), .val (.int p), .val (sgn c)]) rfl rfl ((j6 18 rfl _ _).trans (x3j ok.pg.ok hr hp))) rfl) rfl rfl (i6 (by rw [hA]; decide)) (by rw [hA]; exact hs) (show 2 < 12 by decide)
  rw [<- List.map_set] at e4
  exact ⟨q', _, _, ok', (d4 e1).trans ((d4 ((i9 rfl).trans ((d4 e2).trans ((d4 ((i9 rfl).trans ((d4 e3).trans ((d4 e4).trans rfl)))).trans ((d4 (fin rfl ok')).trans rfl))))).trans rfl)⟩
 | cut r p ln hr hc =>
  obtain ⟨es', m', h1, h2, h4, h3⟩ := x0L (m := q.m) (ps := q.ps) kd 6 ok.pg hr hc (nlt ok.el hE)
  obtain ⟨hi, _⟩ := n5 hr
  obtain ⟨a, ha⟩ : ∃ a, q.cts[r]? = some a := ⟨_, geg (by rw [ok.pg.cl]; exact hi)⟩
  let q' : PD := ⟨N0 q.rows r p, K3 q.cts (decide (p < ln.length)) r, es', m', iL q.rows.length (decide (p < ln.length)) r⟩
  have ok' : q'.Ok (B + 1) (E + 128) := ⟨h2, nlt h1 (Nat.add_le_add_right ok.el _), nlt h4 ok.pg.ok.most, x3s ok.sm ha⟩
  have e2 := sr (zC ok.pg (eK ok (Nat.le_succ_of_le hB)) hr hc)
  have e3 : ex G (.drop (.meth 21 j7 (a9 (.op .idx (a9 p7 f7)) (.op .idx (a9 p7 j4))))) (LQ xs T qs X s q lf bf (some (.val (.tuple [.int 1, .int r, .int p, .str (S [])]))) (sI (q'.cts.sum : Nat))) = .ok .next (LS xs T (qs.map PD.tx) (sI X) (sI s) (some (.pg s)) (some (.val q.tx)) lf bf (some (.val (.tuple [.int 1, .int r, .int p, .str (S [])]))) (sI (q'.cts.sum : Nat)) ((qs.set s q').map PD.pg)) := y8 (q8 (st1 := LQ xs T qs X s q lf bf (some (.val (.tuple [.int 1, .int r, .int p, .str (S [])]))) (sI (q'.cts.sum : Nat))) (n := s) (ys := [.val (.int r), .val (.int p)]) (as := [.pg s, .val (.int r), .val (.int p)]) rfl rfl rfl (dZ (q' := q') (ds := [.int r, .int p]) (by decide) hk (fun _ => rfl) h3))
  have e4 := bS (U := G) (i := 2) (ke := .get (.loc 5)) (m := s) (xs := qs.map PD.tx) (d := q'.tx) (e := .cons (.call true 38 (j9 n3 (.op .idx (a9 p7 f7)) (.op .idx (a9 p7 j4)))) .nil) (st := LS xs T (qs.map PD.tx) (sI X) (sI s) (some (.pg s)) (some (.val q.tx)) lf bf (some (.val (.tuple [.int 1, .int r, .int p, .str (S [])]))) (sI (q'.cts.sum : Nat)) ((qs.set s q').map PD.pg)) (d5 (f := .own (sRows q'.rows)) (n8 (fs := [.val q.tx, .val (.int r), .val (.int p)]) rfl rfl ((j6 18 rfl _ _).trans (x4N ok.pg.ok hr hc))) rfl) rfl rfl (i6 (by rw [hA]; decide)) (by rw [hA]; exact hs) (show 2 < 12 by decide)
  rw [<- List.map_set] at e4
  exact ⟨q', _, _, ok', (d4 e1).trans ((d4 ((i9 rfl).trans ((d4 e2).trans ((d4 ((o5 rfl).trans ((d4 e3).trans ((d4 e4).trans rfl)))).trans ((d4 (fin rfl ok')).trans rfl))))).trans rfl)⟩
end
end
end Mine.Internal.L10
end
section
namespace Mine.Internal.L10
open Mine.Internal.S
section
variable {qs : List PD} {s k n : Nat} {q q' o : PD} {f : F} {ds : List PyData} {xs : List Int} {T : F} {X : Int} {C s0 pg rw0 lf bf dd rh : Option F} {B E : Nat}
theorem qD {A : List PyData} (hs : s < 2) (ho : qs[1 - s]? = some o) (ok : o.Ok B E) : ex G x5a (LS xs T A C (sI s) pg rw0 (some (.own o.sn)) bf dd rh (qs.map PD.pg)) = .ok .next (LS xs T A C (sI s) pg rw0 (some (.val (.list o.sn))) bf dd rh (qs.map PD.pg)) := by
 have e1 := k9 (U := G) (op := .NotEq) (es := .cons (.call false 41 (b9 oE)) (b9 C4)) (st := LS xs T A C (sI s) pg rw0 (some (.own o.sn)) bf dd rh (qs.map PD.pg)) (st1 := LS xs T A C (sI s) pg rw0 (some (.val (.list o.sn))) bf dd rh (qs.map PD.pg)) (u := .list o.sn) (v := .list o.sn) (q := false) (d5 (f := .own o.sn) (fO rfl (qN hs rfl rfl) ho ok) rfl) (by
  show (eqF _ _).map _ = _
  rw [x0K ok.pg.ok]; rfl)
 exact (o5 e1).trans rfl
noncomputable abbrev Lp (xs : List Int) (T : F) (C s pg rw lf bf dd rh : Option F) (qs : List PD) : St := LS xs T (qs.map PD.tx) C s pg rw lf bf dd rh (qs.map PD.pg)
inductive LR (xs : List Int) (T : F) : Nat -> Nat -> R Fl -> Prop
 | mk (B E : Nat) (qs : List PD) (C s pg rw lf bf dd rh : Option F) (hl : qs.length = 2) (ok : ∀ q ∈ qs, q.Ok B E) : LR xs T B E (.ok .next (Lp xs T C s pg rw lf bf dd rh qs))
theorem LR.of {r r' : R Fl} (h : r = r') (g : LR xs T B E r') : LR xs T B E r := h ▸ g
theorem x6y (hl : qs.length = 2) (ok : ∀ q ∈ qs, q.Ok B E) (hB : B <= 99) (hE : E <= 9000) : LR xs T (B + 1) (E + 128) (stepB G false [4] lB (.int X) (Lp xs T C s0 pg rw0 lf bf dd rh qs)) := by
 obtain ⟨s, hs, es⟩ := X1 (X.fdiv 7) (n := 2) (by decide)
 obtain ⟨q, hq⟩ : ∃ q, qs[s]? = some q := ⟨_, geg (by rw [hl]; exact hs)⟩
 obtain ⟨o, ho⟩ : ∃ o, qs[1 - s]? = some o := ⟨_, geg (by rw [hl]; lia)⟩
 have okq := ok q (mog hq)
 have oko := ok o (mog ho)
 have b1 : ex G (.assign (.loc 5) (bM (bF g7 B9) j4)) (Lp xs T (sI X) s0 pg rw0 lf bf dd rh qs) = .ok .next (Lp xs T (sI X) (sI s) pg rw0 lf bf dd rh qs) := by
  show R.ok Fl.next (Lp xs T (sI X) (some (.val (.int ((X.fdiv 7).fmod 2)))) pg rw0 lf bf dd rh qs) = _
  rw [show (X.fdiv 7).fmod 2 = (s : Int) from es]
 have b2 : ex G (.assign (.loc 6) (.peek .pgx (.loc 3) (b9 i8))) (Lp xs T (sI X) (sI s) pg rw0 lf bf dd rh qs) = .ok .next (Lp xs T (sI X) (sI s) (some (.pg s)) rw0 lf bf dd rh qs) := (j5 (eL rfl hs rfl)).trans rfl
 have b3 : ex G (.assign (.loc 7) (.peek .idx (.loc 2) (b9 i8))) (Lp xs T (sI X) (sI s) (some (.pg s)) rw0 lf bf dd rh qs) = .ok .next (LQ xs T qs X s q lf bf dd rh) := (j5 (iQ (k := s) (A := qs.map PD.tx) (d := q.tx) rfl (by rw [i7, hl]; decide) (by rw [List.getElem?_map, hq]; rfl) rfl)).trans rfl
 have b4 : ex G (.assign (.loc 8) (.call false 41 (b9 oE))) (LQ xs T qs X s q lf bf dd rh) = .ok .next (LQ xs T qs X s q (some (.own o.sn)) bf dd rh) := (j5 (fO rfl (qN hs rfl rfl) ho oko)).trans rfl
 have c5 : ev G (.cmp .Eq (a9 (bM g7 B8) y4)) (LQ xs T qs X s q (some (.own o.sn)) bf dd rh) = .ok [bV (X.fmod 5 == 4)] (LQ xs T qs X s q (some (.own o.sn)) bf dd rh) := rfl
 cases h5 : X.fmod 5 == 4 with
 | true =>
  rw [h5] at c5
  have b5 := (i9 (t := dB) c5).trans (x3f hq okq)
  refine .of (r' := .ok .next (Lp xs T _ _ _ _ _ _ _ _ qs)) ((p8 rfl).trans ((d4 b1).trans ((d4 b2).trans ((d4 b3).trans ((d4 b4).trans ((d4 b5).trans ((d4 (qD hs ho oko)).trans rfl))))))) ?_
  exact .mk _ _ qs _ _ _ _ _ _ _ _ hl fun q hm => (ok q hm).up (Nat.le_succ _) (Nat.le_add_right ..)
 | false =>
  rw [h5] at c5
  obtain ⟨q', dd', rh', ok', g⟩ := x1f (xs := xs) (T := T) (X := X) (lf := some (.own o.sn)) (bf := bf) (dd := dd) (rh := rh) hs hl hq okq hB hE
  have b5 := (o5 (s := rB) c5).trans g
  have ho' : (qs.set s q')[1 - s]? = some o := by rw [List.getElem?_set_ne (by lia)]; exact ho
  refine .of (r' := .ok .next (Lp xs T _ _ _ _ _ _ _ _ (qs.set s q'))) ((p8 rfl).trans ((d4 b1).trans ((d4 b2).trans ((d4 b3).trans ((d4 b4).trans ((d4 b5).trans ((d4 (qD hs ho' oko)).trans rfl))))))) ?_
  refine .mk _ _ (qs.set s q') _ _ _ _ _ _ _ _ (by rw [List.length_set]; exact hl) fun z hm => ?_
  rcases List.mem_or_eq_of_mem_set hm with hm | rfl
  . exact (ok z hm).up (Nat.le_succ _) (Nat.le_add_right ..)
  . exact ok'
theorem x6j (ys : List Int) : ∀ (B E : Nat) (r : R Fl), LR xs T B E r -> B + ys.length <= 99 -> E + 128 * ys.length <= 9000 -> ∃ B' E', LR xs T B' E' (r.bind fun _ st => forL (stepB G false [4] lB) (ys.map .int) st) := by
 induction ys with
 | nil => exact fun B E r h _ _ => ⟨B, E, by cases h with | mk qs C s pg rw lf bf dd rh hl ok => exact .mk B E qs C s pg rw lf bf dd rh hl ok⟩
 | cons y ys ih =>
  intro B E r h hB hE
  have hB : B + (ys.length + 1) <= 99 := hB
  have hE : E + 128 * (ys.length + 1) <= 9000 := hE
  cases h with
  | mk qs C s pg rw lf bf dd rh hl ok =>
   have g := x6y (X := y) (xs := xs) (T := T) (C := C) (s0 := s) (pg := pg) (rw0 := rw) (lf := lf) (bf := bf) (dd := dd) (rh := rh) hl ok (by lia) (by lia)
   obtain ⟨B', E', g2⟩ := ih _ _ _ g (by lia) (by lia)
   refine ⟨B', E', ?_⟩
   show LR xs T B' E' (forL (stepB G false [4] lB) (.int y :: ys.map .int) _)
   rw [iA]
   generalize stepB G false [4] lB (.int y) _ = r at g g2 ⊢
   cases g with
   | mk => exact g2
theorem x1M {st : St} (h : xs.length <= 63) (hv : slot st.v 0 = some (.val (lS xs))) : ev G (.op (.slc true true) (j9 d8 B8 qG)) st = .ok [.own (((xs.take 13).drop 5).map .int)] st := by
 refine (d6 (d5 (f := .val (lS xs)) (F6 hv) rfl)).trans ?_
 show oneO ((none : Option F).or ((cutL (xs.map PyData.int) (some (.int 5)) (some (.int 13))).map F.own)) st = _
 unfold cutL lenL
 rw [i6 (by rw [i7]; lia), List.map_drop, List.map_take]; rfl
theorem new_ok {r : LL} {v : Slots} {p p' : List Slots} (hv : slot (inV v (.list (sRows r))) 12 = some (vR r)) (h : OkText r) (hg : G 0 (p ++ [List.replicate 6 none]) [.pg p.length, .val (.list (sRows r))] = .ret (.val .none) p') : (ev G nwE ⟨inV v (.list (sRows r)), p, 0⟩).bind (C2 onePg) = .ok [p.length] ⟨inV v (.list (sRows r)), p', 0⟩ := by
 have e1 : ev G (b9 (.op .list (b9 lN))) ⟨inV v (.list (sRows r)), p, 0⟩ = .ok [.val (.list (sRows r))] ⟨inV v (.list (sRows r)), p, 0⟩ := d5 (f := .own (sRows r)) ((d6 (d5 (f := .val (.list (sRows r))) (F6 hv) rfl)).trans (by
  show oneO (gd (okLen (sRows r).length) (F.own (sRows r))) _ = _
  rw [i6 (by rw [k8]; exact big h.most)]; rfl)) rfl
 have e2 : Y4 G [.val (.list (sRows r))] ⟨inV v (.list (sRows r)), p, 0⟩ = .ok [.pg p.length] ⟨inV v (.list (sRows r)), p', 0⟩ := by
  show (match G 0 (p ++ [List.replicate 6 none]) [.pg p.length, .val (.list (sRows r))] with | .ret (.val .none) p => _ | .exc k p => _ | _ => _) = _
  rw [hg]
 rw [show ev G nwE ⟨inV v (.list (sRows r)), p, 0⟩ = _ from x3I e1, e2]; rfl
theorem x1O {a b : PD} (ha : G 0 [List.replicate 6 none] [.pg 0, .val a.tx] = .ret (.val .none) [a.pg]) (hb : G 0 [List.replicate 6 none] [.pg 0, .val b.tx] = .ret (.val .none) [b.pg]) : G 0 ([a.pg] ++ [List.replicate 6 none]) [.pg 1, .val b.tx] = .ret (.val .none) [a.pg, b.pg] :=
 mR (i := 1) (P0 := [a.pg, List.replicate 6 none]) (ds := [b.tx]) (q' := b.pg) hP (by decide) rfl (fun _ => rfl) (fun _ => rfl) (fun _ => rfl) hb
theorem x1A {rows : LL} (h : OkText rows) : OkText rows.reverse := ⟨by rw [List.length_reverse]; exact h.one, by rw [List.length_reverse]; exact h.most, fun l hl => h.rows l (List.mem_reverse.mp hl)⟩
theorem x1H : OkText [[]] := ⟨Nat.le_refl _, by decide, fun l hl => by rw [lsm hl]; rfl⟩
theorem len2 {α : Type} {l : List α} (h : l.length = 2) : ∃ a b, l = [a, b] := by
 cases l with
 | nil => cases h
 | cons a l => cases l with
  | nil => cases h
  | cons b l => cases l with
   | nil => exact ⟨a, b, rfl⟩
   | cons _ _ => cases h
theorem plain (hx : xs.length <= 63) : ∃ p, Gam P 20 45 [] [.val (lS xs)] = .ret (.val (.bool true)) p := by
 obtain ⟨rows, ⟨h, _, _⟩, g1⟩ := x6A 16 td xs hx
 have z0 : okLen (sRows rows).length = true := i6 (by rw [k8]; exact big h.most)
 let v0 : Option F -> Option F -> Option F -> St := fun a b c => ⟨[some (.val (lS xs)), a, b, c, none, none, none, none, none, none, none, none], [], 0⟩
 have e1 : ex G (.assign (.loc 1) (.call true 33 (b9 d8))) (v0 none none none) = .ok .next (v0 (some (rV rows)) none none) := (j5 (n8 (fs := [.val (lS xs)]) rfl rfl g1)).trans rfl
 obtain ⟨j, hj, ej⟩ := X1 (xs.getD 3 0) (n := 2) (by decide)
 obtain ⟨r2, h2, hr2⟩ : ∃ r2, OkText r2 /\ [PyData.list (sRows rows).reverse, PyData.list [.str (S [])]][j]? = some (.list (sRows r2)) := by
  match j, hj with
  | 0, _ => exact ⟨rows.reverse, x1A h, by unfold sRows; rw [List.map_reverse]; rfl⟩
  | 1, _ => exact ⟨[[]], x1H, rfl⟩
 have e2 : ex G (.assign (.loc 2) (.op .lst (a9 d7 (.op .idx (a9 (.op .lst (a9 (.op .rev (b9 d7)) (.op .lst (b9 (.lit (.str (S []))))))) (bM (.call true 30 (a9 d8 w9)) j4)))))) (v0 (some (rV rows)) none none) = .ok .next (v0 (some (rV rows)) (some (.own [.list (sRows rows), .list (sRows r2)])) none) := by
  have a1 : ev G (.op .rev (b9 d7)) (v0 (some (rV rows)) none none) = .ok [.own (sRows rows).reverse] (v0 (some (rV rows)) none none) := by
   show oneO (gd (okLen (sRows rows).length) (F.own (sRows rows).reverse)) _ = _
   rw [z0]; rfl
  have a2 : ev G (bM (.call true 30 (a9 d8 w9)) j4) (v0 (some (rV rows)) none none) = .ok [.val (.int j)] (v0 (some (rV rows)) none none) := by
   refine (d6 (f0 (i := (xs.getD 3 0)) (n8 (fs := [.val (lS xs), .val (.int 3)]) rfl rfl (uP 18 td xs hx 3)) (f0 (i := 2) rfl rfl))).trans ?_
   show R.ok [F.val (.int ((xs.getD 3 0).fmod 2))] _ = _
   rw [show (xs.getD 3 0).fmod 2 = (j : Int) from ej]
  have a3 := (d6 (o := .lst) (d5 a1 (d5 (a := .op .lst (b9 (.lit (.str (S []))))) (b := .nil) (f := .own [.str (S [])]) rfl rfl)))
  have a4 := (d6 (o := .idx) (d5 (f := .own [PyData.list (sRows rows).reverse, PyData.list [.str (S [])]]) (a3.trans rfl) (d5 (b := .nil) a2 rfl))).trans (V4 (show 2 <= 200000 by decide) hr2)
  exact (j5 ((d6 (d5 (a := .get (.loc 1)) (f := rV rows) rfl (d5 (b := .nil) a4 rfl))).trans rfl)).trans rfl
 obtain ⟨a, rfl, oka, ga⟩ := vO 7 h
 obtain ⟨b, rfl, okb, gb⟩ := vO 7 h2
 have e3 : ex G (.pages 3 12 2 nwE) (v0 (some (rV a.rows)) (some (.own [a.tx, b.tx])) none) = .ok .next (Lp xs (rV a.rows) none none none none none none none none [a, b]) := by
  have m1 := new_ok (v := (v0 (some (rV a.rows)) (some (.own [a.tx, b.tx])) none).v) (p := []) (p' := [a.pg]) rfl oka.pg.ok ga
  have m2 := new_ok (v := (v0 (some (rV a.rows)) (some (.own [a.tx, b.tx])) none).v) (p := [a.pg]) (p' := [a.pg, b.pg]) rfl okb.pg.ok (x1O ga gb)
  have hm : mapR (fun d p => (ev G nwE ⟨inV (v0 (some (rV a.rows)) (some (.own [a.tx, b.tx])) none).v d, p, 0⟩).bind (C2 onePg)) [a.tx, b.tx] [] = some ([0, 1], [a.pg, b.pg]) := by
   rw [T4, m1]
   dsimp only
   rw [T4, m2]
   rfl
  show pagesE G 3 12 nwE [a.tx, b.tx] (v0 (some (rV a.rows)) (some (.own [a.tx, b.tx])) none) = _
  unfold pagesE
  rw [show mapR (fun d p => (ev G nwE ⟨inV (v0 (some (rV a.rows)) (some (.own [a.tx, b.tx])) none).v d, p, 0⟩).bind (C2 onePg)) [a.tx, b.tx] (v0 (some (rV a.rows)) (some (.own [a.tx, b.tx])) none).p = _ from hm]
  rfl
 obtain ⟨B', E', g5⟩ := x6j (xs := xs) (T := rV a.rows) ((xs.take 13).drop 5) 1 128 _ (.mk 1 128 [a, b] none none none none none none none none rfl fun q hm => by
  rcases List.mem_cons.mp hm with rfl | hm
  . exact oka
  . rw [lsm hm]; exact okb) (by rw [List.length_drop, List.length_take]; lia) (by rw [List.length_drop, List.length_take]; lia)
 have e4 := (A9 (U := G) (many := false) (is := [4]) (body := lB) (t8 (kd := 0) (st1 := Lp xs (rV a.rows) none none none none none none none none [a, b]) (xs := ((xs.take 13).drop 5).map .int) (x1M hx rfl) (by
  show gd (okLen (((xs.take 13).drop 5).map PyData.int).length) _ = _
  rw [i6 (by rw [i7, List.length_drop, List.length_take]; lia)]; rfl)))
 generalize hF : (R.bind (.ok Fl.next (Lp xs (rV a.rows) none none none none none none none none [a, b])) fun _ st => forL (stepB G false [4] lB) (((xs.take 13).drop 5).map .int) st) = rr at g5
 cases g5 with
 | mk qs' C' s' pg' rw' lf' bf' dd' rh' hl' ok' =>
 have e4 := e4.trans (show _ = _ from hF)
 obtain ⟨a', b', rfl⟩ : ∃ a' b', qs' = [a', b'] := len2 hl'
 have okA := ok' a' (.head _)
 have okB := ok' b' (.tail _ (.head _))
 have tx : ∀ {k : Nat} {q : PD}, k < 2 -> [a', b'][k]? = some q -> q.Ok B' E' -> ev G (.cmp .Eq (a9 (.meth 22 (.peek .pgx (.loc 3) (b9 (.lit (.int k)))) .nil) (.peek .idx (.loc 2) (b9 (.lit (.int k)))))) (Lp xs (rV a.rows) C' s' pg' rw' lf' bf' dd' rh' [a', b']) = .ok [bV true] (Lp xs (rV a.rows) C' s' pg' rw' lf' bf' dd' rh' [a', b']) := fun {k q} hk hq ok =>
  k9 (u := q.tx) (v := q.tx) (d5 (f := .own (sRows q.rows)) (q8 (st1 := Lp xs (rV a.rows) C' s' pg' rw' lf' bf' dd' rh' [a', b']) (n := k) (ys := []) (as := [.pg k]) (eL rfl hk rfl) rfl rfl (O7 (ds := []) (by decide) hq (fun _ => rfl) (dH 18 ok.pg))) (d5 (f := .val q.tx) (iQ (k := k) (A := [a', b'].map PD.tx) rfl (by show 2 <= 64; decide) (by rw [List.getElem?_map, hq]; rfl) rfl) rfl)) (tM ok.pg.ok)
 exact ⟨_, (j6 19 rfl _ _).trans (j2 rfl ((d4 e1).trans ((d4 e2).trans ((d4 e3).trans ((d4 e4).trans (f8 (k4 (q7 (x := true) (y := true) (tx (k := 0) (by decide) rfl okA) fun _ => tx (k := 1) (by decide) rfl okB))))))))⟩
end
end Mine.Internal.L10
end
section
open PySem.W
namespace Mine.Internal.L10
open Mine.Internal.S
noncomputable def S7 : List Addr := [37, 49, 61, 73, 85, 24]
noncomputable def meths : List (FnDef × Addr) := [(bR, 168), (aZ, 175), (I3, 182), (V9, 189), (cK, 194), (Z9, 199), (J0, 206), (I2, 213), (Z4, 220), (bU, 227), (aW, 234), (rI, 241), (rN, 248), (vE, 255)]
end Mine.Internal.L10
end
section
open PySem.W
namespace Mine.Internal.L10
theorem rW {α : Type} : ∀ {l : List (Nat × α)} {n : Nat} {c : α}, l.lookup n = some c -> (n, c) ∈ l
 | (k, v) :: r, n, c, h => by
  rw [List.lookup_cons] at h
  cases hb : n == k with
  | true => rw [hb] at h; cases h; rw [beq_iff_eq.mp hb]; exact List.mem_cons_self
  | false => rw [hb] at h; exact List.mem_cons_of_mem _ (rW h)
noncomputable def nY (Q : Params) (d : FnDef) : Bool := if d.kind < 2 then (recsOf H6).any fun r => O1 P d r else meths.any fun m => m.1.name == d.name && lL (E2 Q) 258 P d m.2
set_option maxRecDepth 100000 in
theorem x3o (Q : Params) : (P.all fun d => nY Q d.2) = true := by kernel_rfl
set_option maxRecDepth 100000 in
theorem x0M (Q : Params) : nM (E2 Q) 258 = true := by kernel_rfl
set_option maxRecDepth 100000 in
theorem gF (Q : Params) : ((List.range 5).all fun k => vC (E2 Q) S7 k) = true := by kernel_rfl
set_option maxRecDepth 100000 in
theorem fL (Q : Params) : ((List.range 6).all fun k => oH (E2 Q) S7 k) = true := by kernel_rfl
theorem x0k : ∀ k, k < 5 -> specOf H6 (y0 k) = some ("ValueError.__new__", [.type "ValueError", .type "Exception", .type "BaseException", .type "object"]) := fun k hk => by
 match k, hk with
 | 0, _ => kernel_rfl
 | 1, _ => kernel_rfl
 | 2, _ => kernel_rfl
 | 3, _ => kernel_rfl
 | 4, _ => kernel_rfl
theorem text_ok {w : World} {s : Shared} {mean : ExcName -> Option Value} {mg mb : Str -> Option Value} (T : Top H6 ["OPENING"] mean mg mb s.heap) (X : (E2 w.params).In s.heap) : Text (C0 pr w s mg mb (E2 w.params) 258 S7) P := by
 have TO : (C0 pr w s mg mb (E2 w.params) 258 S7).Ok := x3q T (by decide +kernel) (by kernel_rfl) (by kernel_rfl) (by kernel_rfl) (let ⟨o, h⟩ : ∃ o, (E2 w.params).lookup 1 = some o := ⟨_, rfl⟩; ⟨o, X 1 o h⟩)
  (x4u X T.g (a := 88) (n := 3) (h1 := PyData.keyHash w.params ")") (h2 := PyData.keyHash w.params "]") (h3 := PyData.keyHash w.params "}") (k1 := ")") (k2 := "]") (k3 := "}") (v1 := "(") (v2 := "[") (v3 := "{")
   (t1 := 289) (u1 := 290) (t2 := 291) (u2 := 292) (t3 := 293) (u3 := 294) (by kernel_rfl) (by kernel_rfl) ⟨⟨_, _, rfl, rfl⟩, ⟨_, _, rfl, rfl⟩, ⟨_, _, rfl, rfl⟩, trivial⟩
   (by decide +kernel) (by decide +kernel) (by decide +kernel) (by decide +kernel) (by decide +kernel) (by decide +kernel) (by decide))
 refine ⟨TO, x4A X T.g (x0M _), x1B X T.g (gF _) (fL _) T x0k, x3U X T.g (gF _) (fL _), yL X T.g (gF _) (fL _), fun k d hk => ?_⟩
 have := List.all_eq_true.mp (x3o w.params) _ (rW hk)
 unfold nY at this
 by_cases q : d.kind < 2
 . rw [if_pos q] at this
   obtain ⟨r, h1, h2⟩ := List.any_eq_true.mp this
   exact x5R T h1 q h2
 . rw [if_neg q] at this
   obtain ⟨m, h1, h2⟩ := List.any_eq_true.mp this
   exact x1u X (and2 h2).2
set_option maxRecDepth 100000 in
theorem ws : PySem.Challenge.rw_uf050009_10.wellSaid = true := by kernel_rfl
set_option maxRecDepth 100000 in
set_option maxHeartbeats 8000000 in
theorem cw : PySem.Challenge.rw_uf050009_10.Holds := by
 w_on
 refine holds_law ws fun said => ?_
 refine holds_open (q := H6) (loose := ["OPENING"]) (Xt := Xt) (XP := XL H6 []) (Yf := Hook.obs hook) (Ya := Hook.val hook) (YP := Hook.says hook) (N := 5652) (x4e x5F x3R) (Hook.of hook) (Hook.keeps hook) (fun s e => xl_of s (Bool.and_eq_true_iff.mp e).1) XL.keeps (by rfl) (by rfl) (by rfl) (fun s e => recFacts_of (Bool.and_eq_true_iff.mp e).2) (by rfl) (by first | assumption | decide +kernel) (by decide +kernel) ⟨rfl, rfl, rfl, rfl, rfl, by decide +kernel⟩ ?hw ?hc
 case hw => w_witness2
 intro w s₀ s₁ mg mb G Y fa o pm cd doc dV kV ho hd hcd hD hmg hg args vals as hpre hlay hrd hwl hlo
 have KX := kIn_of Y
 refine Ground.open G ?_
 intro T B D TE TW
 wrow_args hpre hlay hrd hwl hlo
 rename_i xs hs hlay0 hL1 hr1 hl2 w4 w3 la vs w0 hL ra w1 r0 hI hr hc1 hc2
 obtain ⟨p', hp⟩ := plain (xs := xs) (by lia)
 refine x6F (T := C0 pr w s₁ mg mb (E2 w.params) 258 S7) (P := P) (k := 45) (d := lW) (N := 20) (ds := [.list (xs.map .int)]) (text_ok T KX) rfl rfl hmg ⟨rfl, by decide, by decide⟩ rfl ?_ hp fun h' tk hk' => ?_
 . obtain ⟨o', h1, h2, n', h3⟩ := hL
   exact .cons (.list ⟨o', h1, h2, n', h3⟩ (qS h1) (oA hI)) .nil
 . exact GoodW.toG ⟨.inl ⟨.bool true, _, [], rfl, fun _ => rfl, .bool .., by kernel_rfl, fun _ => ⟨.nil, fun a ha => nomatch ha⟩⟩, hk', rfl, hg⟩
end Mine.Internal.L10
end
theorem PySem.Challenge.cw_uf050009_10_holds : PySem.Challenge.rw_uf050009_10.Holds :=
 Mine.Internal.L10.cw
