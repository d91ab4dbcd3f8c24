import PyProof.Rows.All
import Open.Line
import OpenK.KWalk
import OpenK.KCls
import OpenK.KMake
import Wide.All
import OpenK.KTop
import Wide.FinOn
import PyProof.StrLawsIn
import PySem.Challenge.RW_uf050009_09
set_option Elab.async false
set_option genSizeOf false
set_option compiler.extract_closed false
set_option genInjectivity false
set_option linter.unusedVariables false
set_option bootstrap.genMatcherCode false
open PySem PySem.Calls PyProof.Rows
section
open PySem.W
namespace Mine.Internal.L09
noncomputable abbrev pr : Program := PySem.Challenge.rw_uf050009_09.row.prog
noncomputable def methAt (i : Nat) : Arguments × List Stmt × Scope := match (pr.main.body[25]? : Option Stmt) with
 | some (.ClassDef _ _ _ b ..) => (match (b[i]? : Option Stmt) with
  | some (.FunctionDef _ a b _ _ _ sc _ _ _) => (a, b, sc)
  | _ => default)
 | _ => default
noncomputable def fnO (i : Nat) (n q : Str) (t : Tok) (c : Addr) : Obj := { cls := .type "function", data := .func { name := n, qualname := q, params := (methAt i).1, body := .stmts (methAt i).2.1, scope := (methAt i).2.2, globals := 3, closure := [], defaults := .none, kwdefaults := .none, pyModule := .str "keptread.page" t, code := .ref c } }
noncomputable abbrev hE (P : Params) (x : Str) (t : Tok) (v : Value) : DictEntry := { hash := PyData.keyHash P x, key := .str x t, val := v }
noncomputable def heapK (P : Params) : Frag := [
 (1, { cls := .type "dict", data := .dict #[hE P "builtins" 162 (.ref 4), hE P "__main__" 163 (.ref 5)] 2 }),
 (3, { cls := .type "dict", data := .dict #[hE P "__name__" 165 (.str "law_uf050009_09" 546), hE P "__doc__" 166 .none, hE P "__package__" 167 .none, hE P "__loader__" 168 (.builtin "__main__.__loader__#opaque"), hE P "__spec__" 169 .none, hE P "__annotations__" 170 (.ref 6), hE P "__builtins__" 171 (.ref 4), hE P "__file__" 173 (.str "/claim/cut.py" 172), hE P "__cached__" 174 .none, hE P "_wall" 193 (.ref 21), hE P "PageError" 213 (.ref 31), hE P "NoPage" 229 (.ref 44), hE P "OutOfPlace" 245 (.ref 56), hE P "NoSign" 261 (.ref 68), hE P "Full" 277 (.ref 80), hE P "Faulty" 293 (.ref 92), hE P "OPENING" 305 (.ref 95), { hash := PyData.keyHash P "OPENERS", key := .str "OPENERS" 307, val := .str "([{" 306 }, hE P "MOST_ROWS" 309 (.int 64 308), hE P "MOST_SIGNS" 311 (.int 120 310), hE P "is_sign" 318 (.ref 102), hE P "is_row" 326 (.ref 109), hE P "is_text" 334 (.ref 116), hE P "is_bracket" 341 (.ref 123), hE P "taken_apart" 353 (.ref 130), hE P "tree_of_parts" 368 (.ref 137), hE P "lower" 378 (.ref 144), hE P "reading_of" 391 (.ref 151), hE P "joined" 397 (.ref 156), hE P "fault_in" 407 (.ref 163), hE P "Page" 545 (.ref 265), hE P "_law_cell_at" 555 (.ref 276), hE P "_law_any_sign" 563 (.ref 283), hE P "_law_stream" 578 (.ref 290), hE P "_law_text" 584 (.ref 295), hE P "_law_put" 596 (.ref 302), hE P "_law_cut" 606 (.ref 309), hE P "_law_deed" 618 (.ref 316), hE P "_law_tree_or" 625 (.ref 323), hE P "_law_by_rows" 631 (.ref 328), hE P "_law_last" 642 (.ref 335), hE P "_law_done" 651 (.ref 342), hE P "law" 657 (.ref 347)] 43 }),
 (30, { cls := .type "dict", data := .dict #[hE P "__module__" 203 (.str "keptread.errors" 194), hE P "__firstlineno__" 207 (.int 5 206), hE P "__static_attributes__" 208 (.ref 29), hE P "__weakref__" 210 (.ref 32), hE P "__doc__" 211 .none] 3 }),
 (31, { cls := .type "type", data := .cls { name := "PageError", bases := [.type "ValueError"], mro := [.ref 31, .type "ValueError", .type "Exception", .type "BaseException", .type "object"], ns := 30, qualname := "PageError", subclasses := [.ref 44, .ref 56, .ref 68, .ref 80, .ref 92] }, slots := #[some (.ref 22), none, some (.str "PageError" 196), some (.str "PageError" 204), some (.builtin "ValueError.__new__"), some (.bool true)] }),
 (43, { cls := .type "dict", data := .dict #[hE P "__module__" 221 (.str "keptread.errors" 194), hE P "__firstlineno__" 225 (.int 7 224), hE P "__static_attributes__" 226 (.ref 42), hE P "__doc__" 227 .none] 2 }),
 (44, { cls := .type "type", data := .cls { name := "NoPage", bases := [.ref 31], mro := [.ref 44, .ref 31, .type "ValueError", .type "Exception", .type "BaseException", .type "object"], ns := 43, qualname := "NoPage" }, slots := #[some (.ref 35), none, some (.str "NoPage" 214), some (.str "NoPage" 222), some (.builtin "ValueError.__new__"), some (.bool true)] }),
 (55, { cls := .type "dict", data := .dict #[hE P "__module__" 237 (.str "keptread.errors" 194), hE P "__firstlineno__" 241 (.int 9 240), hE P "__static_attributes__" 242 (.ref 54), hE P "__doc__" 243 .none] 2 }),
 (56, { cls := .type "type", data := .cls { name := "OutOfPlace", bases := [.ref 31], mro := [.ref 56, .ref 31, .type "ValueError", .type "Exception", .type "BaseException", .type "object"], ns := 55, qualname := "OutOfPlace" }, slots := #[some (.ref 47), none, some (.str "OutOfPlace" 230), some (.str "OutOfPlace" 238), some (.builtin "ValueError.__new__"), some (.bool true)] }),
 (67, { cls := .type "dict", data := .dict #[hE P "__module__" 253 (.str "keptread.errors" 194), hE P "__firstlineno__" 257 (.int 11 256), hE P "__static_attributes__" 258 (.ref 66), hE P "__doc__" 259 .none] 2 }),
 (68, { cls := .type "type", data := .cls { name := "NoSign", bases := [.ref 31], mro := [.ref 68, .ref 31, .type "ValueError", .type "Exception", .type "BaseException", .type "object"], ns := 67, qualname := "NoSign" }, slots := #[some (.ref 59), none, some (.str "NoSign" 246), some (.str "NoSign" 254), some (.builtin "ValueError.__new__"), some (.bool true)] }),
 (79, { cls := .type "dict", data := .dict #[hE P "__module__" 269 (.str "keptread.errors" 194), hE P "__firstlineno__" 273 (.int 13 272), hE P "__static_attributes__" 274 (.ref 78), hE P "__doc__" 275 .none] 2 }),
 (80, { cls := .type "type", data := .cls { name := "Full", bases := [.ref 31], mro := [.ref 80, .ref 31, .type "ValueError", .type "Exception", .type "BaseException", .type "object"], ns := 79, qualname := "Full" }, slots := #[some (.ref 71), none, some (.str "Full" 262), some (.str "Full" 270), some (.builtin "ValueError.__new__"), some (.bool true)] }),
 (91, { cls := .type "dict", data := .dict #[hE P "__module__" 285 (.str "keptread.errors" 194), hE P "__firstlineno__" 289 (.int 15 288), hE P "__static_attributes__" 290 (.ref 90), hE P "__doc__" 291 .none] 2 }),
 (92, { cls := .type "type", data := .cls { name := "Faulty", bases := [.ref 31], mro := [.ref 92, .ref 31, .type "ValueError", .type "Exception", .type "BaseException", .type "object"], ns := 91, qualname := "Faulty" }, slots := #[some (.ref 83), none, some (.str "Faulty" 278), some (.str "Faulty" 286), some (.builtin "ValueError.__new__"), some (.bool true)] }),
 (95, { cls := .type "dict", data := .dict #[hE P ")" 296 (.str "(" 297), hE P "]" 298 (.str "[" 299), { hash := PyData.keyHash P "}", key := .str "}" 300, val := .str "{" 301 }] 3 }),
 (264, { cls := .type "dict", data := .dict #[hE P "__module__" 417 (.str "keptread.page" 408), hE P "__firstlineno__" 421 (.int 103 420), hE P "__init__" 427 (.ref 175), hE P "join_all" 434 (.ref 182), hE P "join_over" 447 (.ref 189), hE P "need_place" 456 (.ref 196), hE P "change_row" 462 (.ref 201), hE P "change_rows" 468 (.ref 206), hE P "put" 479 (.ref 213), hE P "cut" 489 (.ref 220), hE P "text" 496 (.ref 227), hE P "fault" 503 (.ref 234), hE P "tree" 510 (.ref 241), hE P "times" 517 (.ref 248), hE P "joins" 524 (.ref 255), hE P "kept" 531 (.ref 262), hE P "__static_attributes__" 538 (.ref 263), hE P "__dict__" 540 (.ref 266), hE P "__weakref__" 542 (.ref 267), hE P "__doc__" 543 .none] 4 }),
 (265, { cls := .type "type", data := .cls { name := "Page", bases := [.type "object"], mro := [.ref 265, .type "object"], ns := 264, qualname := "Page" }, slots := #[none, none, some (.str "Page" 410), some (.str "Page" 418), some (.builtin "object.__new__"), some (.bool true)] }),
  (175, fnO 0 "__init__" "Page.__init__" 408 174),
 (174, { cls := .type "code", data := .fields #[.str "__init__" 422, .str "Page.__init__" 423, .str "/claim/cut.py" 424, .int 105 0, .int 2 0, .int 0 0, .int 0 0, .int 3 0, .ref 171, .bool true, .int 181 0, .ref 172, .none, .none, .none, .ref 173, .int 425 0, .int 105 0, .str "/claim/cut.py" 426] }),
  (182, fnO 1 "join_all" "Page.join_all" 408 181),
 (181, { cls := .type "code", data := .fields #[.str "join_all" 428, .str "Page.join_all" 429, .str "/claim/cut.py" 430, .int 116 0, .int 1 0, .int 0 0, .int 0 0, .int 3 0, .ref 176, .bool true, .int 181 0, .ref 177, .none, .ref 178, .ref 179, .ref 180, .int 432 0, .int 116 0, .str "/claim/cut.py" 433] }),
  (189, fnO 2 "join_over" "Page.join_over" 408 188),
 (188, { cls := .type "code", data := .fields #[.str "join_over" 435, .str "Page.join_over" 436, .str "/claim/cut.py" 437, .int 120 0, .int 4 0, .int 0 0, .int 0 0, .int 3 0, .ref 183, .bool true, .int 181 0, .ref 184, .none, .ref 185, .ref 186, .ref 187, .int 445 0, .int 120 0, .str "/claim/cut.py" 446] }),
  (196, fnO 3 "need_place" "Page.need_place" 408 195),
 (195, { cls := .type "code", data := .fields #[.str "need_place" 448, .str "Page.need_place" 449, .str "/claim/cut.py" 450, .int 133 0, .int 3 0, .int 0 0, .int 0 0, .int 3 0, .ref 190, .bool true, .int 181 0, .ref 191, .none, .ref 192, .ref 193, .ref 194, .int 454 0, .int 133 0, .str "/claim/cut.py" 455] }),
  (201, fnO 4 "change_row" "Page.change_row" 408 200),
 (200, { cls := .type "code", data := .fields #[.str "change_row" 457, .str "Page.change_row" 458, .str "/claim/cut.py" 459, .int 137 0, .int 3 0, .int 0 0, .int 0 0, .int 3 0, .ref 197, .bool true, .int 181 0, .ref 198, .none, .none, .none, .ref 199, .int 460 0, .int 137 0, .str "/claim/cut.py" 461] }),
  (206, fnO 5 "change_rows" "Page.change_rows" 408 205),
 (205, { cls := .type "code", data := .fields #[.str "change_rows" 463, .str "Page.change_rows" 464, .str "/claim/cut.py" 465, .int 144 0, .int 4 0, .int 0 0, .int 0 0, .int 3 0, .ref 202, .bool true, .int 181 0, .ref 203, .none, .none, .none, .ref 204, .int 466 0, .int 144 0, .str "/claim/cut.py" 467] }),
  (213, fnO 6 "put" "Page.put" 408 212),
 (212, { cls := .type "code", data := .fields #[.str "put" 469, .str "Page.put" 470, .str "/claim/cut.py" 471, .int 153 0, .int 4 0, .int 0 0, .int 0 0, .int 3 0, .ref 207, .bool true, .int 181 0, .ref 208, .none, .ref 209, .ref 210, .ref 211, .int 477 0, .int 153 0, .str "/claim/cut.py" 478] }),
  (220, fnO 7 "cut" "Page.cut" 408 219),
 (219, { cls := .type "code", data := .fields #[.str "cut" 480, .str "Page.cut" 481, .str "/claim/cut.py" 482, .int 167 0, .int 3 0, .int 0 0, .int 0 0, .int 3 0, .ref 214, .bool true, .int 181 0, .ref 215, .none, .ref 216, .ref 217, .ref 218, .int 487 0, .int 167 0, .str "/claim/cut.py" 488] }),
  (227, fnO 8 "text" "Page.text" 408 226),
 (226, { cls := .type "code", data := .fields #[.str "text" 490, .str "Page.text" 491, .str "/claim/cut.py" 492, .int 179 0, .int 1 0, .int 0 0, .int 0 0, .int 3 0, .ref 221, .bool true, .int 181 0, .ref 222, .none, .ref 223, .ref 224, .ref 225, .int 494 0, .int 179 0, .str "/claim/cut.py" 495] }),
  (234, fnO 9 "fault" "Page.fault" 408 233),
 (233, { cls := .type "code", data := .fields #[.str "fault" 497, .str "Page.fault" 498, .str "/claim/cut.py" 499, .int 182 0, .int 1 0, .int 0 0, .int 0 0, .int 3 0, .ref 228, .bool true, .int 181 0, .ref 229, .none, .ref 230, .ref 231, .ref 232, .int 501 0, .int 182 0, .str "/claim/cut.py" 502] }),
  (241, fnO 10 "tree" "Page.tree" 408 240),
 (240, { cls := .type "code", data := .fields #[.str "tree" 504, .str "Page.tree" 505, .str "/claim/cut.py" 506, .int 185 0, .int 1 0, .int 0 0, .int 0 0, .int 3 0, .ref 235, .bool true, .int 181 0, .ref 236, .none, .ref 237, .ref 238, .ref 239, .int 508 0, .int 185 0, .str "/claim/cut.py" 509] }),
  (262, fnO 13 "kept" "Page.kept" 408 261),
 (261, { cls := .type "code", data := .fields #[.str "kept" 525, .str "Page.kept" 526, .str "/claim/cut.py" 527, .int 196 0, .int 1 0, .int 0 0, .int 0 0, .int 3 0, .ref 256, .bool true, .int 181 0, .ref 257, .none, .ref 258, .ref 259, .ref 260, .int 529 0, .int 196 0, .str "/claim/cut.py" 530] })]
noncomputable def keepIdx (is : List Nat) (l : List Stmt) : List Stmt := is.filterMap fun i => l[i]?
noncomputable def view : Program := { pr with main := { pr.main with body := keepIdx [0, 2, 3, 4, 5, 6, 7, 9, 10, 11, 12, 13, 14, 15, 16, 17, 18, 20, 21, 22, 23, 25, 27, 28, 29, 30, 31, 32, 33, 34, 35, 36, 37, 38] pr.main.body } }
noncomputable abbrev kAddrs : List Addr := [1, 3, 30, 31, 43, 44, 55, 56, 67, 68, 79, 80, 91, 92, 95, 264, 265, 175, 174, 182, 181, 189, 188, 196, 195, 201, 200, 206, 205, 213, 212, 220, 219, 227, 226, 234, 233, 241, 240, 262, 261]
noncomputable abbrev hook : Hook := kHook heapK kAddrs (fun _ => rfl)
end Mine.Internal.L09
end
section
open PySem.W
namespace Mine.Internal.L09
noncomputable abbrev Xt : Shared → Bool := fun s => xlAt view [] s && recOk (RowW.records (OpenRow.toRowW PySem.Challenge.rw_uf050009_09.row)) s
noncomputable abbrev Side (b : Bool) : Prop := ∀ w : World, (fun w => (openEnds treeTable PySem.Challenge.rw_uf050009_09.row.prog w 5570).map (fun s => (openSeen view ["OPENING"] (importedModules PySem.Challenge.rw_uf050009_09.row.prog.main.body) Xt true s, Hook.obs hook s)) = some (openGood view ["OPENING"], Hook.val hook w)) (w.withFollow "special-get-raises" b)
set_option maxRecDepth 100000 in
theorem sideF : Side false := fun w => by kernel_rfl
set_option maxRecDepth 100000 in
theorem sideT : Side true := fun w => by kernel_rfl
theorem byRows {P : World → Prop} (hf : ∀ w : World, P (w.withFollow "special-get-raises" false)) (ht : ∀ w : World, P (w.withFollow "special-get-raises" true)) : ∀ w, P w := fun w => byRow2 "special-get-raises" hf ht w
end Mine.Internal.L09
end
section
namespace Mine.Internal
noncomputable abbrev LL := List (List Nat)
noncomputable abbrev VP := Value → Shared → Prop
noncomputable abbrev FP := Flow → Shared → Prop
noncomputable abbrev UP := Unit → Shared → Prop
theorem gsm {α : Type} {l : List α} {i : Nat} {a : α} (h : l[i]? = some a) : ∃ q : i < l.length, l[i] = a := List.getElem?_eq_some_iff.mp h
theorem lsm {α : Type} {a b : α} (h : a ∈ [b]) : a = b := List.mem_singleton.mp h
theorem mog {α : Type} {l : List α} {i : Nat} {a : α} (h : l[i]? = some a) : a ∈ l := List.mem_of_getElem? h
theorem lem {α : Type} {l : List α} (h : l.isEmpty = true) : l = [] := List.isEmpty_iff.mp h
theorem odt {p : Prop} [Decidable p] (h : decide p = true) : p := of_decide_eq_true h
theorem dtt {p : Prop} [Decidable p] (h : p) : decide p = true := decide_eq_true h
theorem dff {p : Prop} [Decidable p] (h : ¬p) : decide p = false := decide_eq_false h
theorem lap {α : Type} {a b : List α} : (a ++ b).length = a.length + b.length := List.length_append
theorem lmp {α β : Type} {f : α → β} {a : List α} : (a.map f).length = a.length := List.length_map ..
theorem geg {α : Type} {l : List α} {i : Nat} (h : i < l.length) : l[i]? = some l[i] := List.getElem?_eq_getElem h
theorem bfi {b : Bool} (h : b ≠ true) : b = false := Bool.eq_false_iff.mpr h
theorem ise {α : Type} {o : Option α} (h : o.isSome = true) : ∃ a, o = some a := Option.isSome_iff_exists.mp h
theorem nlt {a b c : Nat} (h : a ≤ b) (g : b ≤ c) : a ≤ c := Nat.le_trans h g
theorem bsm {α β : Type} {o : Option α} {f : α → Option β} {b : β} (h : o.bind f = some b) : ∃ a, o = some a ∧ f a = some b := Option.bind_eq_some_iff.mp h
theorem msm {α β : Type} {o : Option α} {f : α → β} {b : β} (h : o.map f = some b) : ∃ a, o = some a ∧ f a = b := Option.map_eq_some_iff.mp h
set_option genInjectivity true in
inductive Tag where
 | junk
 | fz
 | hold
 | inst (k : Nat)
 | own (d i : Nat)
 | loc (d : Nat)
 | pgd (k : Nat)
 | pgf (k j : Nat)
 | oo (d : Nat)
noncomputable def Tag.ch (a b : Nat) (c : Bool) : Tag → Bool
 | .junk => true
 | .own d _ => decide (a ≤ d)
 | .loc d => decide (b ≤ d)
 | .pgd _ => c
 | .pgf _ _ => c
 | .oo d => decide (b ≤ d)
 | _ => false
noncomputable def Tag.isLoc : Tag → Bool
 | .loc _ => true
 | _ => false
theorem Tag.ch_mono {a b a' b' : Nat} {c c' : Bool} (ha : a' ≤ a) (hb : b' ≤ b) (hc : c = true → c' = true) {t : Tag} (h : t.ch a' b' c' = false) : t.ch a b c = false := by
 have k : ∀ {c' c : Bool}, (c = true → c' = true) → c' = false → c = false := fun {c' c} h e => by cases c; rfl; rw [h rfl] at e; exact e
 cases t with
 | own d i => exact dff fun q => of_decide_eq_false h (nlt ha q)
 | loc d => exact dff fun q => of_decide_eq_false h (nlt hb q)
 | oo d => exact dff fun q => of_decide_eq_false h (nlt hb q)
 | pgd i => exact k hc h
 | pgf i j => exact k hc h
 | junk => exact h
 | fz => rfl
 | hold => rfl
 | inst i => rfl
noncomputable abbrev Tags := Addr → Tag
noncomputable def Tags.put (t : Tags) (a : Addr) (x : Tag) : Tags := fun b => if b = a then x else t b
theorem Tags.put_self (t : Tags) (a : Addr) (x : Tag) : t.put a x a = x := if_pos rfl
noncomputable def Tag.isInst : Tag → Bool
 | .inst _ => true
 | .loc _ => true
 | _ => false
theorem Tags.put_ne {t : Tags} {a b : Addr} {x : Tag} (h : b ≠ a) : t.put a x b = t b := if_neg h
structure Ws where
 t : Tags
 h : Heap
noncomputable abbrev Ws.get (W : Ws) (a : Addr) : Option Obj := W.h.get? a
noncomputable def Nf (o : Obj) : Prop := ∀ vs, o.data ≠ .fields vs
noncomputable def NI (W : Ws) (x : Addr) : Prop := (∀ k, W.t x ≠ .inst k) ∧ ∀ d o, W.t x = .loc d → W.get x = some o → Nf o
theorem ni_of {W : Ws} {x : Addr} (h : (W.t x).isInst = false) : NI W x := ⟨fun k e => (by rw [e] at h; cases h), fun d o e => (by rw [e] at h; cases h)⟩
theorem put_ni {t : Tags} {a : Addr} {x : Tag} {h : Heap} (e : x.isInst = false) : NI ⟨t.put a x, h⟩ a := ni_of ((congrArg Tag.isInst (Tags.put_self ..)).trans e)
structure Le (a b : Nat) (c : Bool) (W W' : Ws) : Prop where
 at_ : ∀ x o, W.get x = some o → (W.t x).ch a b c = false → W'.t x = W.t x ∧ ∃ sl, W'.get x = some { o with slots := sl } ∧ ((W.t x).isLoc = false → sl = o.slots)
 ins : c = false → ∀ x k, W'.t x = .inst k → W.t x = .inst k
section
variable {a b a' b' : Nat} {c c' : Bool} {W W' W'' : Ws} {x : Addr} {o : Obj}
theorem Le.refl : Le a b c W W := ⟨fun _ o e _ => ⟨rfl, o.slots, e, fun _ => rfl⟩, fun _ _ _ e => e⟩
theorem Le.trans (l : Le a b c W W') (m : Le a b c W' W'') : Le a b c W W'' := by
 refine ⟨fun x o e k => ?_, fun hc x k e => l.ins hc x k (m.ins hc x k e)⟩
 · obtain ⟨t1, sl, e1, f1⟩ := l.at_ x o e k
   obtain ⟨t2, sl', e2, f2⟩ := m.at_ x _ e1 (by rw [t1]; exact k)
   exact ⟨t2.trans t1, sl', e2, fun h => (f2 (by rw [t1]; exact h)).trans (f1 h)⟩
theorem Le.mono (l : Le a b c W W') (ha : a' ≤ a) (hb : b' ≤ b) (hc : c = true → c' = true) : Le a' b' c' W W' :=
 ⟨fun x o e k => l.at_ x o e (Tag.ch_mono ha hb hc k), fun h => l.ins (by cases c; rfl; rw [hc rfl] at h; exact h)⟩
theorem Le.fix (l : Le a b c W W') (e : W.get x = some o) (k : (W.t x).ch a b c = false) (i : (W.t x).isLoc = false) : W'.get x = some o ∧ W'.t x = W.t x := by
 obtain ⟨t1, sl, e1, f1⟩ := l.at_ x o e k
 rw [f1 i] at e1
 exact ⟨e1, t1⟩
structure But (x : Addr) (W W' : Ws) : Prop where
 tg : ∀ b, b ≠ x → W'.t b = W.t b
 gt : ∀ b o, b ≠ x → W.get b = some o → W'.get b = some o
theorem But.push (W : Ws) (o : Obj) (t : Tag) : But W.h.objs.size W ⟨W.t.put W.h.objs.size t, W.h.push o⟩ :=
 ⟨fun _ h => Tags.put_ne h, fun _ _ _ e => Heap.get?_push_of_some _ e⟩
theorem But.tag (W : Ws) (x : Addr) (t : Tag) : But x W ⟨W.t.put x t, W.h⟩ := ⟨fun _ h => Tags.put_ne h, fun _ _ _ e => e⟩
theorem But.same {h' : Heap} (sb : ∀ b o, b ≠ x → W.get b = some o → h'.get? b = some o) (t : Tag) : But x W ⟨W.t.put x t, h'⟩ := ⟨fun _ h => Tags.put_ne h, sb⟩
theorem But.keep {h' : Heap} (sb : ∀ b o, b ≠ x → W.get b = some o → h'.get? b = some o) : But x W ⟨W.t, h'⟩ := ⟨fun _ _ => rfl, sb⟩
noncomputable def Fr (a b : Nat) (c : Bool) (W : Ws) (x : Addr) : Prop := ∀ o, W.get x = some o → (W.t x).ch a b c = true
theorem Fr.dead (h : W.get x = none) : Fr a b c W x := fun o e => by rw [h] at e; cases e
theorem Fr.of (h : (W.t x).ch a b c = true) : Fr a b c W x := fun _ _ => h
theorem Le.but (l : Le a b c W W') (B : But x W' W'') (f : Fr a b c W x) (ni : NI W'' x) : Le a b c W W'' := by
 refine ⟨fun y o e k => ?_, fun hc y k e => l.ins hc y k ((B.tg y fun q => ni.1 k (q ▸ e)) ▸ e)⟩
 · have ne : y ≠ x := fun q => by rw [q] at e k; rw [f o e] at k; cases k
   obtain ⟨t1, sl, e1, f1⟩ := l.at_ y o e k
   exact ⟨(B.tg y ne).trans t1, sl, B.gt y _ ne e1, f1⟩
theorem But.le (B : But x W W') (f : Fr a b c W x) (ni : NI W' x) : Le a b c W W' := Le.refl.but B f ni
theorem dead_at (h : Heap) {n : Addr} (q : h.objs.size ≤ n) : h.get? n = none := by
 cases e : h.get? n with
 | none => rfl
 | some o => exact absurd (Heap.lt_size e) (Nat.not_lt.mpr q)
end
noncomputable def Tag.isFz : Tag → Bool
 | .fz => true
 | _ => false
theorem Tag.isFz_eq {t : Tag} (h : t.isFz = true) : t = .fz := by cases t <;> first | rfl | cases h
noncomputable def sub (h : Heap) (P : Addr → Bool) : Heap := ⟨h.objs.mapIdx fun i o => if P i then o else { o with data := .freed }, h.life⟩
theorem sub_get {h : Heap} {P : Addr → Bool} {a : Addr} {o : Obj} : (sub h P).get? a = some o ↔ P a = true ∧ h.get? a = some o := by
 rw [Heap.get?_some_iff, Heap.get?_some_iff]
 show (h.objs.mapIdx _)[a]? = some o ∧ _ ↔ _
 rw [Array.getElem?_mapIdx]
 cases h.objs[a]? with
 | none => exact ⟨fun q => absurd q.1 (by rintro ⟨⟩), fun q => absurd q.2.1 (by rintro ⟨⟩)⟩
 | some x =>
  cases hp : P a with
  | true => exact ⟨fun q => ⟨rfl, q⟩, fun q => q.2⟩
  | false => exact ⟨fun q => (by obtain ⟨q1, q2⟩ := q; cases q1; cases q2), fun q => absurd q.1 Bool.false_ne_true⟩
noncomputable def Ws.z (W : Ws) : Heap := sub W.h fun a => (W.t a).isFz
noncomputable def Rep (W : Ws) (v : Value) (d : PyData) : Prop := ∃ as, Reads W.z v d as
noncomputable def RepAll (W : Ws) (vs : List Value) (ds : List PyData) : Prop := ∃ as, ReadsAll W.z vs ds as
noncomputable def Fz (W W' : Ws) : Prop := ∀ b o, W.z.get? b = some o → W'.z.get? b = some o
section
variable {W W' : Ws} {a b : Nat} {c : Bool} {x : Addr} {v : Value} {d : PyData} {vs : List Value} {ds : List PyData}
theorem z_of {o : Obj} (t : W.t x = .fz) (e : W.get x = some o) : W.z.get? x = some o := sub_get.mpr ⟨by rw [t]; rfl, e⟩
theorem z_in {b : Addr} {o : Obj} (h : W.z.get? b = some o) : W.t b = .fz ∧ W.get b = some o := let ⟨p, q⟩ := sub_get.mp h; ⟨Tag.isFz_eq p, q⟩
theorem Le.fz (l : Le a b c W W') : Fz W W' := fun x o h => by
 obtain ⟨t, e⟩ := z_in h
 obtain ⟨e1, t1⟩ := l.fix e (by rw [t]; rfl) (by rw [t]; rfl)
 exact z_of (t1.trans t) e1
theorem But.fz (B : But x W W') (n : W.t x ≠ .fz) : Fz W W' := fun y o h => by
 obtain ⟨t, e⟩ := z_in h
 have ne : y ≠ x := fun q => n (q ▸ t)
 exact z_of ((B.tg y ne).trans t) (B.gt y o ne e)
theorem But.fz' (B : But x W W') {o : Obj} (e : W.get x = some o) (e' : W'.get x = some o) (t' : W'.t x = .fz) : Fz W W' := fun y q h => by
 obtain ⟨t, g⟩ := z_in h
 by_cases ne : y = x
 · subst ne; rw [e] at g; cases g; exact z_of t' e'
 · exact z_of ((B.tg y ne).trans t) (B.gt y q ne g)
theorem Rep.mono (l : Fz W W') (r : Rep W v d) : Rep W' v d := let ⟨as, q⟩ := r; ⟨as, PyProof.Rows.Reads.keeps l q⟩
theorem RepAll.mono (l : Fz W W') (r : RepAll W vs ds) : RepAll W' vs ds := let ⟨as, q⟩ := r; ⟨as, PyProof.Rows.ReadsAll.keeps l q⟩
theorem Rep.reads (r : Rep W v d) : ∃ as, Reads W.h v d as := let ⟨as, q⟩ := r; ⟨as, PyProof.Rows.Reads.keeps (fun _ _ e => (z_in e).2) q⟩
theorem RepAll.nil : RepAll W [] [] := ⟨_, .nil⟩
theorem RepAll.cons (h : Rep W v d) (r : RepAll W vs ds) : RepAll W (v :: vs) (d :: ds) := let ⟨_, p⟩ := h; let ⟨_, q⟩ := r; ⟨_, .cons p q⟩
theorem RepAll.inv (r : RepAll W vs (d :: ds)) : ∃ v vs', vs = v :: vs' ∧ Rep W v d ∧ RepAll W vs' ds := by
 obtain ⟨_, q⟩ := r; cases q with | cons p q => exact ⟨_, _, rfl, ⟨_, p⟩, _, q⟩
theorem RepAll.inv0 (r : RepAll W vs []) : vs = [] := by obtain ⟨_, q⟩ := r; cases q; rfl
theorem RepAll.length (r : RepAll W vs ds) : vs.length = ds.length := let ⟨as, q⟩ := r; SeqAt.ReadsAll.length ds vs as q
theorem RepAll.size {vs : Array Value} (h : RepAll W vs.toList ds) : vs.size = ds.length := h.length
theorem RepAll.get (r : RepAll W vs ds) {k : Nat} (e : ds[k]? = some d) : ∃ v, vs[k]? = some v ∧ Rep W v d := by
 induction ds generalizing vs k with
 | nil => cases e
 | cons d' ds ih =>
  obtain ⟨v, vs', rfl, p, q⟩ := r.inv
  cases k with
  | zero => cases e; exact ⟨v, rfl, p⟩
  | succ k => exact ih q e
theorem RepAll.get' (r : RepAll W vs ds) {k : Nat} (e : vs[k]? = some v) : ∃ d, ds[k]? = some d ∧ Rep W v d := by
 obtain ⟨h, _⟩ := gsm e
 have h' : k < ds.length := r.length ▸ h
 obtain ⟨u, hu, p⟩ := r.get (geg h')
 rw [e] at hu; cases hu
 exact ⟨_, geg h', p⟩
theorem RepAll.append {ws : List Value} {es : List PyData} (r : RepAll W vs ds) (k : RepAll W ws es) : RepAll W (vs ++ ws) (ds ++ es) := by
 induction ds generalizing vs with
 | nil => rw [r.inv0]; exact k
 | cons d' ds ih => obtain ⟨v, vs', rfl, p, q⟩ := r.inv; exact .cons p (ih q)
theorem RepAll.take (r : RepAll W vs ds) (k : Nat) : RepAll W (vs.take k) (ds.take k) := by
 induction ds generalizing vs k with
 | nil => rw [r.inv0, List.take_nil, List.take_nil]; exact .nil
 | cons d' ds ih =>
  obtain ⟨v, vs', rfl, p, q⟩ := r.inv
  cases k with
  | zero => exact .nil
  | succ k => exact .cons p (ih q k)
theorem RepAll.drop (r : RepAll W vs ds) (k : Nat) : RepAll W (vs.drop k) (ds.drop k) := by
 induction ds generalizing vs k with
 | nil => rw [r.inv0, List.drop_nil, List.drop_nil]; exact .nil
 | cons d' ds ih =>
  cases k with
  | zero => exact r
  | succ k => obtain ⟨v, vs', rfl, p, q⟩ := r.inv; exact ih q k
theorem RepAll.set (r : RepAll W vs ds) (hv : Rep W v d) (k : Nat) : RepAll W (vs.set k v) (ds.set k d) := by
 induction ds generalizing vs k with
 | nil => rw [r.inv0]; exact .nil
 | cons d' ds ih =>
  obtain ⟨u, vs', rfl, p, q⟩ := r.inv
  cases k with
  | zero => exact .cons hv q
  | succ k => exact .cons p (ih q k)
theorem Rep.list {a : Addr} {vs : Array Value} (l : W.h.IsList a vs) (t : W.t a = .fz) (r : RepAll W vs.toList ds) : Rep W (.ref a) (.list ds) := let ⟨o, e, c, n, d⟩ := l; let ⟨_, q⟩ := r; ⟨_, .list (z_of t e) c d q⟩
theorem Rep.tuple {a : Addr} {vs : Array Value} (l : IsTup W.h a vs) (t : W.t a = .fz) (r : RepAll W vs.toList ds) : Rep W (.ref a) (.tuple ds) := let ⟨o, e, c, n, d⟩ := l; let ⟨_, q⟩ := r; ⟨_, .tuple (z_of t e) c d q⟩
noncomputable def RepInv (W : Ws) (v : Value) : PyData → Prop
 | .none => v = .none
 | .bool b => v = .bool b
 | .int i => ∃ t, v = .int i t
 | .str x => ∃ t, v = .str x t
 | .list ds => ∃ a vs, v = .ref a ∧ W.h.IsList a vs ∧ W.t a = .fz ∧ RepAll W vs.toList ds
 | .tuple ds => ∃ a vs, v = .ref a ∧ IsTup W.h a vs ∧ W.t a = .fz ∧ RepAll W vs.toList ds
 | .dict _ => True
theorem Rep.inv (r : Rep W v d) : RepInv W v d := by
 obtain ⟨_, q⟩ := r
 cases q with
 | none => rfl
 | bool b => rfl
 | int i t => exact ⟨t, rfl⟩
 | str x t => exact ⟨t, rfl⟩
 | list e c d q => exact ⟨_, _, rfl, ⟨_, (z_in e).2, c, _, d⟩, (z_in e).1, _, q⟩
 | tuple e c d q => exact ⟨_, _, rfl, ⟨_, (z_in e).2, c, _, d⟩, (z_in e).1, _, q⟩
 | dict => trivial
theorem Rep.int {i : Int} {t : Tok} : Rep W (.int i t) (.int i) := ⟨_, .int i t⟩
theorem Rep.str {x : Str} {t : Tok} : Rep W (.str x t) (.str x) := ⟨_, .str x t⟩
theorem Rep.bool {b : Bool} : Rep W (.bool b) (.bool b) := ⟨_, .bool b⟩
theorem Rep.none : Rep W .none .none := ⟨_, .none⟩
end
noncomputable def S (l : List Nat) : Str := ⟨l.toArray⟩
noncomputable def cs (x : Str) : List Nat := x.cps.toList
theorem cs_S (l : List Nat) : cs (S l) = l := rfl
theorem S_cs (x : Str) : S (cs x) = x := rfl
inductive F where
 | val (d : PyData)
 | own (xs : List PyData)
 | brw (xs : List PyData)
 | dct (es : List (List Int × PyData))
 | ex (k : Nat)
 | lnd (i : Nat)
 | pg (k : Nat)
noncomputable abbrev Slots := List (Option F)
structure St where
 v : Slots
 p : List Slots
 x : Nat
inductive R (α : Type) where
 | ok (a : α) (st : St)
 | exc (k : Nat) (st : St)
 | stuck
noncomputable def R.bind {α β : Type} : R α → (α → St → R β) → R β
 | .ok a st, f => f a st
 | .exc k st, _ => .exc k st
 | .stuck, _ => .stuck
inductive Out where
 | ret (f : F) (p : List Slots)
 | exc (k : Nat) (p : List Slots)
 | stuck
noncomputable abbrev Fn := List Slots → List F → Out
noncomputable section
noncomputable def small (i : Int) : Bool := decide (i.natAbs < 1073741824)
noncomputable def okLen (n : Nat) : Bool := decide (n ≤ 16777216)
noncomputable def okInt (n : Int) : Bool := decide (n ≤ 16777216) && decide (-16777216 ≤ n)
noncomputable def gd {α : Type} (b : Bool) (x : α) : Option α := if b then some x else none
noncomputable def asB (d : PyData) : Option Bool := if h : d.ctorIdx = 1 then PyData.bool.elim (motive_1 := fun _ => Option Bool) d h some else none
noncomputable def asI (d : PyData) : Option Int := if h : d.ctorIdx = 2 then PyData.int.elim (motive_1 := fun _ => Option Int) d h some else none
noncomputable def asS (d : PyData) : Option Str := if h : d.ctorIdx = 3 then PyData.str.elim (motive_1 := fun _ => Option Str) d h some else none
noncomputable def asL (d : PyData) : Option (List PyData) := if h : d.ctorIdx = 4 then PyData.list.elim (motive_1 := fun _ => Option (List PyData)) d h some else none
noncomputable def asT (d : PyData) : Option (List PyData) := if h : d.ctorIdx = 5 then PyData.tuple.elim (motive_1 := fun _ => Option (List PyData)) d h some else none
theorem asI_int (i : Int) : asI (.int i) = some i := rfl
theorem nos {α : Type} {v : α} {P : Prop} (h : none = some v) : P := nomatch h
theorem asB_eq {d : PyData} {v : Bool} (h : asB d = some v) : d = .bool v := by
 by_cases q : d.ctorIdx = 1
 · exact PyData.bool.elim (motive_1 := fun d => asB d = some v → d = .bool v) d q (fun i h => by cases h; rfl) h
 · exact nos ((dif_neg q).symm.trans h)
theorem asI_eq {d : PyData} {v : Int} (h : asI d = some v) : d = .int v := by
 by_cases q : d.ctorIdx = 2
 · exact PyData.int.elim (motive_1 := fun d => asI d = some v → d = .int v) d q (fun i h => by cases h; rfl) h
 · exact nos ((dif_neg q).symm.trans h)
theorem asS_eq {d : PyData} {v : Str} (h : asS d = some v) : d = .str v := by
 by_cases q : d.ctorIdx = 3
 · exact PyData.str.elim (motive_1 := fun d => asS d = some v → d = .str v) d q (fun i h => by cases h; rfl) h
 · exact nos ((dif_neg q).symm.trans h)
theorem asL_eq {d : PyData} {v : List PyData} (h : asL d = some v) : d = .list v := by
 by_cases q : d.ctorIdx = 4
 · exact PyData.list.elim (motive_1 := fun d => asL d = some v → d = .list v) d q (fun i h => by cases h; rfl) h
 · exact nos ((dif_neg q).symm.trans h)
theorem asT_eq {d : PyData} {v : List PyData} (h : asT d = some v) : d = .tuple v := by
 by_cases q : d.ctorIdx = 5
 · exact PyData.tuple.elim (motive_1 := fun d => asT d = some v → d = .tuple v) d q (fun i h => by cases h; rfl) h
 · exact nos ((dif_neg q).symm.trans h)
noncomputable def one {α : Type} : List α → Option α
 | [x] => some x
 | _ => none
noncomputable def two {α : Type} : List α → Option (α × α)
 | [x, y] => some (x, y)
 | _ => none
theorem one_eq {α : Type} {l : List α} {x : α} (h : one l = some x) : l = [x] := by
 cases l with
 | nil => exact nos h
 | cons y r => cases r with
  | nil => cases h; rfl
  | cons _ _ => exact nos h
theorem two_eq {α : Type} {l : List α} {x : α × α} (h : two l = some x) : l = [x.1, x.2] := by
 cases l with
 | nil => exact nos h
 | cons y r => cases r with
  | nil => exact nos h
  | cons z r => cases r with
   | nil => cases h; rfl
   | cons _ _ => exact nos h
noncomputable def op2 {α β : Type} (as : PyData → Option α) (d e : PyData) (f : α → α → Option β) : Option β := (as d).bind fun a => (as e).bind fun b => f a b
theorem op2_some {α β : Type} {as : PyData → Option α} {d e : PyData} {f : α → α → Option β} {g : β} (h : op2 as d e f = some g) : ∃ a b, as d = some a ∧ as e = some b ∧ f a b = some g := by
 obtain ⟨a, ha, h⟩ := bsm h
 obtain ⟨b, hb, h⟩ := bsm h
 exact ⟨a, b, ha, hb, h⟩
theorem or_some {α : Type} {o o' : Option α} {g : α} (h : o.or o' = some g) : o = some g ∨ o' = some g := by
 cases o with
 | none => exact .inr h
 | some x => exact .inl h
noncomputable def binF (op : Operator) (d e : PyData) : Option F :=
 match op with
 | .Add => ((op2 asI d e fun a b => some (.val (.int (a + b)))).or (op2 asS d e fun x y => gd (okLen ((cs x).length + (cs y).length)) (.val (.str (S (cs x ++ cs y)))))).or
   ((op2 asL d e fun x y => gd (okLen (x.length + y.length)) (.own (x ++ y))).or (op2 asT d e fun x y => gd (okLen (x.length + y.length)) (.val (.tuple (x ++ y)))))
 | .Sub => op2 asI d e fun a b => some (.val (.int (a - b)))
 | .Mult => (op2 asI d e fun a b => gd (small a || small b) (.val (.int (a * b)))).or ((asS d).bind fun x => (asI e).bind fun n => gd (okLen ((cs x).length * n.toNat) && okInt n) (.val (.str (S (List.replicate n.toNat (cs x)).flatten))))
 | .FloorDiv => op2 asI d e fun a b => gd (small b && b != 0) (.val (.int (a.fdiv b)))
 | .Mod => op2 asI d e fun a b => gd (b != 0) (.val (.int (a.fmod b)))
 | _ => none
noncomputable def inStr (x y : Str) : Bool := !(Builtin.Str.occurrences x y 0 x.length 1).isEmpty
noncomputable def shallow (d : PyData) : Bool := d.canLay0 && decide (d.depth ≤ 50)
noncomputable def isN (d : PyData) : Bool := d.ctorIdx == 0
noncomputable def eqF (d e : PyData) : Option Bool := ((op2 asI d e fun a b => some (a == b)).or (op2 asS d e fun x y => some (cs x == cs y))).or (gd (shallow d && shallow e) (d.eqv e))
noncomputable def cmpF (op : CmpOp) (d e : PyData) : Option Bool :=
 match op with
 | .Eq => eqF d e
 | .NotEq => (eqF d e).map fun b => !b
 | .Lt => op2 asI d e fun a b => some (decide (a < b))
 | .LtE => op2 asI d e fun a b => some (decide (a ≤ b))
 | .Gt => op2 asI d e fun a b => some (decide (b < a))
 | .GtE => op2 asI d e fun a b => some (decide (b ≤ a))
 | .In => op2 asS d e fun y x => some (inStr x y)
 | .NotIn => op2 asS d e fun y x => some (!inStr x y)
 | .Is => gd (isN e) (isN d)
 | .IsNot => gd (isN e) (!isN d)
noncomputable def at? (n : Nat) (i : Int) : Option Nat := seqIndex? i n
noncomputable def lenL {α : Type} (xs : List α) : Option Nat := gd (okLen xs.length) xs.length
noncomputable def atL {α : Type} (xs : List α) (i : Int) : Option α := (lenL xs).bind fun n => (at? n i).bind fun k => xs[k]?
noncomputable def sgn (c : Nat) : PyData := .str (S [c])
noncomputable def idxF (d e : PyData) : Option PyData := (asI e).bind fun i => (((asS d).bind fun x => (atL (cs x) i).map sgn).or ((asL d).bind fun xs => atL xs i)).or ((asT d).bind fun xs => atL xs i)
noncomputable def bnd (o : Option PyData) (d : Nat) : Option Nat :=
 match o with
 | none => some d
 | some e => (asI e).bind fun i => gd (decide (0 ≤ i ∧ i < 4611686018427387904)) i.toNat
noncomputable def cutL {α : Type} (xs : List α) (lo hi : Option PyData) : Option (List α) :=
 (lenL xs).bind fun n => (bnd lo 0).bind fun a => (bnd hi n).map fun b => (xs.take b).drop a
noncomputable def upF (d : PyData) (lo hi : Option PyData) : Option F := (asT d).bind fun xs => (gd lo.isNone ()).bind fun _ => hi.bind fun e => (asI e).bind fun i => gd (okLen xs.length && decide (0 ≤ i ∧ i < xs.length)) (.val (.tuple (xs.take i.toNat)))
noncomputable def slF (d : PyData) (lo hi : Option PyData) : Option F :=
 (upF d lo hi).or <| ((asS d).bind fun x => (cutL (cs x) lo hi).map fun l => .val (.str (S l))).or ((asL d).bind fun xs => (cutL xs lo hi).map .own)
noncomputable def lenF (d : PyData) : Option Nat := (((asS d).bind fun x => lenL (cs x)).or ((asL d).bind lenL)).or ((asT d).bind lenL)
noncomputable def intV (n : Nat) : F := .val (.int n)
noncomputable def itemsS (d : PyData) : Option (List PyData) := ((asS d).bind fun x => gd (okLen (cs x).length) ((cs x).map sgn)).or ((asL d).bind fun xs => gd (okLen xs.length) xs)
noncomputable def itemsF (d : PyData) : Option (List PyData) := (itemsS d).or ((asT d).bind fun xs => gd (okLen xs.length) xs)
inductive Ty where
 | str | int | bool | list | tuple
noncomputable def isF (d : PyData) : Ty → Bool
 | .str => d.ctorIdx == 3
 | .int => d.ctorIdx == 2 || d.ctorIdx == 1
 | .bool => d.ctorIdx == 1
 | .list => d.ctorIdx == 4
 | .tuple => d.ctorIdx == 5
noncomputable def openF (x : Str) : Option Str :=
 if cs x = [41] then some (S [40]) else if cs x = [93] then some (S [91]) else if cs x = [125] then some (S [123]) else none
noncomputable def gtab : Nat → Option (Str × PyData)
 | 0 => some ("MOST_ROWS", .int 64)
 | 1 => some ("MOST_SIGNS", .int 120)
 | 2 => some ("OPENERS", .str (S [40, 91, 123]))
 | _ => none
noncomputable def splitNL : List Nat → LL
 | [] => [[]]
 | c :: r => if c = 10 then [] :: splitNL r else match splitNL r with
  | l :: ls => (c :: l) :: ls
  | [] => [[c]]
theorem splitNL_n : splitNL [] = [[]] := rfl
theorem splitNL_c {c : Nat} {r : List Nat} : splitNL (c :: r) = if c = 10 then [] :: splitNL r else match splitNL r with | l :: ls => (c :: l) :: ls | [] => [[c]] := rfl
noncomputable def findF (l : List Nat) (c : Nat) : Int := match l.findIdx? (· == c) with
 | some k => (k : Int)
 | none => -1
noncomputable def strsF : List PyData → Option (LL)
 | [] => some []
 | d :: r => (asS d).bind fun x => (strsF r).map fun l => cs x :: l
inductive Op where
 | bin (op : Operator)
 | neg | idx | slc (l u : Bool) | tup | lst
 | len | ord | abs | toInt | list | isinst (t : Ty)
 | splitNl | find | join | getOpen
noncomputable def un (f : PyData → Option F) (ds : List PyData) : Option F := (one ds).bind f
noncomputable def bi (f : PyData → PyData → Option F) (ds : List PyData) : Option F := (two ds).bind fun p => f p.1 p.2
noncomputable def ordF (d : PyData) : Option F := (asS d).bind fun s => (one (cs s)).map fun (c : Nat) => .val (.int c)
noncomputable def absF (d : PyData) : Option F := (asI d).map fun i => .val (.int i.natAbs)
noncomputable def negF (d : PyData) : Option F := (asI d).map fun i => .val (.int (-i))
noncomputable def toIntF (d : PyData) : Option F := (asB d).map fun b => .val (.int (if b then 1 else 0))
noncomputable def listF (d : PyData) : Option F := (asL d).bind fun xs => gd (okLen xs.length) (.own xs)
noncomputable def splitF (d : PyData) : Option F := (asS d).bind fun s => gd (okLen ((cs s).length + 1)) (.own ((splitNL (cs s)).map fun l => .str (S l)))
noncomputable def findsF (d e : PyData) : Option F := op2 asS d e fun s t => (one (cs t)).bind fun c => gd (okLen (cs s).length) (.val (.int (findF (cs s) c)))
noncomputable def joinF (d e : PyData) : Option F := (asS d).bind fun s => (asL e).bind fun xs => (strsF xs).bind fun ls => gd ((cs s).isEmpty && okLen ls.flatten.length) (.val (.str (S ls.flatten)))
noncomputable def getOpenF (d : PyData) : Option F := (asS d).bind fun s => (openF s).map fun y => .val (.str y)
noncomputable def slcF (l u : Bool) (ds : List PyData) : Option F := match ds with
 | [] => none
 | x :: r => (match l, u with
  | true, true => (two r).bind fun p => slF x (some p.1) (some p.2)
  | true, false => (one r).bind fun a => slF x (some a) none
  | false, true => (one r).bind fun b => slF x none (some b)
  | false, false => gd r.isEmpty () |>.bind fun _ => slF x none none)
noncomputable def opF : Op → List PyData → Option F
 | .bin op, ds => bi (binF op) ds
 | .neg, ds => un negF ds
 | .idx, ds => bi (fun x y => (idxF x y).map .val) ds
 | .slc l u, ds => slcF l u ds
 | .tup, ds => gd (okLen ds.length) (.val (.tuple ds))
 | .lst, ds => gd (okLen ds.length) (.own ds)
 | .len, ds => un (fun x => (lenF x).map intV) ds
 | .ord, ds => un ordF ds
 | .abs, ds => un absF ds
 | .toInt, ds => un toIntF ds
 | .list, ds => un listF ds
 | .isinst t, ds => un (fun x => gd (x.ctorIdx != 6) (.val (.bool (isF x t)))) ds
 | .splitNl, ds => un splitF ds
 | .find, ds => bi findsF ds
 | .join, ds => bi joinF ds
 | .getOpen, ds => un getOpenF ds
noncomputable def slot (v : Slots) (i : Nat) : Option F := v[i]?.join
inductive Pl where
 | loc (i : Nat)
 | fld (i j : Nat)
noncomputable def pgAt (st : St) (i : Nat) : Option Nat := match slot st.v i with | some (.pg k) => some k | _ => none
noncomputable def getP (st : St) : Pl → Option F
 | .loc i => slot st.v i
 | .fld i j => (pgAt st i).bind fun k => st.p[k]?.bind fun fl => slot fl j
noncomputable def setP (st : St) (f : Option F) : Pl → Option St
 | .loc i => gd (decide (i < st.v.length)) { st with v := st.v.set i f }
 | .fld i j => (pgAt st i).bind fun k => st.p[k]?.bind fun fl => gd (decide (j < fl.length)) { st with p := st.p.set k (fl.set j f) }
noncomputable def lstOf (f : F) : Option (List PyData) := match f with
 | .own xs => some xs
 | .brw xs => some xs
 | .val d => asL d
 | _ => none
noncomputable def listAt (st : St) (p : Pl) : Option (List PyData) := (getP st p).bind lstOf
noncomputable def ownOf : F → Option (List PyData)
 | .own xs => some xs
 | _ => none
noncomputable def dctOf : F → Option (List (List Int × PyData))
 | .dct es => some es
 | _ => none
noncomputable def ownAt (st : St) (p : Pl) : Option (List PyData) := (getP st p).bind ownOf
noncomputable def F.frz : F → F
 | .own xs => .val (.list xs)
 | f => f
noncomputable def F.tmp : F → Bool
 | .own _ => true
 | .dct _ => true
 | _ => false
noncomputable def valOf : F → Option PyData
 | .val d => some d
 | _ => none
noncomputable def valsOf : List F → Option (List PyData)
 | [] => some []
 | .val d :: r => (valsOf r).map fun l => d :: l
 | _ :: _ => none
noncomputable def seen : Option F → Option F
 | some (.val d) => some (.val d)
 | some (.own xs) => some (.brw xs)
 | some (.brw xs) => some (.brw xs)
 | some (.pg k) => some (.pg k)
 | _ => none
noncomputable def args (v : Slots) : List F → Option (List F)
 | [] => some []
 | .val d :: r => (args v r).map fun l => .val d :: l
 | .pg k :: r => (args v r).map fun l => .pg k :: l
 | .lnd i :: r => (seen (slot v i)).bind fun f => (args v r).map fun l => f :: l
 | _ :: _ => none
inductive Pk where
 | len | idx | copy | pop | key
inductive CE where
 | nil
 | cons (a b : CE)
 | lit (d : PyData)
 | get (p : Pl)
 | mv (p : Pl)
 | lend (i : Nat)
 | glob (k : Nat)
 | op (o : Op) (es : CE)
 | sm (o : Op) (r es : CE)
 | peek (o : Pk) (p : Pl) (es : CE)
 | cmp (op : CmpOp) (es : CE)
 | cmpNil (ne : Bool) (p : Pl)
 | inOpen (a : CE)
 | chain (ab : CE) (o1 o2 : CmpOp) (c : CE)
 | not (a : CE)
 | and (a b : CE)
 | or (a b : CE)
 | call (pure : Bool) (k : Nat) (es : CE)
 | callP (k : Nat) (p : Pl)
 | meth (k : Nat) (r es : CE)
 | new (es : CE)
 | comp (n kd : Nat) (src elt cond : CE)
 | isEx (i c : Nat)
noncomputable def oneO (o : Option F) (st : St) : R (List F) := match o with | some f => .ok [f] st | none => .stuck
noncomputable def bV (b : Bool) : F := .val (.bool b)
noncomputable def getE (p : Pl) (st : St) : R (List F) := match getP st p with
 | some (.val d) => .ok [.val d] st
 | some (.pg k) => .ok [.pg k] st
 | some (.own xs) => (match setP st (some (.val (.list xs))) p with | some st' => .ok [.val (.list xs)] st' | none => .stuck)
 | _ => .stuck
noncomputable def mvE (p : Pl) (st : St) : R (List F) := match getP st p with
 | some (.own xs) => (match setP st none p with | some st' => .ok [.own xs] st' | none => .stuck)
 | _ => .stuck
noncomputable def strOf (f : F) : Option Str := (valOf f).bind asS
noncomputable def opE (o : Op) (fs : List F) (st : St) : R (List F) := oneO ((valsOf fs).bind (opF o)) st
noncomputable def cmpE (op : CmpOp) (fs : List F) (st : St) : R (List F) := oneO ((valsOf fs).bind (bi fun x y => (cmpF op x y).map bV)) st
noncomputable def keyI (k : PyData) : Option (List Int) := (asT k).bind fun l => (two l).bind fun q => op2 asI q.1 q.2 fun a b => some [a, b]
noncomputable def keyF (es : List (List Int × PyData)) (k : List Int) : Option PyData := (es.find? fun e => decide (e.1 = k)).map (·.2)
noncomputable def putF (es : List (List Int × PyData)) (k : List Int) (d : PyData) : List (List Int × PyData) := if (keyF es k).isSome then es.map fun e => if e.1 = k then (e.1, d) else e else es ++ [(k, d)]
noncomputable def dctAt (st : St) (p : Pl) : Option (List (List Int × PyData)) := (getP st p).bind dctOf
noncomputable def oneV (fs : List F) : Option PyData := (one fs).bind valOf
noncomputable def popE (p : Pl) (fs : List F) (st : St) : Option (PyData × St) := (gd fs.isEmpty ()).bind fun _ => (ownAt st p).bind fun xs => (xs.getLast?).bind fun d => (gd (okLen xs.length) ()).bind fun _ => (setP st (some (.own xs.dropLast)) p).map fun st' => (d, st')
noncomputable def peekE (o : Pk) (p : Pl) (fs : List F) (st : St) : R (List F) := match o with
 | .len => oneO ((gd fs.isEmpty ()).bind fun _ => (listAt st p).bind fun xs => (lenL xs).map intV) st
 | .copy => oneO ((gd fs.isEmpty ()).bind fun _ => (listAt st p).bind fun xs => gd (okLen xs.length) (.own xs)) st
 | .idx => oneO ((oneV fs).bind fun k => (asI k).bind fun i => (listAt st p).bind fun xs => (atL xs i).map .val) st
 | .key => oneO ((oneV fs).bind fun k => (keyI k).bind fun k => (dctAt st p).bind fun es => (keyF es k).map .val) st
 | .pop => (match popE p fs st with
  | some q => .ok [.val q.1] q.2
  | none => .stuck)
noncomputable def pgsOf (pure : Bool) (st : St) : List Slots := if pure then [] else st.p
noncomputable def outE (pure : Bool) (o : Out) (st : St) : R (List F) := match o with
 | .ret f p => .ok [f] (if pure then st else { st with p := p })
 | .exc k p => .exc k (if pure then st else { st with p := p })
 | .stuck => .stuck
noncomputable def callE (Γ : Nat → Fn) (pure : Bool) (k : Nat) (fs : List F) (st : St) : R (List F) := match args st.v fs with
 | some as => outE pure (Γ k (pgsOf pure st) as) st
 | none => .stuck
noncomputable def callPE (Γ : Nat → Fn) (k : Nat) (p : Pl) (st : St) : R (List F) := match seen (getP st p) with
 | some f => outE true (Γ k [] [f]) st
 | none => .stuck
noncomputable def newE (Γ : Nat → Fn) (fs : List F) (st : St) : R (List F) := match args st.v fs with
 | some as => (match Γ 0 (st.p ++ [List.replicate 6 none]) (.pg st.p.length :: as) with
  | .ret (.val .none) p => .ok [.pg st.p.length] { st with p := p }
  | .exc k p => .exc k { st with p := p }
  | _ => .stuck)
 | none => .stuck
noncomputable def enumFrom (n : Nat) : List PyData → List PyData
 | [] => []
 | x :: xs => .tuple [.int n, x] :: enumFrom (n + 1) xs
noncomputable def rangeF (a b : Int) : Option (List PyData) := gd (okInt a && okInt b && okLen (b - a).toNat) ((List.range (b - a).toNat).map fun (k : Nat) => PyData.int (a + k))
noncomputable def lentF (g : PyData → Option (List PyData)) (v : Slots) (i : Nat) : Option (List PyData) := match slot v i with
 | some (.brw xs) => gd (okLen xs.length) xs
 | some (.val d) => g d
 | _ => none
noncomputable def itF1 (g : PyData → Option (List PyData)) (v : Slots) : F → Option (List PyData)
 | .val d => g d
 | .own xs => gd (okLen xs.length) xs
 | .lnd i => lentF g v i
 | _ => none
noncomputable def itF (kd : Nat) (v : Slots) (fs : List F) : Option (List PyData) := match kd with
 | 0 => (one fs).bind (itF1 itemsF v)
 | 1 => ((one fs).bind fun f => (valOf f).bind fun d => (asI d).bind fun n => rangeF 0 n).or ((valsOf fs).bind fun ds => (two ds).bind fun q => op2 asI q.1 q.2 rangeF)
 | 2 => ((one fs).bind (itF1 itemsS v)).map (enumFrom 0)
 | _ => none
noncomputable def itE (kd : Nat) (x : List F) (st : St) : R (List PyData) := match itF kd st.v x with | some xs => .ok xs st | none => .stuck
noncomputable def boolL (fs : List F) : Option Bool := (one fs).bind fun f => (valOf f).bind asB
noncomputable def toB (r : R (List F)) : R Bool := r.bind fun fs st => match boolL fs with | some b => .ok b st | none => .stuck
noncomputable def cndE (z : Bool) (r : R (List F)) (st : St) : R Bool := if z then .ok true st else toB r
noncomputable def eltE (y : List F) (st : St) : R (List PyData) := match oneV y with | some d => .ok [d] st | none => .stuck
noncomputable def mapR (step : PyData → List Slots → R (List PyData)) : List PyData → List Slots → Option (List PyData × List Slots)
 | [], p => some ([], p)
 | x :: xs, p => match step x p with
  | .ok ys st => (mapR step xs st.p).map fun q => (ys ++ q.1, q.2)
  | _ => none
noncomputable def inV (v : Slots) (x : PyData) : Slots := v.map seen ++ [some (.val x)]
noncomputable def compE (n : Nat) (step : PyData → List Slots → R (List PyData)) (xs : List PyData) (st : St) : R (List F) := match mapR step xs st.p with
 | some q => if okLen xs.length && st.v.length == n then .ok [.own q.1] { st with p := q.2 } else .stuck
 | none => .stuck
noncomputable def subX (k c : Nat) : Bool := k == c || decide (5 ≤ c)
noncomputable def ev (Γ : Nat → Fn) : CE → St → R (List F)
 | .nil, st => .ok [] st
 | .cons a b, st => (ev Γ a st).bind fun x st => match x with
  | [f] => (ev Γ b st).bind fun y st => .ok (f.frz :: y) st
  | _ => .stuck
 | .lit d, st => .ok [.val d] st
 | .get p, st => getE p st
 | .mv p, st => mvE p st
 | .lend i, st => if (slot st.v i).isSome then .ok [.lnd i] st else .stuck
 | .glob k, st => oneO ((gtab k).map fun y => .val y.2) st
 | .op o es, st => (ev Γ es st).bind fun x st => opE o x st
 | .sm o r es, st => (ev Γ r st).bind fun x st => match (one x).bind strOf with
  | some q => (ev Γ es st).bind fun y st => opE o (.val (.str q) :: y) st
  | none => .stuck
 | .peek o p es, st => if (getP st p).isSome then (ev Γ es st).bind fun x st' => peekE o p x st' else .stuck
 | .cmp op es, st => (ev Γ es st).bind fun x st => cmpE op x st
 | .cmpNil ne p, st => oneO ((listAt st p).map fun xs => bV (if ne then !xs.isEmpty else xs.isEmpty)) st
 | .inOpen a, st => (ev Γ a st).bind fun x st => oneO ((one x).bind fun f => (strOf f).map fun s => bV (openF s).isSome) st
 | .chain ab o1 o2 c, st => (ev Γ ab st).bind fun x st => match (valsOf x).bind two with
  | some p => (match cmpF o1 p.1 p.2 with
   | some true => (ev Γ c st).bind fun z st => cmpE o2 (.val p.2 :: z) st
   | some false => .ok [bV false] st
   | none => .stuck)
  | none => .stuck
 | .not a, st => (toB (ev Γ a st)).bind fun b st => .ok [bV (!b)] st
 | .and a b, st => (toB (ev Γ a st)).bind fun x st => if x then ev Γ b st else .ok [bV false] st
 | .or a b, st => (toB (ev Γ a st)).bind fun x st => if x then .ok [bV true] st else ev Γ b st
 | .call pure k es, st => (ev Γ es st).bind fun x st => callE Γ pure k x st
 | .callP k p, st => callPE Γ k p st
 | .meth k r es, st => (ev Γ r st).bind fun x st => match x with
  | [.pg n] => (ev Γ es st).bind fun y st => callE Γ false k (.pg n :: y) st
  | _ => .stuck
 | .new es, st => (ev Γ es st).bind fun x st => newE Γ x st
 | .comp n kd src elt cond, st => ((ev Γ src st).bind (itE kd)).bind fun xs st => compE n (fun d p =>
   (cndE (cond.ctorIdx == 0) (ev Γ cond ⟨inV st.v d, p, 0⟩) ⟨inV st.v d, p, 0⟩).bind fun b st' => if b then (ev Γ elt ⟨inV st.v d, st'.p, 0⟩).bind eltE else .ok [] st') xs st
 | .isEx i c, st => match slot st.v i with | some (.ex k) => if decide (k < 5) then .ok [bV (subX k c)] st else .stuck | _ => .stuck
noncomputable def isFld : Pl → Bool
 | .loc _ => false
 | .fld _ _ => true
noncomputable def eff : CE → Bool
 | .cons a b => eff a || eff b
 | .get p => isFld p
 | .mv p => isFld p
 | .op _ es => eff es
 | .sm _ r es => eff r || eff es
 | .peek o p es => eff es || (match o with | .pop => isFld p | _ => false)
 | .cmp _ es => eff es
 | .inOpen a => eff a
 | .chain ab _ _ c => eff ab || eff c
 | .not a => eff a
 | .and a b => eff a || eff b
 | .or a b => eff a || eff b
 | .call pure _ es => eff es || !pure
 | .meth _ _ _ => true
 | .new _ => true
 | .comp _ _ s e c => eff s || eff e || eff c
 | _ => false
inductive CS where
 | nil
 | seq (s r : CS)
 | assign (p : Pl) (e : CE)
 | setd (p : Pl)
 | unpack (is : List Nat) (e : CE)
 | setidx (p : Pl) (k v : CE)
 | setkey (p : Pl) (k v : CE)
 | append (p : Pl) (e : CE)
 | clear (p : Pl)
 | drop (e : CE)
 | ret (e : CE)
 | retN
 | iff (c : CE) (a b : CS)
 | loop (many : Bool) (is : List Nat) (kd : Nat) (src : CE) (body : CS)
 | whl (n : Nat) (c : CE) (body : CS)
 | raise (k : Nat)
 | try_ (b hs : CS)
 | hd (c : Nat) (i : Option Nat) (h r : CS)
 | hnil
 | rows (i j : Nat) (many src c k e : CE)
inductive Fl where
 | next
 | ret (f : F)
noncomputable def nextO (o : Option St) : R Fl := match o with | some st => .ok .next st | none => .stuck
noncomputable def storO (f : F) (p : Pl) : Option F := match f with
 | .val d => some (.val d)
 | .own xs => some (.own xs)
 | .pg k => gd (!isFld p) (.pg k)
 | _ => none
noncomputable def asgE (p : Pl) (fs : List F) (st : St) : R Fl := nextO ((one fs).bind fun f => (storO f p).bind fun g => setP st (some g) p)
noncomputable def setAll : List Nat → List PyData → Slots → Option Slots
 | [], ds, v => gd ds.isEmpty v
 | _ :: _, [], _ => none
 | i :: is, d :: ds, v => (gd (decide (i < v.length)) ()).bind fun _ => setAll is ds (v.set i (some (.val d)))
noncomputable def bindT (many : Bool) (is : List Nat) (d : PyData) (st : St) : Option St := ((if many then asT d else some [d]).bind fun ds => setAll is ds st.v).map fun v => { st with v := v }
noncomputable def unpE (is : List Nat) (fs : List F) (st : St) : R Fl := nextO ((oneV fs).bind fun d => bindT true is d st)
noncomputable def setE (p : Pl) (fs ks : List F) (st : St) : R Fl := nextO ((oneV fs).bind fun d => (oneV ks).bind fun k => (asI k).bind fun n => (ownAt st p).bind fun xs => (gd (okLen xs.length && decide (0 ≤ n ∧ n < xs.length)) ()).bind fun _ => setP st (some (.own (xs.set n.toNat d))) p)
noncomputable def keyE (p : Pl) (fs ks : List F) (st : St) : R Fl := nextO ((oneV fs).bind fun d => (oneV ks).bind fun k => (keyI k).bind fun q => (dctAt st p).bind fun es => (gd (okLen es.length) ()).bind fun _ => setP st (some (.dct (putF es q d))) p)
noncomputable def appE (p : Pl) (fs : List F) (st : St) : R Fl := nextO ((oneV fs).bind fun d => (ownAt st p).bind fun xs => (gd (okLen xs.length) ()).bind fun _ => setP st (some (.own (xs ++ [d]))) p)
noncomputable def clrE (p : Pl) (st : St) : R Fl := nextO ((ownAt st p).bind fun xs => (gd (okLen xs.length) ()).bind fun _ => setP st (some (.own [])) p)
noncomputable def retE (fs : List F) (st : St) : R Fl := match (one fs).bind fun f => storO f (.fld 0 0) with | some f => .ok (.ret f) st | none => .stuck
noncomputable def forL (step : PyData → St → R Fl) : List PyData → St → R Fl
 | [], st => .ok .next st
 | x :: xs, st => match step x st with
  | .ok .next st => forL step xs st
  | .ok (.ret f) st => .ok (.ret f) st
  | _ => .stuck
noncomputable def whlL (c : St → R Bool) (b : St → R Fl) : Nat → St → R Fl
 | 0, _ => .stuck
 | n + 1, st => match c st with
  | .ok true st => (match b st with
   | .ok .next st => whlL c b n st
   | .ok (.ret f) st => .ok (.ret f) st
   | _ => .stuck)
  | .ok false st => .ok .next st
  | _ => .stuck
noncomputable def tryE (r : R Fl) (h : St → R Fl) : R Fl := match r with
 | .exc k st => h { st with x := k }
 | r => r
noncomputable def noX (r : R Fl) : R Fl := match r with
 | .exc _ _ => .stuck
 | r => r
noncomputable def rowIx (n : Nat) (ks : List F) : Option Nat := (oneV ks).bind fun d => (asI d).bind fun i => (gd (okLen n) ()).bind fun _ => at? n i
noncomputable def rowAdd (xss : List (List PyData)) (n : Nat) (es : List F) : Option (List (List PyData)) := (oneV es).bind fun d => (xss[n]?).bind fun xs => gd (okLen xs.length) (xss.set n (xs ++ [d]))
noncomputable def rowE (Γ : Nat → Fn) (j : Nat) (c k e : CE) (x : PyData) (xss : List (List PyData)) (st : St) : R (List (List PyData)) := if decide (j < st.v.length) then
  (toB (ev Γ c { st with v := st.v.set j (some (.val x)) })).bind fun b st => if b then (ev Γ k st).bind fun ks st => (match rowIx xss.length ks with
   | some n => (ev Γ e st).bind fun es st => (match rowAdd xss n es with | some r => .ok r st | none => .stuck)
   | none => .stuck) else .ok xss st
 else .stuck
noncomputable def rowL (step : PyData → List (List PyData) → St → R (List (List PyData))) : List PyData → List (List PyData) → St → R (List (List PyData))
 | [], xss, st => .ok xss st
 | x :: xs, xss, st => match step x xss st with
  | .ok r st => rowL step xs r st
  | _ => .stuck
noncomputable def rowsE (Γ : Nat → Fn) (i j : Nat) (src c k e : CE) (n : Nat) (st : St) : R Fl := if decide (i < st.v.length) then
  ((ev Γ src { st with v := st.v.set i none }).bind (itE 0)).bind fun xs st => (match rowL (rowE Γ j c k e) xs (List.replicate n []) st with | .ok xss st => .ok (.ret (.val (.list (xss.map .list)))) st | _ => .stuck)
 else .stuck
noncomputable def ex (Γ : Nat → Fn) : CS → St → R Fl
 | .nil, st => .ok .next st
 | .seq s r, st => (ex Γ s st).bind fun fl st => match fl with
  | .next => ex Γ r st
  | .ret f => .ok (.ret f) st
 | .assign p e, st => (ev Γ e st).bind fun x st => asgE p x st
 | .setd p, st => nextO (setP st (some (.dct [])) p)
 | .unpack is e, st => (ev Γ e st).bind fun x st => unpE is x st
 | .setidx p k v, st => (ev Γ v st).bind fun x st => if (oneV x).isSome then if (getP st p).isSome then (ev Γ k st).bind fun y st => setE p x y st else .stuck else .stuck
 | .setkey p k v, st => (ev Γ v st).bind fun x st => if (oneV x).isSome then if (getP st p).isSome then (ev Γ k st).bind fun y st => keyE p x y st else .stuck else .stuck
 | .append p e, st => if (ownAt st p).isSome then (ev Γ e st).bind fun x st => appE p x st else .stuck
 | .clear p, st => clrE p st
 | .drop e, st => (ev Γ e st).bind fun _ st => .ok .next st
 | .ret e, st => (ev Γ e st).bind fun x st => retE x st
 | .retN, st => .ok (.ret (.val .none)) st
 | .iff c a b, st => (toB (ev Γ c st)).bind fun t st => if t then ex Γ a st else ex Γ b st
 | .loop many is kd src body, st => ((ev Γ src st).bind (itE kd)).bind fun xs st => forL (fun x st => match bindT many is x st with | some st' => ex Γ body st' | none => .stuck) xs st
 | .whl n c body, st => whlL (fun st => toB (ev Γ c st)) (ex Γ body) n st
 | .raise k, st => .exc k st
 | .try_ b hs, st => tryE (ex Γ b st) (ex Γ hs)
 | .hd c i h r, st => if decide (st.x < 5) && subX st.x c then (match i with
   | none => noX (ex Γ h st)
   | some i => if i < st.v.length then ((noX (ex Γ h { st with v := st.v.set i (some (.ex st.x)) })).bind fun fl st => .ok fl { st with v := [] }) else .stuck) else ex Γ r st
 | .hnil, _ => .stuck
 | .rows i j many src c k e, st => ((ev Γ many st).bind (itE 1)).bind fun zs st => rowsE Γ i j src c k e zs.length st
noncomputable def outOf (r : R Fl) : Out := match r with
 | .ok .next st => .ret (.val .none) st.p
 | .ok (.ret f) st => .ret f st.p
 | .exc k st => .exc k st.p
 | .stuck => .stuck
noncomputable def runDef (Γ : Nat → Fn) (np nv : Nat) (body : CS) : Fn := fun p as =>
 if as.length = np then outOf (ex Γ body ⟨as.map some ++ List.replicate nv none, p, 0⟩) else .stuck
end
structure Tp where
 prog : Program
 w : World
 s : Shared
 mg : Str → Option Value
 mb : Str → Option Value
 pk : PySem.W.Frag
 pc : Addr
 xc : Nat → Value
structure Cx where
 T : Tp
 A : Around
 env : Env
 nm : List Str
 d : Nat
 c : Bool
 full : Bool
 h : Bool
noncomputable def Acc (env : Env) (x : Str) : Prop := env.kindOf x = some .local ∨ env.kindOf x = some .cell
noncomputable def Holds (env : Env) (h : Heap) (x : Str) (v : Value) : Prop :=
 (env.kindOf x = some .local ∧ ∃ m, h.Ns env.locals m ∧ m x = some v) ∨
 (env.kindOf x = some .cell ∧ ∃ c, env.cells.lookup x = some c ∧ h.IsCell c (some v))
noncomputable def fldN : Nat → Str
 | 0 => "rows"
 | 1 => "parts"
 | 2 => "counts"
 | 3 => "known"
 | 4 => "made"
 | _ => "same"
noncomputable def instO (C dx : Addr) : Obj := { cls := .ref C, dict := some dx, data := .plain }
noncomputable def RepTab (W : Ws) : List (List Int × Addr × Value) → List (List Int × PyData) → Prop
 | [], [] => True
 | x :: xs, e :: es => (x.1 = e.1 ∧ (∃ o, W.z.get? x.2.1 = some o) ∧ Rep W x.2.2 e.2) ∧ RepTab W xs es
 | _, _ => False
noncomputable def DctAt (T : Tp) (W : Ws) (a : Addr) (es : List (List Int × PyData)) : Prop :=
 (a == sysModules) = false ∧ ∃ xs, W.h.DictOfH (tupleKind (intKind T.prog T.w)) a xs ∧ RepTab W xs es
noncomputable def RepF (T : Tp) (W : Ws) (t : Tag) (v : Value) : F → Prop
 | .val d => Rep W v d
 | .own xs => ∃ a vs, v = .ref a ∧ W.h.PlainList a vs ∧ W.t a = t ∧ RepAll W vs.toList xs
 | .dct es => ∃ a, v = .ref a ∧ W.t a = t ∧ DctAt T W a es
 | _ => False
noncomputable def Tag.lent (d : Nat) (c : Bool) : Tag → Bool
 | .fz => true
 | .own d' _ => decide (d' < d)
 | .pgf _ _ => !c
 | _ => false
noncomputable def RepS (cx : Cx) (W : Ws) (t : Tag) (v : Value) : F → Prop
 | .brw xs => ∃ a vs, v = .ref a ∧ W.h.IsList a vs ∧ (W.t a).lent cx.d cx.c = true ∧ RepAll W vs.toList xs
 | .ex k => ∃ a o, v = .ref a ∧ W.get a = some o ∧ W.t a = .fz ∧ o.cls = cx.T.xc k
 | .pg k => ∃ a o, v = .ref a ∧ W.get a = some o ∧ W.t a = .inst k
 | f => RepF cx.T W t v f
noncomputable abbrev wpX (cx : Cx) {α : Type} (x : Sem α) (Q : α → Shared → Prop) (E : VP) (s : Shared) : Prop := wpAny (model cx.T.prog cx.T.w) cx.A x Q E s
structure PI where
 a : Addr
 da : Addr
 m : Str → Option Value
structure PgAt (T : Tp) (W : Ws) (k : Nat) (fl : Slots) (q : PI) : Prop where
 inst : W.get q.a = some (instO T.pc q.da)
 it : W.t q.a = .inst k
 dt : W.t q.da = .pgd k
 ns : W.h.Ns1 q.da q.m
 fld : ∀ j f, j < 6 → slot fl j = some f → ∃ v, q.m (fldN j) = some v ∧ RepF T W (.pgf k j) v f
 oth : ∀ name, (∀ j, j < 6 → name ≠ fldN j) → q.m name = none
 len : fl.length = 6
structure Wok (T : Tp) (c : Bool) (p : List Slots) (W : Ws) : Prop where
 dead : ∀ b, W.get b = none → W.t b = .junk
 top : ∀ b o, T.s.heap.get? b = some o → W.get b = some o ∧ W.t b = .fz
 pgs : ∀ k fl, p[k]? = some fl → ∃ q, PgAt T W k fl q
 uq : ∀ x y k, W.t x = .inst k → W.t y = .inst k → x = y
 cnt : c = true → ∀ x k, W.t x = .inst k → k < p.length
 lf : ∀ b o d, W.t b = .loc d → W.get b = some o → Nf o
noncomputable def Frs (W : Ws) (d : Nat) (l : List Env) : Prop := ∀ e ∈ l, e.scope.kind ≠ .module ∧ ∃ L d' o, e.frame = some L ∧ W.t L = .loc d' ∧ d' ≤ d ∧ W.get L = some o
theorem Frs.keep {W W' : Ws} {d e : Nat} {l : List Env} (hd : d ≤ e) (h : ∀ L d' o, d' ≤ d → W.t L = .loc d' → W.get L = some o → W'.t L = .loc d' ∧ ∃ o', W'.get L = some o') (F : Frs W d l) : Frs W' e l := fun x hx =>
 let ⟨k, L, d', o, h1, h2, h3, h4⟩ := F x hx; let ⟨t, o', g⟩ := h L d' o h3 h2 h4; ⟨k, L, d', o', h1, t, nlt h3 hd, g⟩
noncomputable def Hnd (hd : Option Value) (h : Heap) : Prop := ∃ e oe vs, hd = some (.ref e) ∧ h.get? e = some oe ∧ oe.data = .fields vs ∧ vs[2]? = some .none
theorem Hnd.mono {W W' : Ws} {hd : Option Value} (z : Fz W W') (h : Hnd hd W.z) : Hnd hd W'.z := let ⟨e, oe, vs, h1, h2, h3⟩ := h; ⟨e, oe, vs, h1, z e oe h2, h3⟩
structure Frm (cx : Cx) (v : Slots) (W : Ws) : Prop where
 ns : ∃ m, W.h.Ns cx.env.locals m
 nst : W.t cx.env.locals = .loc cx.d
 cells : ∀ y c, (y, c) ∈ cx.env.cells → (∃ v, W.h.IsCell c v) ∧ ∃ d', W.t c = .loc d' ∧ d' ≤ cx.d ∧ (cx.full = true → d' = cx.d)
 vals : ∀ i f y, slot v i = some f → cx.nm[i]? = some y → Acc cx.env y → ∃ u, Holds cx.env W.h y u ∧ RepS cx W (.own cx.d (i + 1)) u f
 frs : ∃ l, cx.A.frames = some l ∧ Frs W cx.d l
 hnd : cx.h = true → Hnd cx.A.handled W.z
structure Sim (cx : Cx) (st : St) (W : Ws) : Prop where
 ok : Wok cx.T cx.c st.p W
 fr : Frm cx st.v W
section
variable {T : Tp} {cx : Cx} {W W' : Ws} {t : Tag} {v u : Value} {f : F} {a b d k : Nat} {c c' : Bool} {x : Addr} {p : List Slots} {vs vs' : Slots} {y : Str}
theorem RepTab.mono (l : Fz W W') {xs : List (List Int × Addr × Value)} {es : List (List Int × PyData)} (h : RepTab W xs es) : RepTab W' xs es := by
 induction xs generalizing es with
 | nil => cases es <;> exact h
 | cons x xs ih =>
  cases es with
  | nil => exact h
  | cons e es => exact ⟨⟨h.1.1, let ⟨o, q⟩ := h.1.2.1; ⟨o, l _ o q⟩, h.1.2.2.mono l⟩, ih h.2⟩
theorem RepTab.keys {xs : List (List Int × Addr × Value)} {es : List (List Int × PyData)} (h : RepTab W xs es) {x : List Int × Addr × Value} (hx : x ∈ xs) : ∃ o, W.z.get? x.2.1 = some o := by
 induction xs generalizing es with
 | nil => cases hx
 | cons x' xs ih =>
  cases es with
  | nil => exact h.elim
  | cons e es =>
   rcases List.mem_cons.mp hx with rfl | hx
   · exact h.1.2.1
   · exact ih h.2 hx
theorem DctAt.keep {a : Addr} {es : List (List Int × PyData)} (hz : Fz W W') (hk : ∀ o, W.get a = some o → W'.get a = some o) (q : DctAt T W a es) : DctAt T W' a es := by
 obtain ⟨q1, xs, ⟨o, e, ep, h1, h2, h3, h4, h5, h6⟩, r⟩ := q
 refine ⟨q1, xs, ⟨o, e, ep, hk _ h1, h2, h3, h4, fun x hx => ?_, h6⟩, r.mono hz⟩
 obtain ⟨ok, hk'⟩ := r.keys hx
 obtain ⟨o', its, n, g1, g2⟩ := h5 x hx
 have e := g1.symm.trans (z_in hk').2
 cases e
 exact ⟨_, its, n, (z_in (hz _ _ hk')).2, g2⟩
theorem plain_at {h h' : Heap} {a : Addr} {vs : Array Value} (q : h.PlainList a vs) (e : ∀ o, h.get? a = some o → h'.get? a = some o) : h'.PlainList a vs := let ⟨n, g⟩ := q; ⟨n, e _ g⟩
theorem RepF.keep (hz : Fz W W') (hk : f.tmp = true → ∀ a o, W.t a = t → W.get a = some o → W'.get a = some o ∧ W'.t a = t) (h : RepF T W t v f) : RepF T W' t v f := by
 cases f with
 | val d => exact Rep.mono hz h
 | own xs => obtain ⟨a, vs, e, ⟨n, g⟩, q, r⟩ := h; exact ⟨a, vs, e, ⟨n, (hk rfl a _ q g).1⟩, (hk rfl a _ q g).2, r.mono hz⟩
 | dct es =>
  obtain ⟨a, e, q, r⟩ := h
  have r' := r
  obtain ⟨_, xs, ⟨o, _, _, h1, _⟩, _⟩ := r'
  exact ⟨a, e, (hk rfl a o q h1).2, r.keep hz fun o g => (hk rfl a o q g).1⟩
 | brw xs => exact h
 | ex k => exact h
 | lnd i => exact h
 | pg k => exact h
theorem RepS.keep (hz : Fz W W') (hk : f.tmp = true → ∀ a o, W.t a = t → W.get a = some o → W'.get a = some o ∧ W'.t a = t) (hl : ∀ a o, (W.t a).lent cx.d cx.c = true → W.get a = some o → W'.get a = some o ∧ W'.t a = W.t a)
  (hi : ∀ a o k, W.t a = .inst k → W.get a = some o → W'.get a = some o ∧ W'.t a = .inst k) (h : RepS cx W t v f) : RepS cx W' t v f := by
 cases f with
 | brw xs => obtain ⟨a, vs, e, ⟨o, g, g'⟩, q, r⟩ := h; exact ⟨a, vs, e, ⟨o, (hl a o q g).1, g'⟩, by rw [(hl a o q g).2]; exact q, r.mono hz⟩
 | ex k => obtain ⟨a, o, e, g, q, r⟩ := h; exact ⟨a, o, e, (z_in (hz a o (z_of q g))).2, (z_in (hz a o (z_of q g))).1, r⟩
 | pg k => obtain ⟨a, o, e, g, q⟩ := h; exact ⟨a, o, e, (hi a o k q g).1, (hi a o k q g).2⟩
 | val d => exact RepF.keep (T := cx.T) (f := .val d) hz hk h
 | own xs => exact RepF.keep (T := cx.T) (f := .own xs) hz hk h
 | dct es => exact RepF.keep (T := cx.T) (f := .dct es) hz hk h
 | lnd i => exact h
theorem Le.ns (l : Le a b c W W') {L : Addr} {m : Str → Option Value} (k : (W.t L).ch a b c = false) (h : W.h.Ns L m) : W'.h.Ns L m := by
 obtain ⟨o, es, ep, e, r⟩ := h
 obtain ⟨_, sl, e', _⟩ := l.at_ L o e k
 exact ⟨_, es, ep, e', r⟩
theorem Le.cell (l : Le a b c W W') {L : Addr} {v : Option Value} (k : (W.t L).ch a b c = false) (h : W.h.IsCell L v) : W'.h.IsCell L v := by
 obtain ⟨o, e, r⟩ := h
 obtain ⟨_, sl, e', _⟩ := l.at_ L o e k
 exact ⟨_, e', r⟩
theorem Holds.keep {env : Env} {h h' : Heap} (hL : ∀ m, h.Ns env.locals m → h'.Ns env.locals m) (hC : ∀ y c v, (y, c) ∈ env.cells → h.IsCell c v → h'.IsCell c v) (q : Holds env h y u) : Holds env h' y u := by
 rcases q with ⟨k, m, hn, hm⟩ | ⟨k, c, hc, g⟩
 · exact .inl ⟨k, m, hL m hn, hm⟩
 · exact .inr ⟨k, c, hc, hC _ c _ (mem_of_lookup hc) g⟩
theorem loc_ch {d b a : Nat} {c : Bool} (h : d < b) : (Tag.loc d).ch a b c = false := dff (Nat.not_le.mpr h)
theorem Frm.nsk (F : Frm cx vs W) (l : Le a b c W W') (hb : cx.d < b) {m : Str → Option Value} (h : W.h.Ns cx.env.locals m) : W'.h.Ns cx.env.locals m := l.ns (by rw [F.nst]; exact loc_ch hb) h
theorem Frm.cellk (F : Frm cx vs W) (l : Le a b c W W') (hb : cx.d < b) {y : Str} {e : Addr} {v : Option Value} (hy : (y, e) ∈ cx.env.cells) (h : W.h.IsCell e v) : W'.h.IsCell e v := by
 obtain ⟨_, d', q, q', _⟩ := F.cells y e hy
 exact l.cell (by rw [q]; exact loc_ch (Nat.lt_of_le_of_lt q' hb)) h
theorem Frm.holds (F : Frm cx vs W) (l : Le a b c W W') (hb : cx.d < b) (q : Holds cx.env W.h y u) : Holds cx.env W'.h y u :=
 q.keep (fun m h => F.nsk l hb h) fun y c v hy h => F.cellk l hb hy h
theorem Le.loct (l : Le a b c W W') {e : Addr} {o : Obj} (g : W.get e = some o) (k : (W.t e).ch a b c = false) : W'.t e = W.t e := (l.at_ e o g k).1
theorem lent_ch {t : Tag} (h : t.lent d c' = true) (ha : d < a) (hc : c = true → c' = true) : t.ch a b c = false ∧ t.isLoc = false := by
 cases t with
 | fz => exact ⟨rfl, rfl⟩
 | own d' i => exact ⟨dff (Nat.not_le.mpr (Nat.lt_trans (odt h) ha)), rfl⟩
 | pgf i j =>
  refine ⟨?_, rfl⟩
  cases c with
  | false => rfl
  | true => rw [hc rfl] at h; cases h
 | _ => cases h
theorem Frm.le (F : Frm cx vs W) (l : Le a b c W W') (ha : cx.d < a) (hb : cx.d < b) (hc : c = true → cx.c = true) : Frm cx vs W' := by
 obtain ⟨m, hm⟩ := F.ns
 refine ⟨⟨m, F.nsk l hb hm⟩, ?_, fun y e hy => ?_, fun i f y h1 h2 h3 => ?_, let ⟨l', h1, h2⟩ := F.frs; ⟨l', h1, h2.keep (Nat.le_refl _) fun L d' o hd t g => ?_⟩, fun q => (F.hnd q).mono l.fz⟩
 · obtain ⟨o, _, _, g, _⟩ := hm
   rw [l.loct g (by rw [F.nst]; exact loc_ch hb)]; exact F.nst
 · obtain ⟨⟨v, g⟩, d', q, q', q2⟩ := F.cells y e hy
   refine ⟨⟨v, F.cellk l hb hy g⟩, d', ?_, q', q2⟩
   obtain ⟨o, g, _⟩ := g
   rw [l.loct g (by rw [q]; exact loc_ch (Nat.lt_of_le_of_lt q' hb))]; exact q
 · obtain ⟨u, hu, r⟩ := F.vals i f y h1 h2 h3
   refine ⟨u, F.holds l hb hu, r.keep l.fz (fun _ x o q g => ?_) (fun x o q g => ?_) fun x o k q g => ?_⟩
   · have := l.fix g (by rw [q]; exact dff (Nat.not_le.mpr ha)) (by rw [q]; rfl)
     exact ⟨this.1, this.2.trans q⟩
   · obtain ⟨k1, k2⟩ := lent_ch (a := a) (b := b) q ha hc
     exact l.fix g k1 k2
   · have := l.fix g (by rw [q]; rfl) (by rw [q]; rfl)
     exact ⟨this.1, this.2.trans q⟩
 · obtain ⟨t1, sl, g1, _⟩ := l.at_ L o g (by rw [t]; exact loc_ch (Nat.lt_of_le_of_lt hd hb))
   exact ⟨t1.trans t, _, g1⟩
noncomputable def Tag.ofPg (k : Nat) : Tag → Bool
 | .inst i => i == k
 | .pgd i => i == k
 | .pgf i _ => i == k
 | _ => false
theorem PgAt.keep {k : Nat} {fl : Slots} {q : PI} (P : PgAt T W k fl q) (hz : Fz W W') (hk : ∀ a o, (W.t a).ofPg k = true → W.get a = some o → W'.get a = some o ∧ W'.t a = W.t a) : PgAt T W' k fl q := by
 have hi := hk _ _ (by rw [P.it]; exact beq_self_eq_true k) P.inst
 have hd : ∀ o, W.get q.da = some o → W'.get q.da = some o ∧ W'.t q.da = W.t q.da := fun o g => hk q.da o (by rw [P.dt]; exact beq_self_eq_true k) g
 have ⟨o, g⟩ : ∃ o, W.get q.da = some o := let ⟨o, _, _, g, _⟩ := P.ns; ⟨o, g⟩
 refine ⟨hi.1, hi.2.trans P.it, (hd o g).2.trans P.dt, P.ns.at fun o' e => (hd o' e).1, fun j f hj h => ?_, P.oth, P.len⟩
 obtain ⟨v, hv, hr⟩ := P.fld j f hj h
 refine ⟨v, hv, hr.keep hz fun _ y o q g => ?_⟩
 have := hk y o (by rw [q]; exact beq_self_eq_true k) g
 exact ⟨this.1, this.2.trans q⟩
theorem PgAt.le {k : Nat} {fl : Slots} {q : PI} (P : PgAt T W k fl q) (l : Le a b false W W') : PgAt T W' k fl q :=
 P.keep l.fz fun a o h g => l.fix g (by generalize W.t a = t at h; cases t <;> first | rfl | cases h) (by generalize W.t a = t at h; cases t <;> first | rfl | cases h)
noncomputable def Tag.free (d : Nat) (c : Bool) : Tag → Bool
 | .junk => true
 | .hold => true
 | .oo _ => true
 | .own d' _ => decide (d ≤ d')
 | .pgd _ => c
 | .pgf _ _ => c
 | _ => false
noncomputable def Tag.off : Tag → Bool
 | .junk => true
 | .hold => true
 | .oo _ => true
 | .own _ _ => true
 | .loc _ => true
 | _ => false
theorem Tag.off_pg {t : Tag} (h : t.off = true) : t.ofPg k = false := by cases t <;> first | rfl | cases h
theorem Tag.off_fz {t : Tag} (h : t.off = true) : t ≠ .fz := fun e => by rw [e] at h; cases h
theorem Tag.free_fz {t : Tag} (h : t.free d c = true) : t ≠ .fz := fun e => by rw [e] at h; cases h
theorem Tag.free_lent {t : Tag} (h : t.free d c = true) : t.lent d c = false := by
 cases t with
 | own d' i => exact dff (Nat.not_lt.mpr (odt h))
 | pgf i j => exact congrArg (!·) h
 | junk => rfl
 | hold => rfl
 | oo d => rfl
 | pgd i => rfl
 | _ => cases h
theorem Wok.lfb (K : Wok T c p W) (B : But x W W') (hn : NI W' x) (b : Addr) (o : Obj) (d : Nat) (t : W'.t b = .loc d) (e : W'.get b = some o) : Nf o := by
 by_cases ne : b = x
 · subst ne; exact hn.2 d o t e
 · rw [B.tg b ne] at t
   cases g : W.get b with
   | none => cases (K.dead b g).symm.trans t
   | some o' => cases (B.gt b o' ne g).symm.trans e; exact K.lf b o d t g
theorem Wok.but (K : Wok T c p W) (B : But x W W') (hx : (W.t x).off = true) (hl : (W'.get x = none → W'.t x = .junk)) (hn : NI W' x) : Wok T c p W' := by
 have hz := B.fz (Tag.off_fz hx)
 have back : ∀ y k, W'.t y = .inst k → W.t y = .inst k := fun y k e => (B.tg y fun q => hn.1 k (q ▸ e)) ▸ e
 refine ⟨fun b e => ?_, fun b o e => ?_, fun k fl e => ?_, fun y y' k e e' => K.uq y y' k (back y k e) (back y' k e'), fun hc y k e => K.cnt hc y k (back y k e), K.lfb B hn⟩
 · by_cases ne : b = x
   · subst ne; exact hl e
   · rw [B.tg b ne]
     refine K.dead b ?_
     cases g : W.get b with
     | none => rfl
     | some o => rw [B.gt b o ne g] at e; cases e
 · have := hz b o (z_of (K.top b o e).2 (K.top b o e).1)
   exact ⟨(z_in this).2, (z_in this).1⟩
 · obtain ⟨q, P⟩ := K.pgs k fl e
   refine ⟨q, P.keep hz fun a o h g => ?_⟩
   have ne : a ≠ x := fun q => by rw [q, Tag.off_pg hx] at h; cases h
   exact ⟨B.gt a o ne g, B.tg a ne⟩
theorem Frm.but (F : Frm cx vs W) (B : But x W W') (hx : (W.t x).free cx.d cx.c = true)
  (hv : ∀ i f y, slot vs' i = some f → cx.nm[i]? = some y → Acc cx.env y → (slot vs i = some f ∧ W.t x ≠ .own cx.d (i + 1)) ∨ ∃ u, Holds cx.env W.h y u ∧ RepS cx W' (.own cx.d (i + 1)) u f) : Frm cx vs' W' := by
 have hL : cx.env.locals ≠ x := fun q => by rw [← q, F.nst] at hx; cases hx
 have hC : ∀ y e, (y, e) ∈ cx.env.cells → e ≠ x := fun y e h q => by
  obtain ⟨_, d', q', _⟩ := F.cells y e h
  rw [← q, q'] at hx; cases hx
 have keep : ∀ {y u}, Holds cx.env W.h y u → Holds cx.env W'.h y u := fun {y u} q =>
  q.keep (fun m ⟨o, es, ep, g, r⟩ => ⟨o, es, ep, B.gt _ o hL g, r⟩) fun y e v hy ⟨o, g, r⟩ => ⟨o, B.gt e o (hC y e hy) g, r⟩
 obtain ⟨m, o, es, ep, g, r⟩ := F.ns
 refine ⟨⟨m, o, es, ep, B.gt _ o hL g, r⟩, (B.tg _ hL).trans F.nst, fun y e hy => ?_, fun i f y h1 h2 h3 => ?_, let ⟨l', h1, h2⟩ := F.frs; ⟨l', h1, h2.keep (Nat.le_refl _) fun L d' o hd t g => ?_⟩, fun q => (F.hnd q).mono (B.fz (Tag.free_fz hx))⟩
 · obtain ⟨⟨v, o, g, r⟩, d', q, q'⟩ := F.cells y e hy
   exact ⟨⟨v, o, B.gt e o (hC y e hy) g, r⟩, d', (B.tg e (hC y e hy)).trans q, q'⟩
 · rcases hv i f y h1 h2 h3 with ⟨h4, h5⟩ | ⟨u, hu, r⟩
   · obtain ⟨u, hu, r⟩ := F.vals i f y h4 h2 h3
     have ne : ∀ {a : Addr}, W.t a ≠ W.t x → a ≠ x := fun h q => h (q ▸ rfl)
     refine ⟨u, keep hu, r.keep (B.fz (Tag.free_fz hx)) (fun _ a o q g => ?_) (fun a o q g => ?_) fun a o k q g => ?_⟩
     · have n : a ≠ x := ne fun e => h5 (e.symm.trans q)
       exact ⟨B.gt a o n g, (B.tg a n).trans q⟩
     · have n : a ≠ x := ne fun e => by rw [e, Tag.free_lent hx] at q; cases q
       exact ⟨B.gt a o n g, B.tg a n⟩
     · have n : a ≠ x := ne fun e => by rw [← e, q] at hx; cases hx
       exact ⟨B.gt a o n g, (B.tg a n).trans q⟩
   · exact ⟨u, keep hu, r⟩
 · have n : L ≠ x := fun q => by rw [← q, t] at hx; cases hx
   exact ⟨(B.tg L n).trans t, o, B.gt L o n g⟩
theorem Wok.le {q : List Slots} (K : Wok T c p W) (l : Le a b false W W') (K' : Wok T false q W') : Wok T c p W' :=
 ⟨K'.dead, K'.top, fun k fl h => let ⟨q, P⟩ := K.pgs k fl h; ⟨q, P.le l⟩, K'.uq, fun hc x k h => K.cnt hc x k (l.ins rfl x k h), K'.lf⟩
end
noncomputable abbrev sh (T : Tp) (W : Ws) (tk : Nat) : Shared := { T.s with heap := W.h, toks := tk }
structure Air (B : Heap) (l : List Env) (e : Addr) (cls : Value) (h : Heap) : Prop where
 st : B.StaysIn h
 no : B.get? e = none
 fr : h.FunFrames B l
 ob : ∃ oe vs, h.get? e = some oe ∧ oe.cls = cls ∧ oe.data = .fields vs ∧ vs[2]? = some .none ∧
  (vs[1]? = some .none ∨ ∃ T oT ts, vs[1]? = some (.ref T) ∧ B.get? T = none ∧ T ≠ e ∧ h.get? T = some oT ∧ oT.data = .fields ts ∧ ts[3]? = some .none)
noncomputable def Fly (cx : Cx) (k : Nat) (e : Addr) (W : Ws) : Prop :=
 ∃ B l, cx.A.frames = some l ∧ (∀ b o, W.get b = some o → (W.t b).isLoc = false → W.t b ≠ .junk → B.get? b = some o) ∧ Air B l e (cx.T.xc k) W.h
noncomputable def Post (cx : Cx) (b : Nat) (c : Bool) {α β : Type} (Rl : Ws → α → β → Prop) (W : Ws) (Q : α → Shared → Prop) (E : VP) : R β → Prop
 | .ok x st => ∀ W' tk v, Le cx.d b c W W' → Sim cx st W' → Rl W' v x → Q v (sh cx.T W' tk)
 | .exc k st => ∀ W' tk e, Le cx.d b c W W' → Sim cx st W' → Fly cx k e W' → E (.ref e) (sh cx.T W' tk)
 | .stuck => False
section
variable {cx : Cx} {b b' : Nat} {c c' : Bool} {α β γ δ : Type} {Rl : Ws → α → β → Prop} {Rl' : Ws → γ → δ → Prop} {W W' : Ws} {Q : α → Shared → Prop} {E : VP} {r : R β}
theorem Post.to (l : Le cx.d b c W W') (h : Post cx b c Rl W Q E r) : Post cx b c Rl W' Q E r := by
 cases r with
 | ok x st => exact fun W'' tk v l' => h W'' tk v (l.trans l')
 | exc k st => exact fun W'' tk e l' => h W'' tk e (l.trans l')
 | stuck => exact h
theorem Post.bind {f : β → St → R δ} {Q' : γ → Shared → Prop} (hb : b' ≤ b) (hc : c = true → c' = true) (h : Post cx b' c' Rl' W Q' E (r.bind f))
  (k : ∀ x st W' tk v, Le cx.d b c W W' → Sim cx st W' → Rl W' v x → Post cx b' c' Rl' W' Q' E (f x st) → Q v (sh cx.T W' tk)) : Post cx b c Rl W Q E r := by
 cases r with
 | ok x st => exact fun W' tk v l S q => k x st W' tk v l S q (Post.to (l.mono (Nat.le_refl _) hb hc) h)
 | exc j st => exact fun W' tk e l => h W' tk e (l.mono (Nat.le_refl _) hb hc)
 | stuck => exact h
theorem Post.bind' {f : β → St → R δ} {Q' : γ → Shared → Prop} (h : Post cx b c Rl' W Q' E (r.bind f))
  (k : ∀ x st W' tk v, Le cx.d b c W W' → Sim cx st W' → Rl W' v x → Post cx b c Rl' W' Q' E (f x st) → Q v (sh cx.T W' tk)) : Post cx b c Rl W Q E r :=
 h.bind (Nat.le_refl _) id k
end
noncomputable def RepA (cx : Cx) (W : Ws) (v : Value) : F → Prop
 | .lnd i => ∃ y, cx.nm[i]? = some y ∧ Acc cx.env y ∧ Holds cx.env W.h y v
 | .dct _ => False
 | f => RepS cx W (.own cx.d 0) v f
noncomputable def RepL (cx : Cx) (W : Ws) : List Value → List F → Prop
 | [], [] => True
 | v :: vs, f :: fs => RepA cx W v f ∧ RepL cx W vs fs
 | _, _ => False
section
variable {cx : Cx} {W W' : Ws} {v : Value} {f : F} {vs : List Value} {st : St} {c : Bool}
theorem RepL.one (h : RepL cx W vs [f]) : ∃ v, vs = [v] ∧ RepA cx W v f := by
 cases vs with
 | nil => exact h.elim
 | cons v vs =>
  cases vs with
  | nil => exact ⟨v, rfl, h.1⟩
  | cons _ _ => exact h.2.elim
theorem RepL.val {d : PyData} (h : Rep W v d) : RepL cx W [v] [.val d] := ⟨h, trivial⟩
theorem lent_e {t : Tag} {d b : Nat} {c c' : Bool} (h : t.lent d c' = true) (hc : c = true → c' = true) : t.ch d b c = false ∧ t.isLoc = false := by
 cases t with
 | fz => exact ⟨rfl, rfl⟩
 | own d' i => exact ⟨dff (Nat.not_le.mpr (odt h)), rfl⟩
 | pgf i j => exact ⟨(by cases c with | false => rfl | true => rw [hc rfl] at h; cases h), rfl⟩
 | _ => cases h
theorem RepA.mono (F : Frm cx st.v W) (l : Le cx.d (cx.d + 1) c W W') (hc : c = true → cx.c = true) (hf : f.tmp = false) (h : RepA cx W v f) : RepA cx W' v f := by
 have keep : RepS cx W .junk v f → RepS cx W' .junk v f := fun h => h.keep l.fz (fun e => by rw [hf] at e; cases e) (fun a o q g => let ⟨k1, k2⟩ := lent_e q hc; l.fix g k1 k2) fun a o k q g => (by
  have := l.fix g (by rw [q]; rfl) (by rw [q]; rfl)
  exact ⟨this.1, this.2.trans q⟩)
 cases f with
 | own xs => cases hf
 | dct es => cases hf
 | lnd i => obtain ⟨y, h1, h2, h3⟩ := h; exact ⟨y, h1, h2, F.holds l (Nat.lt_succ_self _) h3⟩
 | val d => exact Rep.mono l.fz h
 | ex k => exact keep h
 | pg k => exact keep h
 | brw xs => exact keep h
theorem own0_ne {d i : Nat} : Tag.own d 0 ≠ Tag.own d (i + 1) := fun e => by cases e
theorem own_ch {d i b : Nat} {c : Bool} : (Tag.own d i).ch d b c = true := dtt (Nat.le_refl d)
theorem own_free {d i : Nat} {c : Bool} : (Tag.own d i).free d c = true := dtt (Nat.le_refl d)
theorem Sim.but {x : Addr} (S : Sim cx st W) (B : But x W W') (hx : (W.t x).free cx.d cx.c = true) (ho : (W.t x).off = true) (h0 : ∀ i, W.t x ≠ .own cx.d (i + 1)) (hl : W'.get x = none → W'.t x = .junk) (hn : NI W' x) : Sim cx st W' :=
 ⟨S.ok.but B ho hl hn, S.fr.but B hx fun i f y h1 h2 h3 => .inl ⟨h1, h0 i⟩⟩
theorem Sim.frz (b : Nat) (S : Sim cx st W) (h : RepA cx W v f) : ∃ t', Le cx.d b c W ⟨t', W.h⟩ ∧ Sim cx st ⟨t', W.h⟩ ∧ RepA cx ⟨t', W.h⟩ v f.frz ∧ f.frz.tmp = false := by
 have same : f.tmp = false → f.frz = f → ∃ t', Le cx.d b c W ⟨t', W.h⟩ ∧ Sim cx st ⟨t', W.h⟩ ∧ RepA cx ⟨t', W.h⟩ v f.frz ∧ f.frz.tmp = false := fun h1 h2 => ⟨W.t, Le.refl, S, by rw [h2]; exact ⟨h, h1⟩⟩
 cases f with
 | own xs =>
  obtain ⟨a, vs, rfl, ⟨n, g⟩, q, r⟩ := h
  have B := But.tag W a .fz
  have hz : Fz W _ := B.fz (by rw [q]; intro e; cases e)
  exact ⟨_, B.le (.of (by rw [q]; exact own_ch)) (put_ni rfl), S.but B (by rw [q]; exact own_free) (by rw [q]; rfl) (fun i => by rw [q]; exact own0_ne) (fun e => nomatch (g.symm.trans e)) (put_ni rfl),
   Rep.list ⟨_, g, rfl, n, rfl⟩ (Tags.put_self ..) (r.mono hz), rfl⟩
 | dct es => exact h.elim
 | val d => exact same rfl rfl
 | brw xs => exact same rfl rfl
 | ex k => exact same rfl rfl
 | lnd i => exact same rfl rfl
 | pg k => exact same rfl rfl
end
noncomputable def seqW (cx : Cx) (E : VP) : List Expr → (List Value → Shared → Prop) → Shared → Prop
 | [], T, s => T [] s
 | e :: es, T, s => wpX cx (eval e cx.env) (fun v s' => seqW cx E es (fun vs => T (v :: vs)) s') E s
theorem seqW.mono {cx : Cx} {E : VP} {T T' : List Value → Shared → Prop} (k : ∀ vs s, T vs s → T' vs s) {es : List Expr} {s : Shared} (h : seqW cx E es T s) : seqW cx E es T' s := by
 induction es generalizing T T' s with
 | nil => exact k _ _ h
 | cons e es ih => exact wpAny_mono h (fun v s' h' => ih (fun vs s => k (v :: vs) s) h') fun _ _ x => x
noncomputable def SL (Γ : Nat → Fn) (cx : Cx) (cb : Bool) (c : CE) (es : List Expr) : Prop :=
 (eff c = true → cb = true) → ∀ st W, Sim cx st W → ∀ tk T E, Post cx (cx.d + 1) cb (RepL cx) W T E (ev Γ c st) → seqW cx E es T (sh cx.T W tk)
structure Cx.Ok (cx : Cx) (cb : Bool) : Prop where
 cb : cb = true → cx.c = true
 kind : cx.env.scope.kind = .function
 glob : cx.env.globals = mainGlobals
 bltn : cx.env.builtins = builtinsNs
 hand : cx.h = false → cx.A.handled = none
 units : cx.A.units + 200 < cLine
 depth : cx.A.depth + 20 < recursionLimit
section
variable {Γ : Nat → Fn} {cx : Cx} {cb : Bool} {c a b : CE} {e x y : Expr} {es : List Expr}
theorem or_left {a b : Bool} {P : Prop} (h : (a || b) = true → P) : a = true → P := fun e => h (by rw [e]; rfl)
theorem or_right {a b : Bool} {P : Prop} (h : (a || b) = true → P) : b = true → P := fun e => h (by rw [e]; exact Bool.or_true a)
theorem s_nil : SL Γ cx cb .nil [] := fun _ st W S tk T E H => H W tk [] Le.refl S trivial
theorem s_cons (C : cx.Ok cb) (ha : SL Γ cx cb a [e]) (hb : SL Γ cx cb b es) : SL Γ cx cb (.cons a b) (e :: es) := fun hf st W S tk T E H => by
 refine ha (or_left hf) st W S tk (fun vs s' => seqW cx E es (fun us => T (vs ++ us)) s') E (Post.bind' H fun x st1 W1 tk1 vs l1 S1 r1 H1 => ?_)
 cases x with
 | nil => exact H1.elim
 | cons f x =>
  cases x with
  | cons _ _ => exact H1.elim
  | nil =>
   obtain ⟨v, rfl, r⟩ := r1.one
   obtain ⟨t', l2, S2, r2, hn⟩ := S1.frz (c := cb) (cx.d + 1) r
   refine hb (or_right hf) st1 ⟨t', W1.h⟩ S2 tk1 _ E (Post.bind' (H1.to l2) fun y st3 W3 tk3 us l3 S3 r3 H3 => ?_)
   exact H3 W3 tk3 _ Le.refl S3 ⟨r2.mono S2.fr l3 C.cb hn, r3⟩
end
noncomputable abbrev Kd := List (Str × NameKind)
noncomputable def isLoc (nm : List Str) (kd : Kd) (i : Nat) (x : Str) : Bool :=
 nm[i]? == some x && (kd.lookup x == some .local || kd.lookup x == some .cell) && !(x == ("__debug__" : Str))
theorem slot_set {st : Slots} {i j : Nat} {f : Option F} (hi : i < st.length) : slot (st.set i f) j = if i = j then f else slot st j := by
 unfold slot
 rw [List.getElem?_set]
 by_cases e : i = j
 · rw [if_pos e, if_pos e, if_pos hi]; rfl
 · rw [if_neg e, if_neg e]
theorem slot_lt {st : Slots} {i : Nat} {f : F} (h : slot st i = some f) : i < st.length := by
 unfold slot at h
 rcases Nat.lt_or_ge i st.length with q | q
 · exact q
 · rw [List.getElem?_eq_none q] at h; cases h
theorem gd_some {α : Type} {b : Bool} {x y : α} (h : gd b x = some y) : b = true ∧ x = y := by
 cases b with
 | true => cases h; exact ⟨rfl, rfl⟩
 | false => cases h
theorem Holds.uniq {env : Env} {h : Heap} {z : Str} {v u : Value} (p : Holds env h z v) (q : Holds env h z u) : v = u := by
 rcases p with ⟨k, m, ⟨o, es, ep, ho, hd, _, hf⟩, hm⟩ | ⟨k, c, hc, o, ho, hd⟩ <;> rcases q with ⟨k', m', ⟨o', es', ep', ho', hd', _, hf'⟩, hm'⟩ | ⟨k', c', hc', o', ho', hd'⟩
 · cases ho.symm.trans ho'; cases hd.symm.trans hd'
   exact Option.some.inj (hm.symm.trans ((hf z).symm.trans ((hf' z).trans hm')))
 · cases k.symm.trans k'
 · cases k.symm.trans k'
 · cases hc.symm.trans hc'; cases ho.symm.trans ho'; cases hd.symm.trans hd'; rfl
theorem Ns1.uniq {h : Heap} {a : Addr} {m m' : Str → Option Value} (p : h.Ns1 a m) (q : h.Ns1 a m') (x : Str) : m x = m' x := by
 obtain ⟨o, es, ep, ho, hd, _, _, hf⟩ := p
 obtain ⟨o', es', ep', ho', hd', _, _, hf'⟩ := q
 cases ho.symm.trans ho'; cases hd.symm.trans hd'
 exact (hf x).symm.trans (hf' x)
noncomputable def Nm (cx : Cx) (i : Nat) (y : Str) : Prop := cx.nm[i]? = some y ∧ Acc cx.env y
structure FI where
 k : Nat
 fl : Slots
 q : PI
 y : Str
structure FldAt (cx : Cx) (st : St) (W : Ws) (v : Value) (f : F) (t : Tag) (i j : Nat) (n : FI) : Prop where
 lt : j < 6
 nm : Nm cx i n.y
 me : Holds cx.env W.h n.y (.ref n.q.a)
 pg : slot st.v i = some (.pg n.k)
 p : st.p[n.k]? = some n.fl
 sf : slot n.fl j = some f
 tg : t = .pgf n.k j
 P : PgAt cx.T W n.k n.fl n.q
 mv : n.q.m (fldN j) = some v
 r : RepF cx.T W t v f
noncomputable def PlAt (cx : Cx) (st : St) (W : Ws) (v : Value) (f : F) (t : Tag) : Pl → Prop
 | .loc i => slot st.v i = some f ∧ t = .own cx.d (i + 1) ∧ (∃ y, Nm cx i y ∧ Holds cx.env W.h y v) ∧ RepS cx W t v f
 | .fld i j => ∃ n, FldAt cx st W v f t i j n
noncomputable def PlOk (cx : Cx) : Pl → Prop
 | .loc i => ∃ y, Nm cx i y
 | .fld i j => j < 6 ∧ ∃ y, Nm cx i y
section
variable {cx : Cx} {st st' : St} {W W' : Ws} {v : Value} {f f' : F} {t : Tag} {p : Pl} {c : Bool} {x : Addr} {fo : Option F}
theorem pgAt_some {i k : Nat} (h : pgAt st i = some k) : slot st.v i = some (.pg k) := by
 delta pgAt at h
 cases hs : slot st.v i with
 | none => rw [hs] at h; cases h
 | some f => rw [hs] at h; cases f <;> first | (cases h; rfl) | cases h
theorem Wok.inst_at {T : Tp} {q : List Slots} {k : Nat} {fl : Slots} {a : Addr} {o : Obj} (K : Wok T c q W) (h : q[k]? = some fl) (e : W.get a = some o) (t : W.t a = .inst k) : ∃ n, PgAt T W k fl n ∧ n.a = a := by
 obtain ⟨n, P⟩ := K.pgs k fl h
 exact ⟨n, P, K.uq n.a a k P.it t⟩
theorem getP_fld {i j : Nat} (h : getP st (.fld i j) = some f) : ∃ k fl, slot st.v i = some (.pg k) ∧ st.p[k]? = some fl ∧ slot fl j = some f := by
 obtain ⟨k, hk, h⟩ := bsm h
 obtain ⟨fl, hfl, h⟩ := bsm h
 exact ⟨k, fl, pgAt_some hk, hfl, h⟩
theorem Sim.at (S : Sim cx st W) (ok : PlOk cx p) (h : getP st p = some f) : ∃ v t, PlAt cx st W v f t p := by
 cases p with
 | loc i =>
  obtain ⟨y, hy⟩ := ok
  obtain ⟨u, hu, r⟩ := S.fr.vals i f y h hy.1 hy.2
  exact ⟨u, _, h, rfl, ⟨y, hy, hu⟩, r⟩
 | fld i j =>
  obtain ⟨hj, y, hy⟩ := ok
  obtain ⟨k, fl, hk, hfl, hf⟩ := getP_fld h
  obtain ⟨u, hu, a, o, rfl, g, q⟩ := S.fr.vals i _ y hk hy.1 hy.2
  obtain ⟨n, P, rfl⟩ := S.ok.inst_at hfl g q
  obtain ⟨v, hv, r⟩ := P.fld j f hj hf
  exact ⟨v, _, ⟨k, fl, n, y⟩, hj, hy, hu, hk, hfl, hf, rfl, P, hv, r⟩
theorem FldAt.later {i j : Nat} {n : FI} (P : FldAt cx st W v f t i j n) (F : Frm cx st.v W) (S : Sim cx st' W') (l : Le cx.d (cx.d + 1) false W W') (h : getP st' (.fld i j) = some f') : ∃ n', FldAt cx st' W' v f' (.pgf n.k j) i j n' := by
 obtain ⟨k', fl', hk', hfl', hf'⟩ := getP_fld h
 obtain ⟨u, hu, a', o, rfl, g, q⟩ := S.fr.vals i _ n.y hk' P.nm.1 P.nm.2
 have P1 := P.P.le l
 cases (F.holds l (Nat.lt_succ_self _) P.me).uniq hu
 cases P1.it.symm.trans q
 obtain ⟨n', P2, e⟩ := S.ok.inst_at hfl' g q
 obtain ⟨v', hv', r'⟩ := P2.fld j f' P.lt hf'
 have ei := P1.inst
 rw [← e, P2.inst] at ei
 have ed : n'.da = n.q.da := by injection ei with ei; injection ei with _ ei; exact Option.some.inj ei
 have em : n.q.m (fldN j) = n'.m (fldN j) := Ns1.uniq P1.ns (ed ▸ P2.ns) _
 cases (em.symm.trans P.mv).symm.trans hv'
 exact ⟨⟨_, fl', n', n.y⟩, P.lt, P.nm, e ▸ hu, hk', hfl', hf', rfl, P2, hv', r'⟩
theorem PlAt.later (P : PlAt cx st W v f t p) (F : Frm cx st.v W) (S : Sim cx st' W') (l : Le cx.d (cx.d + 1) c W W') (hc : isFld p = true → c = false) (h : getP st' p = some f') : ∃ t', PlAt cx st' W' v f' t' p := by
 cases p with
 | loc i =>
  obtain ⟨_, _, ⟨y, hy, hv⟩, _⟩ := P
  obtain ⟨u, hu, r⟩ := S.fr.vals i f' y h hy.1 hy.2
  cases (F.holds l (Nat.lt_succ_self _) hv).uniq hu
  exact ⟨_, h, rfl, ⟨y, hy, hu⟩, r⟩
 | fld i j =>
  obtain ⟨n, P⟩ := P
  cases hc rfl
  exact ⟨_, P.later F S l h⟩
theorem RepF.s (h : RepF cx.T W t v f) : RepS cx W t v f := by
 cases f <;> first | exact h | exact h.elim
theorem Wok.fld {T : Tp} {q : List Slots} {k : Nat} {fl fl' : Slots} {n : PI} (K : Wok T c q W) (B : But x W W') (hf : q[k]? = some fl) (ht : (W.t x).ofPg k = true) (ha : ∃ o, W'.get x = some o) (hn : NI W' x) (P : PgAt T W' k fl' n) : Wok T c (q.set k fl') W' := by
 have hz := B.fz fun e => by rw [e] at ht; cases ht
 have back : ∀ y i, W'.t y = .inst i → W.t y = .inst i := fun y i e => (B.tg y fun q => hn.1 i (q ▸ e)) ▸ e
 have hk : k < q.length := (gsm hf).1
 refine ⟨fun b e => ?_, fun b o e => ?_, fun i fl'' e => ?_, fun y y' i e e' => K.uq y y' i (back y i e) (back y' i e'), fun hc y i e => by rw [List.length_set]; exact K.cnt hc y i (back y i e), K.lfb B hn⟩
 · have ne : b ≠ x := fun q => by obtain ⟨o, g⟩ := ha; rw [q, g] at e; cases e
   rw [B.tg b ne]
   refine K.dead b ?_
   cases g : W.get b with
   | none => rfl
   | some o => rw [B.gt b o ne g] at e; cases e
 · have := hz b o (z_of (K.top b o e).2 (K.top b o e).1)
   exact ⟨(z_in this).2, (z_in this).1⟩
 · rw [List.getElem?_set, if_pos hk] at e
   by_cases ik : k = i
   · rw [if_pos ik] at e; cases e; subst ik; exact ⟨n, P⟩
   · rw [if_neg ik] at e
     obtain ⟨n', P'⟩ := K.pgs i fl'' e
     refine ⟨n', P'.keep hz fun b o h g => ?_⟩
     have ne : b ≠ x := fun q => by
      rw [q] at h
      generalize W.t x = t at h ht
      cases t <;> first | cases h | exact ik ((eq_of_beq ht).symm.trans (eq_of_beq h))
     exact ⟨B.gt b o ne g, B.tg b ne⟩
theorem setP_fld {i j : Nat} (h : setP st fo (.fld i j) = some st') : ∃ k fl, slot st.v i = some (.pg k) ∧ st.p[k]? = some fl ∧ j < fl.length ∧ st' = { st with p := st.p.set k (fl.set j fo) } := by
 obtain ⟨k, hk, h⟩ := bsm h
 obtain ⟨fl, hfl, h⟩ := bsm h
 obtain ⟨h1, h2⟩ := gd_some h
 exact ⟨k, fl, pgAt_some hk, hfl, odt h1, h2.symm⟩
theorem PgAt.set {T : Tp} {k j : Nat} {fl : Slots} {q q' : PI} (P : PgAt T W k fl q) (hj : j < fl.length) (hz : Fz W W') (hq : q'.a = q.a ∧ q'.da = q.da) (hi : W'.get q.a = some (instO T.pc q.da) ∧ W'.t q.a = .inst k) (hd : W'.t q.da = .pgd k) (hn : W'.h.Ns1 q.da q'.m)
  (hm : ∀ y, y ≠ fldN j → q'.m y = q.m y) (ho : ∀ i, i ≠ j → ∀ b o, W.t b = .pgf k i → W.get b = some o → W'.get b = some o ∧ W'.t b = .pgf k i) (hr : ∀ f', fo = some f' → ∃ v, q'.m (fldN j) = some v ∧ RepF T W' (.pgf k j) v f')
  (hf : ∀ i, i < 6 → fldN i = fldN j → i = j) (hj6 : j < 6) : PgAt T W' k (fl.set j fo) q' := by
 obtain ⟨a', da', m'⟩ := q'
 obtain ⟨rfl, rfl⟩ := hq
 refine ⟨hi.1, hi.2, hd, hn, fun i f h6 h => ?_, fun y hy => (hm y fun e => hy j hj6 e).trans (P.oth y hy), by rw [List.length_set]; exact P.len⟩
 rw [slot_set hj] at h
 by_cases e : j = i
 · subst e; rw [if_pos rfl] at h; exact hr f h
 · rw [if_neg e] at h
   obtain ⟨v, hv, r⟩ := P.fld i f h6 h
   exact ⟨v, (hm _ fun q => e (hf i h6 q).symm).trans hv, r.keep hz fun _ b o q g => ho i (Ne.symm e) b o q g⟩
theorem fldN_inj {i j : Nat} (hi : i < 6) (hj : j < 6) (h : fldN i = fldN j) : i = j := by
 have key : ∀ i : Fin 6, ∀ j : Fin 6, fldN i = fldN j → i = j := by decide
 exact congrArg Fin.val (key ⟨i, hi⟩ ⟨j, hj⟩ h)
theorem Sim.putPl (S : Sim cx st W) (P : PlAt cx st W (.ref x) f t p) (hcc : isFld p = true → cx.c = true) (hx : W.t x = t) (B : But x W W') (hl : ∃ o, W'.get x = some o) (hn : NI W' x)
  (hr : ∀ f', fo = some f' → RepF cx.T W' t (.ref x) f') (hs : setP st fo p = some st') : Sim cx st' W' := by
 cases p with
 | loc i =>
  obtain ⟨h1, rfl, ⟨y, hy, hv⟩, r⟩ := P
  obtain ⟨hi, rfl⟩ := gd_some hs
  refine ⟨S.ok.but B (by rw [hx]; rfl) (fun e => let ⟨o, g⟩ := hl; nomatch g.symm.trans e) hn, S.fr.but B (by rw [hx]; exact own_free) fun j g z h2 h3 h4 => ?_⟩
  rw [slot_set (slot_lt h1)] at h2
  by_cases e : i = j
  · rw [if_pos e] at h2
    subst e
    cases hy.1.symm.trans h3
    exact .inr ⟨_, hv, (hr g h2).s⟩
  · rw [if_neg e] at h2
    exact .inl ⟨h2, fun q => by rw [hx] at q; cases q; exact e rfl⟩
 | fld i j =>
  obtain ⟨n, P⟩ := P
  obtain ⟨k, fl, hk, hfl, hlt, rfl⟩ := setP_fld hs
  cases hk.symm.trans P.pg
  cases hfl.symm.trans P.p
  have hx := hx.trans P.tg
  have ne : ∀ {b}, W.t b ≠ .pgf n.k j → b ≠ x := fun h q => h (q ▸ hx)
  have na := ne (b := n.q.a) (by rw [P.P.it]; intro e; cases e)
  have nd := ne (b := n.q.da) (by rw [P.P.dt]; intro e; cases e)
  have hz := B.fz fun e => by rw [hx] at e; cases e
  refine ⟨S.ok.fld B hfl (by rw [hx]; exact beq_self_eq_true _) hl hn (P.P.set (q' := n.q) hlt hz ⟨rfl, rfl⟩ ⟨B.gt _ _ na P.P.inst, (B.tg _ na).trans P.P.it⟩ ((B.tg _ nd).trans P.P.dt) (P.P.ns.at fun o e => B.gt _ o nd e) (fun _ _ => rfl) (fun i hi b o q g => ?_)
   (fun f' e => ⟨_, P.mv, P.tg ▸ hr f' e⟩) (fun i hi e => fldN_inj hi P.lt e) P.lt), S.fr.but B (by rw [hx]; exact hcc rfl) fun i' g z h2 h3 h4 => .inl ⟨h2, fun e => by rw [hx] at e; cases e⟩⟩
  have nb := ne (b := b) (by rw [q]; intro e; cases e; exact hi rfl)
  exact ⟨B.gt b o nb g, (B.tg b nb).trans q⟩
end
structure Cx.Full (cx : Cx) : Prop where
 full : cx.full = true
 inj : ∀ y z c, (y, c) ∈ cx.env.cells → (z, c) ∈ cx.env.cells → y = z
 nodup : ∀ (i j : Nat) (y : Str), cx.nm[i]? = some y → cx.nm[j]? = some y → i = j
 has : ∀ y, cx.env.kindOf y = some .cell → ∃ c, cx.env.cells.lookup y = some c
 fr : ∃ l, cx.A.frames = some (cx.env :: l)
 fm : cx.env.frame = some cx.env.locals
noncomputable def F.isLnd : F → Bool
 | .lnd _ => true
 | _ => false
section
variable {cx : Cx} {st : St} {W W' : Ws} {v : Value} {f : F} {t : Tag} {p : Pl} {b : Nat} {c cb : Bool} {x : Addr} {fo : Option F} {vs : Slots} {i : Nat} {y : Str}
theorem RepA.s (h : RepA cx W v f) (hf : f.isLnd = false) : RepS cx W (.own cx.d 0) v f := by
 cases f <;> first | exact h | exact h.elim | cases hf
theorem RepS.tag {t' : Tag} (h : RepS cx W t v f) (hf : f.tmp = false) : RepS cx W t' v f := by
 cases f <;> first | exact h | cases hf
theorem Sim.claim (b : Nat) (c : Bool) (S : Sim cx st W) (r : RepA cx W v f) (hf : f.isLnd = false) (t : Tag) (ht : t.isInst = false) : ∃ t', Le cx.d b c W ⟨t', W.h⟩ ∧ Sim cx st ⟨t', W.h⟩ ∧ RepS cx ⟨t', W.h⟩ t v f := by
 cases hft : f.tmp with
 | false => exact ⟨W.t, Le.refl, S, (r.s hf).tag hft⟩
 | true =>
  cases f with
  | own xs =>
   obtain ⟨a, vs, rfl, ⟨n, g⟩, q, r⟩ := r
   have B := But.tag W a t
   have hz : Fz W _ := B.fz fun e => by rw [q] at e; cases e
   refine ⟨_, B.le (.of (by rw [q]; exact own_ch)) (put_ni ht), S.but B (by rw [q]; exact own_free) (by rw [q]; rfl) (fun i => by rw [q]; exact own0_ne) (fun e => nomatch (g.symm.trans e)) (put_ni ht), a, vs, rfl, ⟨n, g⟩, Tags.put_self .., r.mono hz⟩
  | dct es => exact r.elim
  | _ => cases hft
theorem Frm.stored (F : Frm cx vs W) (Fu : cx.Full) (B : But x W W') (hx : W.t x = .loc cx.d) (hx' : W'.t x = .loc cx.d) (hxa : ∃ o, W'.get x = some o) (hi : i < vs.length) (hy : cx.nm[i]? = some y) (hns : ∃ m, W'.h.Ns cx.env.locals m) (hcl : ∀ z e, (z, e) ∈ cx.env.cells → ∃ u, W'.h.IsCell e u)
  (hv : Holds cx.env W'.h y v) (hoth : ∀ z u, z ≠ y → Holds cx.env W.h z u → Holds cx.env W'.h z u) (r : ∀ f, fo = some f → RepS cx W (.own cx.d (i + 1)) v f) : Frm cx (vs.set i fo) W' := by
 have hz := B.fz fun e => by rw [hx] at e; cases e
 have tg : ∀ b, W.t b = .loc cx.d → W'.t b = .loc cx.d := fun b q => by
  by_cases e : b = x
  · rw [e]; exact hx'
  · exact (B.tg b e).trans q
 have keep : ∀ {j : Nat} {u : Value} {g : Mine.Internal.F}, RepS cx W (.own cx.d (j + 1)) u g → RepS cx W' (.own cx.d (j + 1)) u g := fun {j u g} r => by
  have ne : ∀ {b}, W.t b ≠ .loc cx.d → b ≠ x := fun h q => h (q ▸ hx)
  refine r.keep hz (fun _ b o q g => ?_) (fun b o q g => ?_) fun b o k q g => ?_
  · have n := ne (b := b) (by rw [q]; intro e; cases e); exact ⟨B.gt b o n g, (B.tg b n).trans q⟩
  · have n := ne (b := b) (fun e => by rw [e] at q; cases q); exact ⟨B.gt b o n g, B.tg b n⟩
  · have n := ne (b := b) (by rw [q]; intro e; cases e); exact ⟨B.gt b o n g, (B.tg b n).trans q⟩
 refine ⟨hns, tg _ F.nst, fun z e hz => ?_, fun j g z h1 h2 h3 => ?_, let ⟨l', h1, h2⟩ := F.frs; ⟨l', h1, h2.keep (Nat.le_refl _) fun L d' o hd t g => ?_⟩, fun q => (F.hnd q).mono hz⟩
 · obtain ⟨_, d', q, q', q2⟩ := F.cells z e hz
   cases q2 Fu.full
   exact ⟨hcl z e hz, _, tg e q, q', q2⟩
 · rw [slot_set hi] at h1
   by_cases e : i = j
   · rw [if_pos e] at h1
     subst e
     cases hy.symm.trans h2
     exact ⟨v, hv, keep (r _ h1)⟩
   · rw [if_neg e] at h1
     obtain ⟨u, hu, q⟩ := F.vals j g z h1 h2 h3
     exact ⟨u, hoth z u (fun q => e (Fu.nodup i j y hy (q ▸ h2))) hu, keep q⟩
 · by_cases e : L = x
   · subst e; cases hx.symm.trans t; exact ⟨hx', hxa⟩
   · exact ⟨(B.tg L e).trans t, o, B.gt L o e g⟩
theorem Ns.uniq {h : Heap} {a : Addr} {m m' : Str → Option Value} (p : h.Ns a m) (q : h.Ns a m') (x : Str) : m x = m' x := by
 obtain ⟨o, es, ep, ho, hd, _, hf⟩ := p
 obtain ⟨o', es', ep', ho', hd', _, hf'⟩ := q
 cases ho.symm.trans ho'; cases hd.symm.trans hd'
 exact (hf x).symm.trans (hf' x)
theorem cell_ne {h : Heap} {a e : Addr} {m : Str → Option Value} {v : Option Value} (p : h.Ns a m) (q : h.IsCell e v) : e ≠ a := fun h => by
 obtain ⟨o, g, hd⟩ := q
 obtain ⟨o', _, _, g', hd', _⟩ := p
 rw [h] at g; cases g.symm.trans g'; cases hd.symm.trans hd'
theorem loc_le {d : Nat} : (Tag.loc d).ch d d c = true := dtt (Nat.le_refl d)
theorem Sim.storeG {Q : UP} {E : VP} {Md : Model} {A : Around} {tk : Nat} (Fu : cx.Full) (hk : cx.env.scope.kind = .function) (S1 : Sim cx st W) (r : ∀ f, fo = some f → RepS cx W (.own cx.d (i + 1)) v f) (hy : Nm cx i y) (hi : i < st.v.length)
  (h : ∀ W' tk' x, W.t x = .loc cx.d → But x W W' → Le cx.d cx.d cb W W' → Sim cx { st with v := st.v.set i fo } W' → Holds cx.env W'.h y v → (∀ z u, z ≠ y → Holds cx.env W.h z u → Holds cx.env W'.h z u) → Q () (sh cx.T W' tk')) : wpAny Md A (storeName cx.env y v) Q E (sh cx.T W tk) := by
 have fin : ∀ (x : Addr) (h' : Heap) (tk' : Nat), W.t x = .loc cx.d → (∀ b o, b ≠ x → W.get b = some o → h'.get? b = some o) → (∃ o, h'.get? x = some o ∧ Nf o) → (∃ m, h'.Ns cx.env.locals m) → (∀ z e, (z, e) ∈ cx.env.cells → ∃ u, h'.IsCell e u) → Holds cx.env h' y v →
   (∀ z u, z ≠ y → Holds cx.env W.h z u → Holds cx.env h' z u) → Q () (sh cx.T ⟨W.t, h'⟩ tk') := fun x h' tk' hx hs ha hns hcl hv hoth => by
  have B : But x W ⟨W.t, h'⟩ := ⟨fun _ _ => rfl, hs⟩
  have ni : NI ⟨W.t, h'⟩ x := ⟨fun k e => (by cases hx.symm.trans e), fun d o _ e => by obtain ⟨o', g, n⟩ := ha; cases g.symm.trans e; exact n⟩
  exact h _ tk' x hx B (B.le (.of (by rw [hx]; exact loc_le)) ni) ⟨S1.ok.but B (by rw [hx]; rfl) (fun e => let ⟨o, g, _⟩ := ha; nomatch g.symm.trans e) ni, S1.fr.stored Fu B hx hx (let ⟨o, g, _⟩ := ha; ⟨o, g⟩) hi hy.1 hns hcl hv hoth r⟩ hv hoth
 obtain ⟨m, hm⟩ := S1.fr.ns
 rcases hy.2 with ha | ha
 · refine wpAny_storeName_local ha hm (fun h' hn hs => ?_) (by rw [hk]; rfl)
   refine fin _ h' _ S1.fr.nst (fun b o n e => (hs.2 b n).trans e) (let ⟨o, _, _, g, hd, _⟩ := hn; ⟨o, g, fun vs e => by cases hd.symm.trans e⟩) ⟨_, hn⟩ (fun z e hz => ?_) (.inl ⟨ha, _, hn, if_pos rfl⟩) fun z u hzy hu => ?_
   · obtain ⟨⟨u, hu⟩, _⟩ := S1.fr.cells z e hz
     exact ⟨u, hu.sameBut hs (cell_ne hm hu)⟩
   · rcases hu with ⟨k, m', hn', hm'⟩ | ⟨k, e, he, hv⟩
     · refine .inl ⟨k, _, hn, (if_neg hzy).trans ?_⟩
       exact (Ns.uniq hm hn' z).trans hm'
     · exact .inr ⟨k, e, he, hv.sameBut hs (cell_ne hm hv)⟩
 · obtain ⟨e, he⟩ := Fu.has y ha
   have hc := mem_of_lookup he
   obtain ⟨⟨v₀, hv₀⟩, _⟩ := S1.fr.cells y e hc
   obtain ⟨_, d', q, _, q2⟩ := S1.fr.cells y e hc
   cases q2 Fu.full
   refine wpAny_storeName_cell hk ha he hv₀ fun h' hv' hs => ?_
   have nL : cx.env.locals ≠ e := (cell_ne hm hv₀).symm
   refine fin e h' tk q (fun b o n g => (hs.2 b n).trans g) (let ⟨o, g, hd⟩ := hv'; ⟨o, g, fun vs e => by cases hd.symm.trans e⟩) ⟨m, hm.sameBut hs nL⟩ (fun z e' hz => ?_) (.inr ⟨ha, e, he, hv'⟩) fun z u hzy hu => ?_
   · by_cases q : e' = e
     · rw [q]; exact ⟨_, hv'⟩
     · obtain ⟨⟨u, hu⟩, _⟩ := S1.fr.cells z e' hz; exact ⟨u, hu.sameBut hs q⟩
   · rcases hu with ⟨k, m', hn', hm'⟩ | ⟨k, e', he', hv⟩
     · exact .inl ⟨k, m', hn'.sameBut hs nL, hm'⟩
     · exact .inr ⟨k, e', he', hv.sameBut hs fun q => hzy (Fu.inj z y e (q ▸ mem_of_lookup he') hc)⟩
theorem Sim.store {Q : UP} {E : VP} {Md : Model} {A : Around} {tk : Nat} (Fu : cx.Full) (hk : cx.env.scope.kind = .function) (S : Sim cx st W) (r : RepA cx W v f) (hf : f.isLnd = false) (hy : Nm cx i y) (hi : i < st.v.length)
  (h : ∀ W' tk', Le cx.d cx.d cb W W' → Sim cx { st with v := st.v.set i (some f) } W' → Q () (sh cx.T W' tk')) : wpAny Md A (storeName cx.env y v) Q E (sh cx.T W tk) := by
 obtain ⟨t', l1, S1, r1⟩ := S.claim cx.d cb r hf (.own cx.d (i + 1)) rfl
 exact S1.storeG (W := ⟨t', W.h⟩) (fo := some f) (cb := cb) Fu hk (fun g e => by cases e; exact r1) hy hi fun W' tk' _ _ _ l2 S2 _ _ => h W' tk' (l1.trans l2) S2
end
noncomputable def isGl (kd : Kd) (x y : Str) : Bool := x == y && kd.lookup x == some .globalImplicit && !(x == ("__debug__" : Str))
noncomputable def relabelK (names kd : Kd) : Kd := names.map fun (n, k) => if (k == .free && true && kd.lookup n == some .cell) then (n, .cell) else (n, k)
noncomputable def maskN (x : Str) (nm : List Str) : List Str := nm.map fun y => if y == x then ("" : Str) else y
noncomputable def tyName : Ty → Str
 | .str => "str"
 | .int => "int"
 | .bool => "bool"
 | .list => "list"
 | .tuple => "tuple"
noncomputable def compOk (scope : Scope) (kd : Kd) (x : Str) : Bool :=
 scope.kind == .function && scope.names.all (fun y => y.2 != .cell && (y.2 != .local || scope.names.lookup y.1 == some .local) && (y.2 != .free || (scope.names.lookup y.1 == some .free && kd.lookup y.1 == some .cell))) &&
 scope.names.lookup x == some .local
noncomputable def onS {α : Type} (x : Option α) (f : α → Bool) : Bool := match x with | some v => f v | none => false
theorem onS_true {α : Type} {x : Option α} {f : α → Bool} (h : onS x f = true) : ∃ v, x = some v ∧ f v = true := by
 cases x with
 | none => cases h
 | some v => exact ⟨v, rfl, h⟩
noncomputable def more {α : Type} : List α → Option (α × α × List α)
 | x :: y :: r => some (x, y, r)
 | _ => none
theorem more_eq {α : Type} {l : List α} {x : α × α × List α} (h : more l = some x) : l = x.1 :: x.2.1 :: x.2.2 := by
 cases l with
 | nil => exact nos h
 | cons y r => cases r with
  | nil => exact nos h
  | cons z r => cases h; rfl
noncomputable def asConst (e : Expr) : Option (Const) := if h : e.ctorIdx = 19 then Expr.Constant.elim (motive_1 := fun _ => Option (Const)) e h (fun c k p => some c) else none
theorem asConst_eq {e : Expr} {v : Const} (h : asConst e = some v) : ∃ k p, e = .Constant v k p := by
 by_cases q : e.ctorIdx = 19
 · exact Expr.Constant.elim (motive_1 := fun e => asConst e = some v → ∃ k p, e = .Constant v k p) e q (fun c k p h => by cases h; exact ⟨k, p, rfl⟩) h
 · exact nos ((dif_neg q).symm.trans h)
noncomputable def asName (e : Expr) : Option (Str) := if h : e.ctorIdx = 23 then Expr.Name.elim (motive_1 := fun _ => Option (Str)) e h (fun x p => some x) else none
theorem asName_eq {e : Expr} {v : Str} (h : asName e = some v) : ∃ p, e = .Name v p := by
 by_cases q : e.ctorIdx = 23
 · exact Expr.Name.elim (motive_1 := fun e => asName e = some v → ∃ p, e = .Name v p) e q (fun x p h => by cases h; exact ⟨p, rfl⟩) h
 · exact nos ((dif_neg q).symm.trans h)
noncomputable def asBin (e : Expr) : Option (Expr × Operator × Expr) := if h : e.ctorIdx = 2 then Expr.BinOp.elim (motive_1 := fun _ => Option (Expr × Operator × Expr)) e h (fun l o r p => some (l, o, r)) else none
theorem asBin_eq {e : Expr} {v : Expr × Operator × Expr} (h : asBin e = some v) : ∃ p, e = .BinOp v.1 v.2.1 v.2.2 p := by
 by_cases q : e.ctorIdx = 2
 · exact Expr.BinOp.elim (motive_1 := fun e => asBin e = some v → ∃ p, e = .BinOp v.1 v.2.1 v.2.2 p) e q (fun l o r p h => by cases h; exact ⟨p, rfl⟩) h
 · exact nos ((dif_neg q).symm.trans h)
noncomputable def asUn (e : Expr) : Option (UnaryOp × Expr) := if h : e.ctorIdx = 3 then Expr.UnaryOp.elim (motive_1 := fun _ => Option (UnaryOp × Expr)) e h (fun o x p => some (o, x)) else none
theorem asUn_eq {e : Expr} {v : UnaryOp × Expr} (h : asUn e = some v) : ∃ p, e = .UnaryOp v.1 v.2 p := by
 by_cases q : e.ctorIdx = 3
 · exact Expr.UnaryOp.elim (motive_1 := fun e => asUn e = some v → ∃ p, e = .UnaryOp v.1 v.2 p) e q (fun o x p h => by cases h; exact ⟨p, rfl⟩) h
 · exact nos ((dif_neg q).symm.trans h)
noncomputable def asBool (e : Expr) : Option (BoolOp × List Expr × Pos) := if h : e.ctorIdx = 0 then Expr.BoolOp.elim (motive_1 := fun _ => Option (BoolOp × List Expr × Pos)) e h (fun o xs p => some (o, xs, p)) else none
theorem asBool_eq {e : Expr} {v : BoolOp × List Expr × Pos} (h : asBool e = some v) : e = .BoolOp v.1 v.2.1 v.2.2 := by
 by_cases q : e.ctorIdx = 0
 · exact Expr.BoolOp.elim (motive_1 := fun e => asBool e = some v → e = .BoolOp v.1 v.2.1 v.2.2) e q (fun o xs p h => by cases h; exact rfl) h
 · exact nos ((dif_neg q).symm.trans h)
noncomputable def asCmp (e : Expr) : Option (Expr × List CmpOp × List Expr) := if h : e.ctorIdx = 15 then Expr.Compare.elim (motive_1 := fun _ => Option (Expr × List CmpOp × List Expr)) e h (fun l os rs p => some (l, os, rs)) else none
theorem asCmp_eq {e : Expr} {v : Expr × List CmpOp × List Expr} (h : asCmp e = some v) : ∃ p, e = .Compare v.1 v.2.1 v.2.2 p := by
 by_cases q : e.ctorIdx = 15
 · exact Expr.Compare.elim (motive_1 := fun e => asCmp e = some v → ∃ p, e = .Compare v.1 v.2.1 v.2.2 p) e q (fun l os rs p h => by cases h; exact ⟨p, rfl⟩) h
 · exact nos ((dif_neg q).symm.trans h)
noncomputable def asSub (e : Expr) : Option (Expr × Expr) := if h : e.ctorIdx = 21 then Expr.Subscript.elim (motive_1 := fun _ => Option (Expr × Expr)) e h (fun x i p => some (x, i)) else none
theorem asSub_eq {e : Expr} {v : Expr × Expr} (h : asSub e = some v) : ∃ p, e = .Subscript v.1 v.2 p := by
 by_cases q : e.ctorIdx = 21
 · exact Expr.Subscript.elim (motive_1 := fun e => asSub e = some v → ∃ p, e = .Subscript v.1 v.2 p) e q (fun x i p h => by cases h; exact ⟨p, rfl⟩) h
 · exact nos ((dif_neg q).symm.trans h)
noncomputable def asSlice (e : Expr) : Option (Option Expr × Option Expr × Option Expr) := if h : e.ctorIdx = 26 then Expr.Slice.elim (motive_1 := fun _ => Option (Option Expr × Option Expr × Option Expr)) e h (fun l u s p => some (l, u, s)) else none
theorem asSlice_eq {e : Expr} {v : Option Expr × Option Expr × Option Expr} (h : asSlice e = some v) : ∃ p, e = .Slice v.1 v.2.1 v.2.2 p := by
 by_cases q : e.ctorIdx = 26
 · exact Expr.Slice.elim (motive_1 := fun e => asSlice e = some v → ∃ p, e = .Slice v.1 v.2.1 v.2.2 p) e q (fun l u s p h => by cases h; exact ⟨p, rfl⟩) h
 · exact nos ((dif_neg q).symm.trans h)
noncomputable def asTup (e : Expr) : Option (List Expr) := if h : e.ctorIdx = 25 then Expr.Tuple.elim (motive_1 := fun _ => Option (List Expr)) e h (fun es k p => some es) else none
theorem asTup_eq {e : Expr} {v : List Expr} (h : asTup e = some v) : ∃ k p, e = .Tuple v k p := by
 by_cases q : e.ctorIdx = 25
 · exact Expr.Tuple.elim (motive_1 := fun e => asTup e = some v → ∃ k p, e = .Tuple v k p) e q (fun es k p h => by cases h; exact ⟨k, p, rfl⟩) h
 · exact nos ((dif_neg q).symm.trans h)
noncomputable def asList (e : Expr) : Option (List Expr) := if h : e.ctorIdx = 24 then Expr.List.elim (motive_1 := fun _ => Option (List Expr)) e h (fun es p => some es) else none
theorem asList_eq {e : Expr} {v : List Expr} (h : asList e = some v) : ∃ p, e = .List v p := by
 by_cases q : e.ctorIdx = 24
 · exact Expr.List.elim (motive_1 := fun e => asList e = some v → ∃ p, e = .List v p) e q (fun es p h => by cases h; exact ⟨p, rfl⟩) h
 · exact nos ((dif_neg q).symm.trans h)
noncomputable def asCall (e : Expr) : Option (Expr × List Expr × List Keyword × Pos) := if h : e.ctorIdx = 16 then Expr.Call.elim (motive_1 := fun _ => Option (Expr × List Expr × List Keyword × Pos)) e h (fun f xs ks p => some (f, xs, ks, p)) else none
theorem asCall_eq {e : Expr} {v : Expr × List Expr × List Keyword × Pos} (h : asCall e = some v) : e = .Call v.1 v.2.1 v.2.2.1 v.2.2.2 := by
 by_cases q : e.ctorIdx = 16
 · exact Expr.Call.elim (motive_1 := fun e => asCall e = some v → e = .Call v.1 v.2.1 v.2.2.1 v.2.2.2) e q (fun f xs ks p h => by cases h; exact rfl) h
 · exact nos ((dif_neg q).symm.trans h)
noncomputable def asAttr (e : Expr) : Option (Expr × Str × Pos) := if h : e.ctorIdx = 20 then Expr.Attribute.elim (motive_1 := fun _ => Option (Expr × Str × Pos)) e h (fun x n p => some (x, n, p)) else none
theorem asAttr_eq {e : Expr} {v : Expr × Str × Pos} (h : asAttr e = some v) : e = .Attribute v.1 v.2.1 v.2.2 := by
 by_cases q : e.ctorIdx = 20
 · exact Expr.Attribute.elim (motive_1 := fun e => asAttr e = some v → e = .Attribute v.1 v.2.1 v.2.2) e q (fun x n p h => by cases h; exact rfl) h
 · exact nos ((dif_neg q).symm.trans h)
noncomputable def asComp (e : Expr) : Option (Expr × List Comprehension × Scope) := if h : e.ctorIdx = 8 then Expr.ListComp.elim (motive_1 := fun _ => Option (Expr × List Comprehension × Scope)) e h (fun x g s p => some (x, g, s)) else none
theorem asComp_eq {e : Expr} {v : Expr × List Comprehension × Scope} (h : asComp e = some v) : ∃ p, e = .ListComp v.1 v.2.1 v.2.2 p := by
 by_cases q : e.ctorIdx = 8
 · exact Expr.ListComp.elim (motive_1 := fun e => asComp e = some v → ∃ p, e = .ListComp v.1 v.2.1 v.2.2 p) e q (fun x g s p h => by cases h; exact ⟨p, rfl⟩) h
 · exact nos ((dif_neg q).symm.trans h)
noncomputable def asDict (e : Expr) : Option (List (Option Expr) × List Expr) := if h : e.ctorIdx = 6 then Expr.Dict.elim (motive_1 := fun _ => Option (List (Option Expr) × List Expr)) e h (fun ks vs p => some (ks, vs)) else none
theorem asDict_eq {e : Expr} {v : List (Option Expr) × List Expr} (h : asDict e = some v) : ∃ p, e = .Dict v.1 v.2 p := by
 by_cases q : e.ctorIdx = 6
 · exact Expr.Dict.elim (motive_1 := fun e => asDict e = some v → ∃ p, e = .Dict v.1 v.2 p) e q (fun ks vs p h => by cases h; exact ⟨p, rfl⟩) h
 · exact nos ((dif_neg q).symm.trans h)
noncomputable def plainX (e : Expr) : Bool := e.ctorIdx != 22 && e.ctorIdx != 26 && e.ctorIdx != 7
noncomputable def plainR (e : Expr) : Bool := e.ctorIdx == 23 || e.ctorIdx == 19
noncomputable def notComp (e : Expr) : Bool := e.ctorIdx != 8 && e.ctorIdx != 9 && e.ctorIdx != 10
noncomputable def cLit (d : PyData) (c : Const) : Bool := match d with
 | .none => c.ctorIdx == 0
 | .bool b => c == .bool b
 | .int i => c == .int i
 | .str x => c == .str x
 | _ => false
noncomputable def restB (o : BoolOp) (p : Pos) (y : Expr) : List Expr → Expr
 | [] => y
 | r :: rs => .BoolOp o (y :: r :: rs) p
noncomputable def call1 (kd : Kd) (g : Str) (e : Expr) : Option (List Expr) := (asCall e).bind fun v => (asName v.1).bind fun f => gd (v.2.2.1.isEmpty && isGl kd f g && v.2.1.all plainX && !v.2.1.isEmpty) v.2.1
noncomputable def call11 (kd : Kd) (g : Str) (e : Expr) : Option (List Expr) := (call1 kd g e).bind fun l => gd (one l).isSome l
noncomputable def meth1 (a : Str) (e : Expr) : Option (Expr × List Expr) := (asCall e).bind fun v => (asAttr v.1).bind fun w => gd (v.2.2.1.isEmpty && w.2.1 == a && w.2.2.endLine == v.2.2.2.line && v.2.1.all plainX) (w.1, v.2.1)
noncomputable def pat (kd : Kd) : Op → Expr → Option (List Expr)
 | .bin op, e => (asBin e).bind fun v => gd (op == v.2.1) [v.1, v.2.2]
 | .neg, e => (asUn e).bind fun v => gd (v.1 == .USub) [v.2]
 | .idx, e => (asSub e).bind fun v => gd (plainX v.2) [v.1, v.2]
 | .slc l u, e => (asSub e).bind fun v => (asSlice v.2).bind fun w => gd (w.2.2.isNone && w.1.isSome == l && w.2.1.isSome == u) (v.1 :: (w.1.toList ++ w.2.1.toList))
 | .tup, e => (asTup e).bind fun l => gd (l.all plainX) l
 | .lst, e => (asList e).bind fun l => gd (l.all plainX) l
 | .len, e => call11 kd "len" e
 | .ord, e => call11 kd "ord" e
 | .abs, e => call11 kd "abs" e
 | .toInt, e => call11 kd "int" e
 | .list, e => call11 kd "list" e
 | .isinst t, e => (call1 kd "isinstance" e).bind fun l => (two l).bind fun x => gd (onS (asName x.2) fun y => isGl kd y (tyName t)) [x.1]
 | .getOpen, e => (asSub e).bind fun v => gd (plainX v.2 && onS (asName v.1) fun x => isGl kd x "OPENING") [v.2]
 | _, _ => none
noncomputable def patM : Op → Expr → Option (Expr × List Expr)
 | .splitNl, e => (meth1 "split" e).bind fun v => gd (plainR v.1 && onS (one v.2) fun y => onS (asConst y) (cLit (.str (S [10])))) (v.1, [])
 | .find, e => (meth1 "find" e).bind fun v => gd (plainR v.1 && (one v.2).isSome) v
 | .join, e => (meth1 "join" e).bind fun v => gd (plainR v.1 && (one v.2).isSome) v
 | _, _ => none
noncomputable def mPl (nm : List Str) (kd : Kd) : Pl → Expr → Bool
 | .loc i, e => onS (asName e) (isLoc nm kd i)
 | .fld i j, e => onS (asAttr e) fun v => decide (j < 6) && v.2.1 == fldN j && onS (asName v.1) (isLoc nm kd i)
noncomputable def patP (nm : List Str) (kd : Kd) (p : Pl) : Pk → Expr → Option (List Expr)
 | .len, e => (call1 kd "len" e).bind fun l => gd (onS (one l) (mPl nm kd p)) []
 | .copy, e => (call1 kd "list" e).bind fun l => gd (onS (one l) (mPl nm kd p)) []
 | .idx, e => (asSub e).bind fun v => gd (plainX v.2 && mPl nm kd p v.1) [v.2]
 | .key, e => (asSub e).bind fun v => gd (plainX v.2 && mPl nm kd p v.1) [v.2]
 | .pop, e => (meth1 "pop" e).bind fun v => gd (mPl nm kd p v.1 && v.2.isEmpty) []
noncomputable def xcN : Nat → Str
 | 0 => "NoPage"
 | 1 => "OutOfPlace"
 | 2 => "NoSign"
 | 3 => "Full"
 | 4 => "Faulty"
 | 5 => "PageError"
 | _ => "ValueError"
noncomputable abbrev Ft := Nat → Option (Nat × Str)
noncomputable def patI (kd : Kd) : Nat → Expr → Option (List Expr)
 | 0, e => some [e]
 | 1, e => call1 kd "range" e
 | 2, e => call1 kd "enumerate" e
 | _, _ => none
noncomputable def cmpX (e : Expr) : Option (Expr × CmpOp × Expr) := (asCmp e).bind fun v => (one v.2.1).bind fun o => (one v.2.2).bind fun r => gd (plainX r) (v.1, o, r)
noncomputable def plainT (e : Expr) : Bool := e.ctorIdx == 16 || e.ctorIdx == 21 || e.ctorIdx == 23 || e.ctorIdx == 19 || e.ctorIdx == 20
noncomputable def tb : CE → Expr → Bool
 | .cmp _ _, _ => true
 | .cmpNil _ _, _ => true
 | .inOpen _, _ => true
 | .chain _ _ _ _, _ => true
 | .not a, e => onS (asUn e) fun v => tb a v.2
 | .and a b, e => onS (asBool e) fun v => onS (more v.2.1) fun w => tb a w.1 && tb b (restB .And v.2.2 w.2.1 w.2.2)
 | .or a b, e => onS (asBool e) fun v => onS (more v.2.1) fun w => tb a w.1 && tb b (restB .Or v.2.2 w.2.1 w.2.2)
 | _, e => plainT e
noncomputable def tc (c : CE) (l : List Expr) : Bool := if c.ctorIdx == 0 then l.isEmpty else onS (one l) (tb c)
noncomputable def popOk (o : Pk) (p : Pl) : Bool := match o with
 | .pop => !isFld p
 | _ => true
noncomputable def baseOk (e : Expr) : Bool := (asName e).isSome
noncomputable def mc (ft : Ft) : CE → Bool → Bool → List Str → Kd → List Expr → Bool
 | .nil, c, q, nm, kd, es => es.isEmpty
 | .cons a b, c, q, nm, kd, es => (match es with | e :: r => mc ft a c q nm kd [e] && mc ft b c q nm kd r | [] => false)
 | .lit d, c, q, nm, kd, es => onS (one es) fun e => onS (asConst e) (cLit d)
 | .get p, c, q, nm, kd, es => onS (one es) fun e => mPl nm kd p e && (c || !isFld p)
 | .mv p, c, q, nm, kd, es => onS (one es) fun e => mPl nm kd p e && !isFld p
 | .lend i, c, q, nm, kd, es => onS (one es) (mPl nm kd (.loc i))
 | .glob k, c, q, nm, kd, es => onS (one es) fun e => onS (asName e) fun x => onS (gtab k) fun y => isGl kd x y.1
 | .op o a, c, q, nm, kd, es => onS (one es) fun e => onS (pat kd o e) (mc ft a c q nm kd)
 | .sm o r a, c, q, nm, kd, es => onS (one es) fun e => onS (patM o e) fun v => mc ft r c q nm kd [v.1] && mc ft a c q nm kd v.2
 | .peek o p a, c, q, nm, kd, es => onS (one es) fun e => (c || !isFld p) && (!isFld p || !eff a) && popOk o p && onS (patP nm kd p o e) (mc ft a c q nm kd)
 | .cmp op a, c, q, nm, kd, es => onS (one es) fun e => onS (cmpX e) fun v => op == v.2.1 && mc ft a c q nm kd [v.1, v.2.2]
 | .cmpNil ne p, c, q, nm, kd, es => onS (one es) fun e => (c || !isFld p) && onS (cmpX e) fun v => v.2.1 == (if ne then .NotEq else .Eq) && mPl nm kd p v.1 && onS (asList v.2.2) List.isEmpty
 | .inOpen a, c, q, nm, kd, es => onS (one es) fun e => onS (cmpX e) fun v => v.2.1 == .In && (onS (asName v.2.2) fun x => isGl kd x "OPENING") && mc ft a c q nm kd [v.1]
 | .chain ab o1 o2 d, c, q, nm, kd, es => onS (one es) fun e => onS (asCmp e) fun v => onS (two v.2.1) fun o => onS (two v.2.2) fun r => o1 == o.1 && o2 == o.2 && plainX r.2 && mc ft ab c q nm kd [v.1, r.1] && mc ft d c q nm kd [r.2]
 | .not a, c, q, nm, kd, es => onS (one es) fun e => onS (asUn e) fun v => v.1 == .Not && mc ft a c q nm kd [v.2]
 | .and a b, c, q, nm, kd, es => onS (one es) fun e => onS (asBool e) fun v => onS (more v.2.1) fun w => v.1 == .And && mc ft a c q nm kd [w.1] && mc ft b c q nm kd [restB .And v.2.2 w.2.1 w.2.2]
 | .or a b, c, q, nm, kd, es => onS (one es) fun e => onS (asBool e) fun v => onS (more v.2.1) fun w => v.1 == .Or && mc ft a c q nm kd [w.1] && mc ft b c q nm kd [restB .Or v.2.2 w.2.1 w.2.2]
 | .call pure k a, c, q, nm, kd, es => onS (one es) fun e => onS (ft k) fun y => y.1 == (if pure then 0 else 1) && (c || pure) && onS (call1 kd y.2 e) fun l => mc ft a c q nm kd l
 | .callP k p, c, q, nm, kd, es => onS (one es) fun e => c && onS (ft k) fun y => y.1 == 0 && onS (call1 kd y.2 e) fun l => onS (one l) (mPl nm kd p)
 | .meth k r a, c, q, nm, kd, es => onS (one es) fun e => c && onS (ft k) fun y => y.1 == 2 && onS (meth1 y.2 e) fun v => baseOk v.1 && mc ft r c q nm kd [v.1] && mc ft a c q nm kd v.2 && decide (v.2.length < 20)
 | .new a, c, q, nm, kd, es => onS (one es) fun e => c && (onS (ft 0) fun y => y.1 == 3) && onS (call1 kd "Page" e) fun l => mc ft a c q nm kd l
 | .comp n k s elt cond, c, q, nm, kd, es => onS (one es) fun e => onS (asComp e) fun v => onS (one v.2.1) fun g => onS (asName g.target) fun x =>
   g.is_async == 0 && q && n == nm.length && compOk v.2.2 kd x && k != 2 && (k == 1 || (ft 1).isSome) && tc cond g.ifs && onS (patI kd k g.iter) (mc ft s c q nm kd) && plainX g.iter && mc ft cond c false (maskN x nm ++ [x]) (relabelK v.2.2.names kd) g.ifs && mc ft elt c false (maskN x nm ++ [x]) (relabelK v.2.2.names kd) [v.1] &&
   ((maskN x nm).all fun y => (relabelK v.2.2.names kd).lookup y != some .local) && (relabelK v.2.2.names kd).lookup ("" : Str) == none
 | .isEx i k, c, q, nm, kd, es => false
noncomputable def mNames (nm : List Str) (kd : Kd) : List Nat → List Expr → Bool
 | [], es => es.isEmpty
 | _ :: _, [] => false
 | i :: is, e :: es => onS (asName e) (isLoc nm kd i) && mNames nm kd is es
noncomputable def mT (nm : List Str) (kd : Kd) (many : Bool) (is : List Nat) (x : Expr) : Bool := if many then onS (asTup x) (mNames nm kd is) else mNames nm kd is [x]
end Mine.Internal
end
section
namespace Mine.Internal
open PySem.W (findIn clsIn plainOver takerIn InstAt typeIn findObj lookIn handedIn)
noncomputable def biTab : List (Str × Value) := [("len", .builtin "len"), ("ord", .builtin "ord"), ("isinstance", .builtin "isinstance"), ("abs", .builtin "abs"), ("int", .type "int"), ("list", .type "list"),
 ("range", .type "range"), ("enumerate", .type "enumerate"), ("str", .type "str"), ("bool", .type "bool"), ("tuple", .type "tuple"), ("ValueError", .type "ValueError")]
structure PgCls (T : Tp) : Prop where
 kin : PySem.W.Frag.In T.pk T.s.heap
 ga : findIn T.pk (.ref T.pc) "__getattribute__" = some (some (.builtin "object.__getattribute__"))
 hook : findIn T.pk (.ref T.pc) "__getattr__" = some none
 fld : ∀ j, j < 6 → findIn T.pk (.ref T.pc) (fldN j) = some none
 dict : (clsIn T.pk T.pc).any (·.hasDict) = true
 set : findIn T.pk (.ref T.pc) "__setattr__" = some (some (.builtin "object.__setattr__"))
 over : plainOver T.pk T.pc = true
 keep : PySem.W.keepIn T.pk (.ref T.pc) = true
 makes : PySem.W.makesIn T.pk T.pc = true
 glob : T.mg "Page" = some (.ref T.pc)
structure Tp.Ok (T : Tp) : Prop where
 g : T.s.heap.Ns mainGlobals T.mg
 b : T.s.heap.Ns builtinsNs T.mb
 lim : T.s.heap.NoLimit
 sys : ∃ o, T.s.heap.get? sysModules = some o
 con : ∀ k x d, gtab k = some (x, d) → ∃ v, T.mg x = some v ∧ ∀ W, Rep W v d
 bi : ∀ x v, biTab.lookup x = some v → T.mg x = none ∧ T.mb x = some v
 opn : ∃ a m, T.mg "OPENING" = some (.ref a) ∧ (a == sysModules) = false ∧ (∀ h : Heap, (∀ b o, T.s.heap.get? b = some o → h.get? b = some o) → h.MapOf (strKind T.prog T.w) a m) ∧
  ∀ x, (∀ y, openF x = some y → ∃ t, m x = some (.str y t)) ∧ (openF x = none → m x = none)
section
variable {cx : Cx} {cb : Bool} {st : St} {W : Ws} {tk : Nat} {Q : VP} {E : VP} {f : F} {p : Pl} {e : Expr} {z y : Str} {v : Value} {pos : Pos} {i : Nat}
theorem Sim.keeps (S : Sim cx st W) : ∀ b o, cx.T.s.heap.get? b = some o → W.h.get? b = some o := fun b o e => (S.ok.top b o e).1
theorem and2 {a b : Bool} (h : (a && b) = true) : a = true ∧ b = true := Bool.and_eq_true_iff.mp h
theorem acc_of (h : isLoc cx.nm cx.env.scope.names i z = true) : Nm cx i z ∧ (z == ("__debug__" : Str)) = false := by
 obtain ⟨h, h3⟩ := and2 h
 obtain ⟨h1, h2⟩ := and2 h
 exact ⟨⟨eq_of_beq h1, (Bool.or_eq_true_iff.mp h2).imp eq_of_beq eq_of_beq⟩, by simpa using h3⟩
theorem gl_of {kd : Kd} (h : isGl kd z y = true) : z = y ∧ kd.lookup z = some .globalImplicit ∧ (z == ("__debug__" : Str)) = false := by
 obtain ⟨h, h3⟩ := and2 h
 obtain ⟨h1, h2⟩ := and2 h
 exact ⟨eq_of_beq h1, eq_of_beq h2, by simpa using h3⟩
theorem load_name {s : Shared} {Md : Model} {A : Around} (hk : cx.env.scope.kind = .function) (hv : Holds cx.env s.heap z v) (hd : (z == ("__debug__" : Str)) = false) (h : Q v s) : wpAny Md A (eval (.Name z pos) cx.env) Q E s := by
 rcases hv with ⟨k, m, hn, hm⟩ | ⟨k, c, hc, hv⟩
 · exact wpAny_Name (wpAny_loadName_local hk k hn hm h) hd
 · exact wpAny_Name (wpAny_loadName_cell hk k hc hv h) hd
theorem load_glob {Md : Model} {A : Around} (TO : cx.T.Ok) (C : cx.Ok cb) (S : Sim cx st W) (h : isGl cx.env.scope.names z y = true) (hv : cx.T.mg y = some v) (hq : Q v (sh cx.T W tk)) : wpAny Md A (eval (.Name z pos) cx.env) Q E (sh cx.T W tk) := by
 obtain ⟨rfl, h2, h3⟩ := gl_of h
 exact Name_function_global C.kind h2 (loadGlobal_global (by rw [C.glob]; exact TO.g.keeps S.keeps) hv hq) h3
theorem load_bi {Md : Model} {A : Around} (TO : cx.T.Ok) (C : cx.Ok cb) (S : Sim cx st W) (h : isGl cx.env.scope.names z y = true) (hv : biTab.lookup y = some v) (hq : Q v (sh cx.T W tk)) : wpAny Md A (eval (.Name z pos) cx.env) Q E (sh cx.T W tk) := by
 obtain ⟨rfl, h2, h3⟩ := gl_of h
 obtain ⟨b1, b2⟩ := TO.bi _ _ hv
 exact Name_function_global C.kind h2 (loadGlobal_builtin (by rw [C.glob]; exact TO.g.keeps S.keeps) b1 (by rw [C.bltn]; exact TO.b.keeps S.keeps) b2 hq) h3
theorem lookIn_ns {h : Heap} {dx : Addr} {m : Str → Option Value} (hn : h.Ns1 dx m) : ∃ od, h.get? dx = some od ∧ ∀ name, lookIn name od = some (m name) := by
 obtain ⟨o, es, ep, h1, h2, h3, h4, h5⟩ := hn
 refine ⟨o, h1, fun name => ?_⟩
 unfold lookIn
 rw [h2]
 dsimp only
 rw [← h5 name]
 unfold nsFind findBy
 rw [← Array.find?_toList]
 cases hf : es.toList.find? (·.key.isStr name) with
 | some e => rfl
 | none =>
  have : (es.toList.any (·.refKey)) = false := by
   rw [List.any_eq_false]
   intro e he
   obtain ⟨n, t, hk⟩ := h3 e (by simpa using he)
   simp [DictEntry.refKey, hk]
  simp [this]
theorem Rep.handed {d : PyData} (r : Rep W v d) : handedIn v = true := by obtain ⟨_, q⟩ := r; cases q <;> rfl
theorem RepF.handed {T : Tp} {t : Tag} (r : RepF T W t v f) : handedIn v = true := by
 cases f with
 | val d => exact Rep.handed r
 | own xs => obtain ⟨_, _, rfl, _⟩ := r; rfl
 | dct es => obtain ⟨_, rfl, _⟩ := r; rfl
 | _ => exact r.elim
theorem load_pl (C : cx.Ok cb) (PC : isFld p = true → PgCls cx.T) (S : Sim cx st W) (hm : mPl cx.nm cx.env.scope.names p e = true) (h : getP st p = some f) (k : ∀ v t tk', PlAt cx st W v f t p → Q v (sh cx.T W tk')) :
  wpX cx (eval e cx.env) Q E (sh cx.T W tk) := by
 cases p with
 | loc i =>
  obtain ⟨x, h1, hm⟩ := onS_true hm
  obtain ⟨pos, rfl⟩ := asName_eq h1
  obtain ⟨n, hd⟩ := acc_of hm
  obtain ⟨v, t, P⟩ := S.at (p := .loc i) ⟨x, n⟩ h
  obtain ⟨y, n', hv⟩ := P.2.2.1
  cases n.1.symm.trans n'.1
  exact load_name C.kind hv hd (k v t tk P)
 | fld i j =>
  obtain ⟨⟨x, nm, pos⟩, h1, hm⟩ := onS_true hm
  obtain ⟨hm, h2⟩ := and2 hm
  obtain ⟨hj, h3⟩ := and2 hm
  obtain ⟨x', h4, h2⟩ := onS_true h2
  obtain ⟨pos', rfl⟩ := asName_eq h4
  have h3 : nm = fldN j := eq_of_beq h3
  have h1 := asAttr_eq h1
  subst h3 h1
  obtain ⟨n, hd⟩ := acc_of h2
  obtain ⟨v, t, q, P⟩ := S.at (p := .fld i j) ⟨odt hj, x', n⟩ h
  cases n.1.symm.trans P.nm.1
  refine Attribute_name (load_name C.kind P.me hd ?_)
  obtain ⟨od, g, hl⟩ := lookIn_ns P.P.ns
  have PC := PC rfl
  have I : InstAt W.h q.q.a (instO cx.T.pc q.q.da) cx.T.pc (some od) := ⟨P.P.inst, rfl, rfl, g⟩
  exact PySem.W.get_value (s := sh cx.T W tk) (PC.kin.keeps S.keeps) I PC.ga (PySem.W.findObj_own PC.dict (PC.fld j P.lt) rfl (P.mv ▸ hl (fldN j))) P.r.handed (k v t _ ⟨q, P⟩)
end
end Mine.Internal
end
section
namespace Mine.Internal
section
variable {Γ : Nat → Fn} {cx : Cx} {cb : Bool} {st st' : St} {W W' : Ws} {tk : Nat} {T : List Value → Shared → Prop} {E : VP} {f : F} {p : Pl} {e : Expr} {z y : Str} {v : Value} {pos : Pos} {i b : Nat} {c : CE} {d : PyData} {x : Addr} {t : Tag}
theorem one_ok (H : Post cx b cb (RepL cx) W T E (.ok [f] st)) (l : Le cx.d b cb W W') (S : Sim cx st W') (r : RepA cx W' v f) : T [v] (sh cx.T W' tk) := H W' tk [v] l S ⟨r, trivial⟩
theorem val_ok (H : Post cx b cb (RepL cx) W T E (.ok [.val d] st)) (S : Sim cx st W) (r : Rep W v d) : T [v] (sh cx.T W tk) := H W tk [v] Le.refl S ⟨r, trivial⟩
theorem s_lit {k : Nat} {c : Const} (h : cLit d c = true) : SL Γ cx cb (.lit d) [.Constant c k pos] := fun _ st W S tk T E H => by
 show wpAny _ _ _ _ _ _
 cases d with
 | none =>
  have : c = .none := by cases c <;> first | rfl | cases h
  subst this; exact wpAny_Constant_none (val_ok H S .none)
 | bool b => obtain rfl := eq_of_beq h; exact wpAny_Constant_bool (val_ok H S .bool)
 | int i => obtain rfl := eq_of_beq h; exact wpAny_Constant_int (val_ok H S .int)
 | str x => obtain rfl := eq_of_beq h; exact wpAny_Constant_str (val_ok H S .str)
 | list xs => cases h
 | tuple xs => cases h
 | dict xs => cases h
theorem s_lend (C : cx.Ok cb) (h : mPl cx.nm cx.env.scope.names (.loc i) e = true) : SL Γ cx cb (.lend i) [e] := fun _ st W S tk T E H => by
 replace H : Post cx (cx.d + 1) cb (RepL cx) W T E (if (slot st.v i).isSome then .ok [.lnd i] st else .stuck) := H
 cases hs : slot st.v i with
 | none => rw [hs] at H; exact H.elim
 | some f =>
  rw [hs] at H
  refine load_pl (p := .loc i) C (fun q => nomatch q) S h hs fun v t tk' P => one_ok H Le.refl S ?_
  obtain ⟨_, _, ⟨y, n, hv⟩, _⟩ := P
  exact ⟨y, n.1, n.2, hv⟩
theorem s_glob {k : Nat} {q : Str × PyData} (TO : cx.T.Ok) (C : cx.Ok cb) (hg : gtab k = some q) (h : isGl cx.env.scope.names z q.1 = true) : SL Γ cx cb (.glob k) [.Name z pos] := fun _ st W S tk T E H => by
 obtain ⟨v, hv, hr⟩ := TO.con k q.1 q.2 hg
 replace H : Post cx (cx.d + 1) cb (RepL cx) W T E (oneO ((gtab k).map fun y => .val y.2) st) := H
 rw [hg] at H
 exact load_glob TO C S h hv (val_ok H S (hr W))
theorem PlAt.own {xs : List PyData} (P : PlAt cx st W v (.own xs) t p) : ∃ x vs, v = .ref x ∧ W.h.PlainList x vs ∧ W.t x = t ∧ RepAll W vs.toList xs := by
 cases p with
 | loc i => exact P.2.2.2
 | fld i j => obtain ⟨n, P⟩ := P; exact P.r
theorem PlAt.val (P : PlAt cx st W v (.val d) t p) : Rep W v d := by
 cases p with
 | loc i => exact P.2.2.2
 | fld i j => obtain ⟨n, P⟩ := P; exact P.r
theorem PlAt.fr (P : PlAt cx st W v f t p) (hx : W.t x = t) (hc : isFld p = true → cb = true) : Fr cx.d b cb W x := .of (by
 rw [hx]
 cases p with
 | loc i => rw [P.2.1]; exact own_ch
 | fld i j => obtain ⟨n, P⟩ := P; rw [P.tg]; exact hc rfl)
theorem s_get (C : cx.Ok cb) (PC : isFld p = true → PgCls cx.T) (h : mPl cx.nm cx.env.scope.names p e = true) : SL Γ cx cb (.get p) [e] := fun hf st W S tk T E H => by
 replace H : Post cx (cx.d + 1) cb (RepL cx) W T E (getE p st) := H
 unfold getE at H
 cases hg : getP st p with
 | none => rw [hg] at H; exact H.elim
 | some f =>
  rw [hg] at H
  refine load_pl C PC S h hg fun v t tk' P => ?_
  cases f with
  | val d => exact val_ok H S P.val
  | pg k =>
   cases p with
   | loc i => exact one_ok H Le.refl S P.2.2.2
   | fld i j => obtain ⟨n, P⟩ := P; exact P.r.elim
  | own xs =>
   dsimp only at H
   cases hs : setP st (some (.val (.list xs))) p with
   | none => rw [hs] at H; exact H.elim
   | some st' =>
    rw [hs] at H
    obtain ⟨x, vs, rfl, ⟨n, g⟩, hx, r⟩ := P.own
    have B := But.tag W x .fz
    have hz : Fz W _ := B.fz' g g (Tags.put_self ..)
    have r' : Rep ⟨W.t.put x .fz, W.h⟩ (.ref x) (.list xs) := Rep.list ⟨_, g, rfl, n, rfl⟩ (Tags.put_self ..) (r.mono hz)
    exact one_ok (W' := ⟨W.t.put x .fz, W.h⟩) H (B.le (P.fr hx hf) (put_ni rfl)) (S.putPl P (fun q => C.cb (hf q)) hx B ⟨_, g⟩ (put_ni rfl) (fun f' e => by cases e; exact r') hs) r'
  | brw xs => exact H.elim
  | dct es => exact H.elim
  | ex k => exact H.elim
  | lnd i => exact H.elim
theorem s_mv (C : cx.Ok cb) (h : mPl cx.nm cx.env.scope.names p e = true) (hp : isFld p = false) : SL Γ cx cb (.mv p) [e] := fun hf st W S tk T E H => by
 replace H : Post cx (cx.d + 1) cb (RepL cx) W T E (mvE p st) := H
 unfold mvE at H
 have no : isFld p = true → ∀ {P : Prop}, P := fun q => by rw [hp] at q; cases q
 cases hg : getP st p with
 | none => rw [hg] at H; exact H.elim
 | some f =>
  rw [hg] at H
  cases f with
  | own xs =>
   refine load_pl C (fun q => no q) S h hg fun v t tk' P => ?_
   dsimp only at H
   cases hs : setP st none p with
   | none => rw [hs] at H; exact H.elim
   | some st' =>
    rw [hs] at H
    obtain ⟨x, vs, rfl, ⟨n, g⟩, hx, r⟩ := P.own
    have B := But.tag W x (.own cx.d 0)
    have nz : W.t x ≠ .fz := fun q => by
     rw [hx] at q
     cases p with
     | loc i => cases P.2.1.symm.trans q
     | fld i j => exact no rfl
    exact one_ok (W' := ⟨W.t.put x (.own cx.d 0), W.h⟩) H (B.le (P.fr hx fun q => no q) (put_ni rfl)) (S.putPl P (fun q => no q) hx B ⟨_, g⟩ (put_ni rfl) (fun f' e => by cases e) hs) ⟨x, vs, rfl, ⟨n, g⟩, Tags.put_self .., r.mono (B.fz nz)⟩
  | val d => exact H.elim
  | pg k => exact H.elim
  | brw xs => exact H.elim
  | dct es => exact H.elim
  | ex k => exact H.elim
  | lnd i => exact H.elim
end
structure OpW (cx : Cx) (cb : Bool) (T : List Value → Shared → Prop) (E : VP) (o : Op) (vs : List Value) (st : St) (W : Ws) (ds : List PyData) : Prop where
 S : Sim cx st W
 r : RepAll W vs ds
 H : Post cx (cx.d + 1) cb (RepL cx) W T E (oneO (opF o ds) st)
noncomputable def OpT (cx : Cx) (cb : Bool) (T : List Value → Shared → Prop) (E : VP) (o : Op) (vs : List Value) (s : Shared) : Prop := ∃ st W tk ds, s = sh cx.T W tk ∧ OpW cx cb T E o vs st W ds
noncomputable def tw1 (K : VP) : List Value → Shared → Prop
 | [v] => K v
 | _ => fun _ => True
noncomputable def tw2 (K : Value → Value → Shared → Prop) : List Value → Shared → Prop
 | [v, u] => K v u
 | _ => fun _ => True
theorem okLen_le {n : Nat} (h : okLen n = true) : n ≤ sizeLine := by rw [sizeLine_eq]; exact odt h
theorem len_cs (x : Str) : x.length = (cs x).length := (Array.length_toList).symm
section
variable {cx : Cx} {cb : Bool} {T : List Value → Shared → Prop} {E : VP} {o : Op} {vs : List Value} {s : Shared} {st : St} {W : Ws} {ds : List PyData} {b tk : Nat} {d : PyData} {v u : Value}
theorem oneO_some {r : Option F} (H : Post cx b cb (RepL cx) W T E (oneO r st)) : ∃ g, r = some g ∧ Post cx b cb (RepL cx) W T E (.ok [g] st) := by
 cases r with
 | none => exact H.elim
 | some g => exact ⟨g, rfl, H⟩
theorem OpT.un {f : PyData → Option F} {K : VP} (h : OpT cx cb T E o vs s) (ho : ∀ ds, opF o ds = un f ds)
  (k : ∀ st W tk x v g, Sim cx st W → Rep W v x → f x = some g → Post cx (cx.d + 1) cb (RepL cx) W T E (.ok [g] st) → K v (sh cx.T W tk)) : tw1 K vs s := by
 obtain ⟨st, W, tk, ds, rfl, h⟩ := h
 obtain ⟨g, hg, H⟩ := oneO_some h.H
 obtain ⟨x, hx, hf⟩ := bsm ((ho ds).symm.trans hg)
 obtain ⟨v, vs', rfl, r1, r2⟩ := (one_eq hx ▸ h.r).inv
 cases r2.inv0
 exact k st W tk x v g h.S r1 hf H
theorem OpT.bi {f : PyData → PyData → Option F} {K : Value → Value → Shared → Prop} (h : OpT cx cb T E o vs s) (ho : ∀ ds, opF o ds = Mine.Internal.bi f ds)
  (k : ∀ st W tk x y v u g, Sim cx st W → Rep W v x → Rep W u y → f x y = some g → Post cx (cx.d + 1) cb (RepL cx) W T E (.ok [g] st) → K v u (sh cx.T W tk)) : tw2 K vs s := by
 obtain ⟨st, W, tk, ds, rfl, h⟩ := h
 obtain ⟨g, hg, H⟩ := oneO_some h.H
 obtain ⟨x, hx, hf⟩ := bsm ((ho ds).symm.trans hg)
 obtain ⟨v, vs', rfl, r1, r2⟩ := (two_eq hx ▸ h.r).inv
 obtain ⟨u, vs', rfl, r4, r3⟩ := r2.inv
 cases r3.inv0
 exact k st W tk x.1 x.2 v u g h.S r1 r4 hf H
theorem Sim.new (S : Sim cx st W) {o : Obj} (t : Tag) (hf : o.isFreed = false) (ht : t.isInst = false) : Le cx.d b cb W ⟨W.t.put W.h.objs.size t, W.h.push o⟩ ∧ Sim cx st ⟨W.t.put W.h.objs.size t, W.h.push o⟩ ∧ Fz W ⟨W.t.put W.h.objs.size t, W.h.push o⟩ := by
 have g := dead_at W.h (Nat.le_refl W.h.objs.size)
 have q := S.ok.dead _ g
 have B := But.push W o t
 exact ⟨B.le (.dead g) (put_ni ht), S.but B (by rw [q]; rfl) (by rw [q]; rfl) (fun i => by rw [q]; intro e; cases e) (fun e => nomatch (Heap.get?_push_size W.h hf).symm.trans e) (put_ni ht), B.fz (by rw [q]; intro e; cases e)⟩
theorem newL_ok {xs : List PyData} {vs : Array Value} {n : Nat} (H : Post cx b cb (RepL cx) W T E (.ok [.own xs] st)) (S : Sim cx st W) (r : RepAll W vs.toList xs) :
  T [.ref W.h.objs.size] { (sh cx.T W tk) with heap := W.h.push { cls := .type "list", data := .seq vs n } } := by
 obtain ⟨l, S', z⟩ := S.new (b := b) (cb := cb) (o := { cls := .type "list", data := .seq vs n }) (.own cx.d 0) rfl rfl
 exact one_ok (W' := ⟨W.t.put W.h.objs.size (.own cx.d 0), W.h.push { cls := .type "list", data := .seq vs n }⟩) H l S' ⟨_, vs, rfl, ⟨n, Heap.get?_push_size _ rfl⟩, Tags.put_self .., r.mono z⟩
theorem newT_ok {xs : List PyData} {vs : Array Value} {n : Nat} (H : Post cx b cb (RepL cx) W T E (.ok [.val (.tuple xs)] st)) (S : Sim cx st W) (r : RepAll W vs.toList xs) :
  T [.ref W.h.objs.size] { (sh cx.T W tk) with heap := W.h.push { cls := .type "tuple", data := .seq vs n } } := by
 obtain ⟨l, S', z⟩ := S.new (b := b) (cb := cb) (o := { cls := .type "tuple", data := .seq vs n }) .fz rfl rfl
 exact one_ok (W' := ⟨W.t.put W.h.objs.size .fz, W.h.push { cls := .type "tuple", data := .seq vs n }⟩) H l S' (Rep.tuple ⟨_, Heap.get?_push_size _ rfl, rfl, n, rfl⟩ (Tags.put_self ..) (r.mono z))
end
section
variable {prog : Program} {w : World} {A : Around} {E : VP} {s : Shared}
theorem add_list_raw {l b : Addr} {its its2 : Array Value} {Q : VP} (hl : s.heap.IsList l its) (hb : s.heap.IsList b its2)
  (h : Q (.ref s.heap.objs.size) { s with heap := s.heap.push { cls := .type "list", data := .seq (its ++ its2) } }) (hsz : its.size + its2.size ≤ sizeLine) :
  wpAny (model prog w) A (binaryOp .Add (.ref l) (.ref b)) Q E s := by
 obtain ⟨⟨cls, dd, data, sl⟩, ho, hc, n, hd⟩ := id hl
 obtain ⟨⟨cls2, dd2, data2, sl2⟩, ho2, hc2, n2, hd2⟩ := id hb
 simp only at hc hd hc2 hd2
 subst hc hd hc2 hd2
 exact concat_meets ⟨_, ho, rfl⟩ ⟨_, ho2, rfl⟩ noFill_list_add seq_list_add PySem.F.slot_list_add PySem.F.entry_list_add (PySem.F.args_list_add_2 _ _) (list_addW l b its its2 n n2 dd dd2 sl sl2 hsz) ⟨ho, ho2, h⟩
theorem add_tup_raw {l b : Addr} {its its2 : Array Value} {Q : VP} (hl : IsTup s.heap l its) (hb : IsTup s.heap b its2)
  (h0 : its = #[] → Q (.ref b) s) (h1 : its2 = #[] → Q (.ref l) s)
  (h : Q (.ref s.heap.objs.size) { s with heap := s.heap.push { cls := .type "tuple", data := .seq (its ++ its2) } }) (hsz : its.size + its2.size ≤ sizeLine) :
  wpAny (model prog w) A (binaryOp .Add (.ref l) (.ref b)) Q E s := by
 obtain ⟨⟨cls, dd, data, sl⟩, ho, hc, n, hd⟩ := id hl
 obtain ⟨⟨cls2, dd2, data2, sl2⟩, ho2, hc2, n2, hd2⟩ := id hb
 simp only at hc hd hc2 hd2
 subst hc hd hc2 hd2
 by_cases e1 : its.isEmpty = true
 · exact concat_meets ⟨_, ho, rfl⟩ ⟨_, ho2, rfl⟩ noFill_tuple_add seq_tuple_add PySem.F.slot_tuple_add PySem.F.entry_tuple_add (PySem.F.args_tuple_add_2 _ _) (tuple_addW0 l b its its2 n n2 dd dd2 sl sl2 e1) ⟨ho, ho2, h0 (by simpa using e1)⟩
 · by_cases e2 : its2.isEmpty = true
   · exact concat_meets ⟨_, ho, rfl⟩ ⟨_, ho2, rfl⟩ noFill_tuple_add seq_tuple_add PySem.F.slot_tuple_add PySem.F.entry_tuple_add (PySem.F.args_tuple_add_2 _ _) (tuple_addW1 l b its its2 n n2 dd dd2 sl sl2 e1 e2) ⟨ho, ho2, h1 (by simpa using e2)⟩
   · exact concat_meets ⟨_, ho, rfl⟩ ⟨_, ho2, rfl⟩ noFill_tuple_add seq_tuple_add PySem.F.slot_tuple_add PySem.F.entry_tuple_add (PySem.F.args_tuple_add_2 _ _) (tuple_addW2 l b its its2 n n2 dd dd2 sl sl2 e1 e2 hsz) ⟨ho, ho2, h⟩
end
theorem intBits_small {a : Int} (h : small a = true) : Builtin.Int.intBits a ≤ 64 := by
 have h' : a.natAbs < 1073741824 := odt h
 unfold Builtin.Int.intBits
 have : a.natAbs.log2 < 30 := by
  rcases Nat.eq_zero_or_pos a.natAbs with e | e
  · rw [e]; decide
  · exact (Nat.log2_lt (Nat.pos_iff_ne_zero.mp e)).mpr (by lia)
 split <;> lia
theorem cs_append (x y : Str) : x ++ y = S (cs x ++ cs y) := by
 obtain ⟨x⟩ := x; obtain ⟨y⟩ := y
 show (⟨x ++ y⟩ : Str) = ⟨(x.toList ++ y.toList).toArray⟩
 rw [← Array.toList_append]
theorem foldl_flat (l : List (Array Nat)) (a : Array Nat) : (l.foldl (· ++ ·) a).toList = a.toList ++ (l.map (·.toList)).flatten := by
 induction l generalizing a with
 | nil => simp
 | cons x r ih => simp [ih]
theorem mul_is (x : Str) (n : Int) : Txt.mul x n = S (List.replicate n.toNat (cs x)).flatten := by
 unfold Txt.mul
 split
 · rename_i h
   have : n.toNat = 0 := by lia
   rw [this]; rfl
 · split
   · rename_i h1 h2
     simp only [Bool.or_eq_true, beq_iff_eq] at h2
     rcases h2 with rfl | h2
     · show x = S (List.replicate 1 (cs x)).flatten
       simp [S_cs]
     · rw [len_cs] at h2
       have e : cs x = [] := List.length_eq_zero_iff.mp h2
       rw [e]
       have : x = S [] := by rw [← e, S_cs]
       rw [this]; simp [S]
   · rename_i h1 h2
     unfold S
     congr 1
     apply Array.ext'
     rw [foldl_flat]
     simp [cs]
theorem okInt_of {n : Int} (h : okInt n = true) : n ≤ 16777216 ∧ -16777216 ≤ n := ⟨odt (Bool.and_eq_true_iff.mp h).1, odt (Bool.and_eq_true_iff.mp h).2⟩
theorem mulOk_of {x : Str} {n : Int} (h : okLen ((cs x).length * n.toNat) = true) (hn : okInt n = true) : MulOk x n := by
 have h3 := okLen_le h
 rw [sizeLine_eq] at h3
 have hn := okInt_of hn
 refine ⟨?_, fun h1 h2 => ?_, fun h1 h2 => ?_⟩
 · simp only [Bool.or_eq_false_iff, decide_eq_false_iff_not]; lia
 · rw [len_cs]
   have h5 : (cs x).length ≤ (cs x).length * n.toNat := Nat.le_mul_of_pos_right _ (by lia)
   have h8 : (16777216 : Int) ≤ (2 ^ 63 - 1) / n := (Int.le_ediv_iff_mul_le (by lia)).mpr (by lia)
   lia
 · unfold Builtin.Str.tooLong
   rw [len_cs, sizeLine_eq]
   simpa using h3
section
variable {cx : Cx} {cb : Bool} {T : List Value → Shared → Prop} {E : VP} {st : St} {W : Ws} {b tk : Nat} {d e : PyData} {v u : Value} {g : F} {i : Int}
theorem Rep.ii (h : asI d = some i) (r : Rep W v d) : ∃ t, v = .int i t := (asI_eq h ▸ r).inv
theorem Rep.ss {x : Str} (h : asS d = some x) (r : Rep W v d) : ∃ t, v = .str x t := (asS_eq h ▸ r).inv
theorem Rep.ll {xs : List PyData} (h : asL d = some xs) (r : Rep W v d) : ∃ a vs, v = .ref a ∧ W.h.IsList a vs ∧ W.t a = .fz ∧ RepAll W vs.toList xs := (asL_eq h ▸ r).inv
theorem Rep.tt {xs : List PyData} (h : asT d = some xs) (r : Rep W v d) : ∃ a vs, v = .ref a ∧ IsTup W.h a vs ∧ W.t a = .fz ∧ RepAll W vs.toList xs := (asT_eq h ▸ r).inv
theorem bin_ok {op : Operator} (S : Sim cx st W) (hv : Rep W v d) (hu : Rep W u e) (hb : binF op d e = some g) (H : Post cx b cb (RepL cx) W T E (.ok [g] st)) :
  wpX cx (binaryOp op v u) (fun r s => T [r] s) E (sh cx.T W tk) := by
 have int2 : ∀ {f : Int → Int → Option F} {P : Prop}, op2 asI d e f = some g → (∀ a b t t', v = .int a t → u = .int b t' → f a b = some g → P) → P := fun h k => by
  obtain ⟨a, b, ha, hb, h⟩ := op2_some h
  obtain ⟨t, rfl⟩ := hv.ii ha
  obtain ⟨t', rfl⟩ := hu.ii hb
  exact k a b t t' rfl rfl h
 cases op with
 | Add =>
  rcases or_some hb with hb | hb
  · rcases or_some hb with hb | hb
    · exact int2 hb fun a b t t' hv hu h => by cases h; subst hv hu; exact add_int (val_ok H S .int)
    · obtain ⟨x, y, hx, hy, h⟩ := op2_some hb
      obtain ⟨hq, rfl⟩ := gd_some h
      obtain ⟨_, rfl⟩ := hv.ss hx; obtain ⟨_, rfl⟩ := hu.ss hy
      refine add_str (fun t' tk => ?_) (by rw [len_cs, len_cs]; exact okLen_le hq)
      rw [cs_append]
      exact val_ok H S .str
  · rcases or_some hb with hb | hb
    · obtain ⟨x, y, hx, hy, h⟩ := op2_some hb
      obtain ⟨hq, rfl⟩ := gd_some h
      obtain ⟨a, vs, rfl, hl, _, hr⟩ := hv.ll hx
      obtain ⟨a', ws, rfl, hl', _, hr'⟩ := hu.ll hy
      exact add_list_raw hl hl' (newL_ok H S (by rw [Array.toList_append]; exact hr.append hr')) (by rw [hr.size, hr'.size]; exact okLen_le hq)
    · obtain ⟨x, y, hx, hy, h⟩ := op2_some hb
      obtain ⟨hq, rfl⟩ := gd_some h
      obtain ⟨a, vs, rfl, hl, ht, hr⟩ := hv.tt hx
      obtain ⟨a', ws, rfl, hl', ht', hr'⟩ := hu.tt hy
      refine add_tup_raw hl hl' (fun q => ?_) (fun q => ?_) (newT_ok H S (by rw [Array.toList_append]; exact hr.append hr')) (by rw [hr.size, hr'.size]; exact okLen_le hq)
      · have := hr.length; rw [q] at this
        rw [List.eq_nil_of_length_eq_zero this.symm] at H
        exact val_ok H S (.tuple hl' ht' hr')
      · have := hr'.length; rw [q] at this
        rw [List.eq_nil_of_length_eq_zero this.symm, List.append_nil] at H
        exact val_ok H S (.tuple hl ht hr)
 | Sub => exact int2 hb fun a b t t' hv hu h => by cases h; subst hv hu; exact sub_int (val_ok H S .int)
 | Mult =>
  rcases or_some hb with hb | hb
  · exact int2 hb fun a b t t' hv hu h => by
     obtain ⟨hq, rfl⟩ := gd_some h; subst hv hu
     exact mul_int (val_ok H S .int) ((Bool.or_eq_true_iff.mp hq).elim (fun h => IntMulOk.of_left (intBits_small h)) fun h => IntMulOk.of_right (intBits_small h))
  · obtain ⟨x, hx, hb⟩ := bsm hb
    obtain ⟨n, hn, hb⟩ := bsm hb
    obtain ⟨hq, rfl⟩ := gd_some hb
    obtain ⟨_, rfl⟩ := hv.ss hx; obtain ⟨_, rfl⟩ := hu.ii hn
    obtain ⟨h1, h2⟩ := and2 hq
    refine SB.mul (mulOk_of h1 h2) fun t' k => ?_
    rw [mul_is]
    exact val_ok H S .str
 | FloorDiv =>
  exact int2 hb fun a b t t' hv hu h => by
   obtain ⟨hq, rfl⟩ := gd_some h; subst hv hu
   obtain ⟨h1, h2⟩ := and2 hq
   exact floordiv_int (bne_iff_ne.mp h2) (val_ok H S .int) (.inl (PyProof.noPylong_small (odt h1)))
 | Mod =>
  exact int2 hb fun a b t t' hv hu h => by
   obtain ⟨hq, rfl⟩ := gd_some h; subst hv hu
   exact mod_int' (bne_iff_ne.mp hq) (val_ok H S .int)
 | _ => exact nos hb
end
theorem str_eq_cs (x y : Str) : (x == y) = (cs x == cs y) := by
 rw [Bool.eq_iff_iff, beq_iff_eq, beq_iff_eq]
 exact ⟨fun h => by rw [h], fun h => by rw [← S_cs x, ← S_cs y, h]⟩
theorem shallow_of {d : PyData} (h : shallow d = true) : d.canLay0 = true ∧ d.depth ≤ 50 := ⟨(and2 h).1, odt (and2 h).2⟩
section
variable {cx : Cx} {cb : Bool} {Q : VP} {E : VP} {W : Ws} {b tk : Nat} {d e : PyData} {v u : Value} {t : Bool}
theorem isN_of (r : Rep W v d) : (v == .none) = isN d := by obtain ⟨_, r⟩ := r; cases r <;> rfl
theorem eqn_ok (C : cx.Ok cb) (hv : Rep W v d) (hu : Rep W u e) (h : eqF d e = some t) :
  (Q (.bool t) (sh cx.T W tk) → wpX cx (compareOp .Eq v u) Q E (sh cx.T W tk)) ∧ (Q (.bool (!t)) (sh cx.T W tk) → wpX cx (compareOp .NotEq v u) Q E (sh cx.T W tk)) := by
 rcases or_some h with h | h
 · rcases or_some h with h | h
   · obtain ⟨a, b, ha, hb, h⟩ := op2_some h
     cases h
     obtain ⟨_, rfl⟩ := hv.ii ha; obtain ⟨_, rfl⟩ := hu.ii hb
     exact ⟨eq_int, ne_int⟩
   · obtain ⟨a, b, ha, hb, h⟩ := op2_some h
     cases h
     obtain ⟨_, rfl⟩ := hv.ss ha; obtain ⟨_, rfl⟩ := hu.ss hb
     rw [← str_eq_cs]
     exact ⟨eq_str, ne_str⟩
 · obtain ⟨hs, rfl⟩ := gd_some h
   obtain ⟨h1, h2⟩ := and2 hs
   obtain ⟨a1, a2⟩ := shallow_of h1
   obtain ⟨b1, b2⟩ := shallow_of h2
   obtain ⟨as, ra⟩ := hv.reads
   obtain ⟨bs, rb⟩ := hu.reads
   have hu : cx.A.units + min d.depth e.depth < cLine := Nat.lt_of_le_of_lt (Nat.add_le_add_left (nlt (Nat.min_le_left ..) (nlt a2 (by decide : 50 ≤ 200))) _) C.units
   exact ⟨fun hq => SeqAt.eqOverData _ _ _ _ _ _ _ _ _ _ _ _ ra rb a1 b1 hu hq, fun hq => SeqAt.neOverData _ _ _ _ _ _ _ _ _ _ _ _ ra rb a1 b1 hu hq⟩
theorem cmp_ok {op : CmpOp} (C : cx.Ok cb) (hv : Rep W v d) (hu : Rep W u e) (h : cmpF op d e = some t) (hq : Q (.bool t) (sh cx.T W tk)) : wpX cx (compareOp op v u) Q E (sh cx.T W tk) := by
 have int2 : ∀ {f : Int → Int → Option Bool} {P : Prop}, op2 asI d e f = some t → (∀ a b t1 t2, v = .int a t1 → u = .int b t2 → f a b = some t → P) → P := fun h k => by
  obtain ⟨a, b, ha, hb, h⟩ := op2_some h
  obtain ⟨t1, rfl⟩ := hv.ii ha
  obtain ⟨t2, rfl⟩ := hu.ii hb
  exact k a b t1 t2 rfl rfl h
 have str2 : ∀ {f : Str → Str → Option Bool} {P : Prop}, op2 asS d e f = some t → (∀ a b t1 t2, v = .str a t1 → u = .str b t2 → f a b = some t → P) → P := fun h k => by
  obtain ⟨a, b, ha, hb, h⟩ := op2_some h
  obtain ⟨t1, rfl⟩ := hv.ss ha
  obtain ⟨t2, rfl⟩ := hu.ss hb
  exact k a b t1 t2 rfl rfl h
 have none2 : ∀ {P : Prop}, isN e = true → (u = .none → P) → P := fun h k => k (by have := isN_of hu; rw [h] at this; exact eq_of_beq this)
 cases op with
 | Eq => exact (eqn_ok C hv hu h).1 hq
 | NotEq =>
  obtain ⟨t', h', rfl⟩ := msm h
  exact (eqn_ok C hv hu h').2 hq
 | Lt => exact int2 h fun a b _ _ h1 h2 h => by cases h; subst h1 h2; exact lt_int hq
 | LtE => exact int2 h fun a b _ _ h1 h2 h => by cases h; subst h1 h2; exact le_int hq
 | Gt => exact int2 h fun a b _ _ h1 h2 h => by cases h; subst h1 h2; exact gt_int hq
 | GtE => exact int2 h fun a b _ _ h1 h2 h => by cases h; subst h1 h2; exact ge_int hq
 | In => exact str2 h fun a b _ _ h1 h2 h => by cases h; subst h1 h2; exact in_str hq
 | NotIn => exact str2 h fun a b _ _ h1 h2 h => by cases h; subst h1 h2; exact notIn_str hq
 | Is => obtain ⟨h', rfl⟩ := gd_some h; exact none2 h' fun q => by subst q; exact is_none (by rw [isN_of hv]; exact hq)
 | IsNot => obtain ⟨h', rfl⟩ := gd_some h; exact none2 h' fun q => by subst q; exact isNot_none (by rw [isN_of hv]; exact hq)
end
theorem at_some {n : Nat} {i : Int} {k : Nat} (h : at? n i = some k) : k < n ∧ (0 ≤ i ∧ i = k ∨ i < 0 ∧ i + n = k) := by
 have key : ∀ j : Int, (if (decide (0 ≤ j) && decide (j < n)) = true then some j.toNat else none) = some k → j = k ∧ k < n := fun j h => by
  by_cases c : (decide (0 ≤ j) && decide (j < n)) = true
  · rw [if_pos c] at h
    obtain ⟨c1, c2⟩ := and2 c
    have c1 := odt c1
    have c2 := odt c2
    cases h
    have e := Int.toNat_of_nonneg c1
    exact ⟨e.symm, Int.ofNat_lt.mp (e ▸ c2)⟩
  · rw [if_neg c] at h; cases h
 by_cases q : i < 0
 · have := key _ ((congrArg (fun j : Int => if (decide (0 ≤ j) && decide (j < n)) = true then some j.toNat else none) (if_pos q)).symm.trans h)
   exact ⟨this.2, .inr ⟨q, this.1⟩⟩
 · have := key _ ((congrArg (fun j : Int => if (decide (0 ≤ j) && decide (j < n)) = true then some j.toNat else none) (if_neg q)).symm.trans h)
   exact ⟨this.2, .inl ⟨Int.not_lt.mp q, this.1⟩⟩
theorem at_fit {n : Nat} {i : Int} {k : Nat} (h : at? n i = some k) (hz : okLen n = true) : -(2 ^ 63) ≤ i ∧ i < 2 ^ 63 := by
 have hz' : n ≤ 16777216 := odt hz
 have := at_some h
 lia
theorem notSlice_sub {e : Expr} (h : plainX e = true) (o i : Value) : subscripted e false o i = operate [o, i] (getItem o i) := by
 cases e <;> first | rfl | cases h
section
variable {prog : Program} {w : World} {A : Around} {E : VP} {s : Shared}
theorem getItem_list_at {l : Addr} {items : Array Value} {i : Int} {t : Tok} {k : Nat} {x : Value} {Q : VP} (hl : s.heap.IsList l items) (hk : at? items.size i = some k) (hz : okLen items.size = true) (hx : items[k]? = some x) (h : Q x s) :
  wpAny (model prog w) A (getItem (.ref l) (.int i t)) Q E s := by
 have hf := at_fit hk hz
 obtain ⟨_, ⟨h0, e⟩ | ⟨h0, e⟩⟩ := at_some hk
 · exact wpAny_getItem_list hl h0 hf.2 (by rw [e]; exact hx) h
 · exact wpAny_getItem_list_neg hl h0 (by lia) hf.1 (by rw [e]; exact hx) h
end
theorem atL_some {α : Type} {xs : List α} {i : Int} {x : α} (h : atL xs i = some x) : okLen xs.length = true ∧ ∃ k, at? xs.length i = some k ∧ xs[k]? = some x := by
 obtain ⟨n, hn, h⟩ := bsm h
 obtain ⟨hz, rfl⟩ := gd_some hn
 exact ⟨hz, bsm h⟩
section
variable {cx : Cx} {Q : VP} {E : VP} {W : Ws} {tk : Nat} {d e : PyData} {v u : Value} {x : PyData} {value slice : Expr} {xs : List PyData} {l : Addr} {vs : Array Value} {i : Int} {tt : Tok}
theorem idxL_ok (hs : plainX slice = true) (hl : W.h.IsList l vs) (hr : RepAll W vs.toList xs) (h : atL xs i = some x) (hq : ∀ r, Rep W r x → Q r (sh cx.T W tk)) : wpX cx (subscriptTail value slice (.ref l) (.int i tt)) Q E (sh cx.T W tk) := by
 obtain ⟨hz, k, hk, hx⟩ := atL_some h
 obtain ⟨r, hr', hx'⟩ := hr.get hx
 exact tail_any (s := sh cx.T W tk) hl.typeIs slot_list_getitem.lookup (getItem_list_at hl (by rw [hr.size]; exact hk) (by rw [hr.size]; exact hz) (by rw [← Array.getElem?_toList]; exact hr') (hq _ hx')) (notSlice_sub hs _ _)
theorem idx_ok (hs : plainX slice = true) (hv : Rep W v d) (hu : Rep W u e) (h : idxF d e = some x) (hq : ∀ r tk, Rep W r x → Q r (sh cx.T W tk)) : wpX cx (subscriptTail value slice v u) Q E (sh cx.T W tk) := by
 obtain ⟨i, hi, h⟩ := bsm h
 obtain ⟨_, rfl⟩ := hu.ii hi
 rcases or_some h with h | h
 · rcases or_some h with h | h
   · obtain ⟨q, hx, h⟩ := bsm h
     obtain ⟨_, rfl⟩ := hv.ss hx
     obtain ⟨c, h', rfl⟩ := msm h
     obtain ⟨hz, k, hk, hc⟩ := atL_some h'
     have hf := at_fit hk hz
     refine tail_any (typeIs_str _ _ _) slot_str_getitem.lookup (getItem_str ?_ ?_ (hq _ _ .str)) (notSlice_sub hs _ _)
     · exact Bool.or_eq_false_iff.mpr ⟨dff (Int.not_lt.mpr hf.1), dff (Int.not_le.mpr hf.2)⟩
     · rw [len_cs, show seqIndex? i (cs q).length = some k from hk]
       exact (Array.getElem?_toList).symm.trans hc
   · obtain ⟨ys, hx, h⟩ := bsm h
     obtain ⟨l, vs, rfl, hl, _, hr⟩ := hv.ll hx
     exact idxL_ok hs hl hr h fun r => hq r tk
 · obtain ⟨ys, hx, h⟩ := bsm h
   obtain ⟨l, vs, rfl, hl, _, hr⟩ := hv.tt hx
   obtain ⟨hz, k, hk, hx⟩ := atL_some h
   obtain ⟨r, hr', hx'⟩ := hr.get hx
   have hf := at_fit hk hz
   exact tail_any (s := sh cx.T W tk) hl.typeIs slot_tuple_getitem.lookup (getItem_tuple hl hf.1 hf.2 (by rw [hr.size]; exact hk) (by rw [← Array.getElem?_toList]; exact hr') (hq _ tk hx')) (notSlice_sub hs _ _)
end
section
variable {prog : Program} {w : World} {A : Around} {E : VP} {s : Shared}
theorem adjust_upto (b n : Nat) (hb : b ≤ n) : Builtin.Slice.sliceAdjust none (some (b : Int)) 1 (n : Int) = (0, (b : Int)) := by
 unfold Builtin.Slice.sliceAdjust
 have h1 : ¬ ((1 : Int) < 0) := by lia
 have h2 : ¬ ((b : Int) < 0) := by lia
 simp only [h1, h2, if_false]
 congr 1
 lia
theorem places_upto (b : Nat) : Builtin.Slice.slicePlaces 0 (b : Int) 1 = b := by
 unfold Builtin.Slice.slicePlaces
 have h1 : (1 : Int) > 0 := by lia
 simp only [h1, if_true, Int.ediv_one]
 split <;> lia
theorem sliceApplied_upto {sl : Addr} {b n : Nat} {u : Tok} {Q : Int × Int × Nat → Shared → Prop} (hs : s.heap.IsSliceOf sl .none (.int b u) .none) (hb : b ≤ n) (h : Q (0, 1, b) s) :
  wpAny (model prog w) A (Builtin.Slice.sliceApplied (.ref sl) (pure (n : Int))) Q E s := by
 obtain ⟨os, hos, hcs, hds⟩ := id hs
 unfold Builtin.Slice.sliceApplied Builtin.Slice.sliceFields
 refine wpAny_bind (wpAny_bind (wpAny_field hos hds (x := .none) rfl (wpAny_bind (wpAny_field hos hds (x := .int b u) rfl (wpAny_bind (wpAny_field hos hds (x := .none) rfl (wpAny_pure ?_)))))))
 refine wpAny_bind (slicePart_none ?_)
 show wpAny _ _ (if ((1 : Int) == 0) = true then _ else _) _ _ s
 rw [if_neg (by decide)]
 refine wpAny_bind (slicePart_none (wpAny_bind (slicePart_int (wpAny_bind (wpAny_pure ?_)))))
 show wpAny _ _ (match Builtin.Slice.sliceAdjust none (some (b : Int)) 1 (n : Int) with | (lo, hi) => pure (lo, (1 : Int), Builtin.Slice.slicePlaces lo hi 1)) _ _ s
 rw [adjust_upto b n hb]
 show wpAny _ _ (pure ((0 : Int), (1 : Int), Builtin.Slice.slicePlaces (0 : Int) (b : Int) 1)) _ _ s
 rw [places_upto b]
 exact wpAny_pure h
theorem pick_upto (xs : Array Value) (b : Nat) (hb : b ≤ xs.size) : ((List.range b).filterMap fun (k : Nat) => xs[((0 : Int) + (k : Int) * 1).toNat]?).toArray = (xs.toList.take b).toArray := by
 have e : (fun (k : Nat) => xs[((0 : Int) + (k : Int) * 1).toNat]?) = fun k => xs[0 + k]? := by
  funext k
  have : ((0 : Int) + (k : Int) * 1).toNat = 0 + k := by lia
  rw [this]
 rw [e]
 have := pick_run xs 0 b
 rw [List.filterMap_map] at this
 have e2 : ((fun x => xs[x]?) ∘ fun x => 0 + x) = fun k => xs[0 + k]? := rfl
 rw [e2] at this
 rw [this, List.drop_zero]
theorem getItem_tuple_upto {t sl : Addr} {items : Array Value} {b : Nat} {u : Tok} {Q : VP} (ht : IsTup s.heap t items) (hs : s.heap.IsSliceOf sl .none (.int b u) .none) (hb : b < items.size)
  (h : Q (.ref s.heap.objs.size) { s with heap := s.heap.push { cls := .type "tuple", data := .seq (items.toList.take b).toArray } })
  (hsz : items.size ≤ sizeLine) : wpAny (model prog w) A (getItem (.ref t) (.ref sl)) Q E s := by
 have hdrop : sizeOk (.seq (items.toList.take b).toArray) := by
  show (items.toList.take b).toArray.size ≤ sizeLine
  rw [List.size_toArray, List.length_take, Array.length_toList]
  lia
 obtain ⟨os, hos, hcs, hds⟩ := id hs
 have hTs : s.TypeIs (.ref sl) "slice" := ⟨os, hos, hcs⟩
 unfold getItem
 try with_reducible refine wpAny_holding ?_
 first | refine wpAny_bind (wpAny_pure ?_) | skip
 refine wpAny_bind (wpAny_sequenceKey ht.typeIs (by decide) ?_)
 refine wpAny_bind (wpAny_callSpecial?_slot (name := Str.ofString "__getitem__") ht.typeIs slot_tuple_getitem
  (wpAny_call_entry slot_tuple_getitem ht.typeIs entry_tuple_getitem ?_ (args_tuple_getitem _ _)))
 show wpAny _ _ (Builtin.Tuple.tupleItemsOf (.ref t) >>= _) _ _ s
 refine wpAny_bind (tupleItemsOf_ ht ?_)
 refine wpAny_bind (wpAny_typeOf hTs ?_)
 rw [if_pos (by decide)]
 refine wpAny_bind (sliceApplied_upto hs (Nat.le_of_lt hb) ?_)
 have hno : ¬ (((0 : Int) == 0 && (1 : Int) == 1 && b == items.size) = true) := by
  have : (b == items.size) = false := by rw [beq_eq_false_iff_ne]; lia
  rw [this]; simp
 show wpAny _ _ (if ((0 : Int) == 0 && (1 : Int) == 1 && b == items.size) = true then _ else _) _ _ s
 rw [if_neg hno, pick_upto items b (Nat.le_of_lt hb)]
 first
  | exact wpAny_bind (m := Builtin.Tuple.tupleExact _) (wpAny_newObj_type (wpAny_pure ⟨_, rfl, wpAny_pure h⟩) hdrop)
  | exact wpAny_bind (m := Builtin.Tuple.tupleExact _) (wpAny_newObj_type (wpAny_bind (wpAny_pure (wpAny_pure ⟨_, rfl, wpAny_pure h⟩))) hdrop)
  | exact wpAny_bind (wpAny_bind (m := Builtin.Tuple.tupleExact _) (wpAny_newObj_type (wpAny_pure (wpAny_pure ⟨_, rfl, wpAny_pure h⟩)) hdrop))
  | exact wpAny_bind (wpAny_bind (m := Builtin.Tuple.tupleExact _) (wpAny_newObj_type (wpAny_pure ⟨_, rfl, wpAny_pure h⟩) hdrop))
end
theorem cut_same {α : Type} (l : List α) (a b : Nat) : (l.drop (min a l.length)).take (min b l.length - min a l.length) = (l.take b).drop a := by
 rw [List.drop_take]
 by_cases h : a ≤ l.length
 · rw [Nat.min_eq_left h]
   by_cases h' : b ≤ l.length
   · rw [Nat.min_eq_left h']
   · rw [Nat.min_eq_right (by lia)]
     rw [List.take_of_length_le (by simp), List.take_of_length_le (by simp; lia)]
 · have e1 : l.drop a = [] := List.drop_eq_nil_of_le (by lia)
   have e2 : l.drop (min a l.length) = [] := List.drop_eq_nil_of_le (by lia)
   rw [e1, e2]; simp
noncomputable def endsOk (lo hi : Option Int) (n a b : Nat) : Prop := (lo = none ∧ a = 0 ∨ lo = some (a : Int)) ∧ (hi = none ∧ b = n ∨ hi = some (b : Int))
noncomputable def clipO (v : Option Int) (d n : Int) : Int := match v with
 | none => d
 | some i => max 0 (min (if i < 0 then i + n else i) n)
theorem clip_one {v : Option Int} {n a d : Nat} (h : v = none ∧ a = d ∨ v = some (a : Int)) (hd : d ≤ n) : clipO v d n = ((min a n : Nat) : Int) := by
 unfold clipO
 rcases h with ⟨rfl, rfl⟩ | rfl
 · simp only; lia
 · have : ¬ ((a : Int) < 0) := by lia
   simp only [this, if_false]; lia
theorem slicePick_is (items : Array Value) {lo hi : Option Int} {a b : Nat} (h : endsOk lo hi items.size a b) : (slicePick items lo hi none).toList = (items.toList.take b).drop a := by
 have e : sliceBounds lo hi none items.size = (((min a items.size : Nat) : Int), ((min b items.size : Nat) : Int), 1) := by
  simp only [sliceBounds, Option.getD_none, show (1 : Int) > 0 by decide, if_true]
  have h1 := clip_one (n := items.size) h.1 (Nat.zero_le _)
  have h2 := clip_one (n := items.size) h.2 (Nat.le_refl _)
  rw [← h1, ← h2]
  cases lo <;> cases hi <;> rfl
 unfold slicePick
 rw [e]
 simp only [sliceRange_one, pick_run]
 rw [List.toList_toArray]
 have := cut_same items.toList a b
 rwa [Array.length_toList] at this
theorem slicePicked_is (x : Str) {l u : Option (Int × Tok)} {a b : Nat} (h : endsOk (l.map (·.1)) (u.map (·.1)) (cs x).length a b) : (slicePicked x l u none).filterMap (x.cps[·]?) = ((cs x).take b).drop a ∧ (slicePicked x l u none).length = (((cs x).take b).drop a).length := by
 have hn : x.length = (cs x).length := len_cs x
 have e : slicePicked x l u none = (List.range (min b (cs x).length - min a (cs x).length)).map (min a (cs x).length + ·) := by
  unfold slicePicked Builtin.Str.strSliceIndices
  simp only [Option.map_none, Option.getD_none, show (1 : Int) > 0 by decide, if_true]
  have h1 := clip_one (n := (cs x).length) h.1 (Nat.zero_le _)
  have h2 := clip_one (n := (cs x).length) h.2 (Nat.le_refl _)
  rw [← sliceRange_one, ← h1, ← h2, hn]
  cases l <;> cases u <;> rfl
 rw [e]
 have hp := pick_run x.cps (min a (cs x).length) (min b (cs x).length - min a (cs x).length)
 have hc := cut_same (cs x) a b
 refine ⟨hp.trans hc, ?_⟩
 rw [lmp, List.length_range, ← hc, List.length_take, List.length_drop]
 exact (Nat.min_eq_left (Nat.sub_le_sub_right (Nat.min_le_right ..) _)).symm
theorem isPart_of (p : Option (Int × Tok)) : IsPart (partValue p) (p.map (·.1)) := by
 cases p with
 | none => exact .none
 | some q => exact .int q.1 q.2
section
variable {cx : Cx} {cb : Bool} {T : List Value → Shared → Prop} {E : VP} {st : St} {W : Ws} {b tk : Nat} {d e : PyData} {v u v2 v3 : Value} {g : F} {value : Expr} {lo hi : Option PyData} {l r : Option Expr} {pos' : Pos} {n k : Nat}
noncomputable def RepO (W : Ws) (v : Value) : Option PyData → Prop
 | none => v = .none
 | some d => Rep W v d
theorem RepO.part {o : Option PyData} (h : RepO W v o) (hb : bnd o n = some k) : ∃ p : Option (Int × Tok), v = partValue p ∧ (p.map (·.1) = none ∧ k = n ∨ p.map (·.1) = some (k : Int)) := by
 cases o with
 | none => cases hb; exact ⟨none, h, .inl ⟨rfl, rfl⟩⟩
 | some d =>
  obtain ⟨i, hi, hb⟩ := bsm hb
  obtain ⟨h0, rfl⟩ := gd_some hb
  obtain ⟨t, rfl⟩ := Rep.ii hi h
  have e := Int.toNat_of_nonneg (odt h0).1
  exact ⟨some (i, t), rfl, .inr (by rw [e]; rfl)⟩
theorem cutL_some {α : Type} {xs ys : List α} (h : cutL xs lo hi = some ys) : okLen xs.length = true ∧ ∃ a b, bnd lo 0 = some a ∧ bnd hi xs.length = some b ∧ ys = (xs.take b).drop a := by
 obtain ⟨n, hn, h⟩ := bsm h
 obtain ⟨hz, rfl⟩ := gd_some hn
 obtain ⟨a, ha, h⟩ := bsm h
 obtain ⟨b, hb, rfl⟩ := msm h
 exact ⟨hz, a, b, ha, hb, rfl⟩
theorem slc_ok (S : Sim cx st W) (hv : Rep W v d) (h2 : RepO W v2 lo) (h3 : RepO W v3 hi) (h : slF d lo hi = some g) (H : Post cx b cb (RepL cx) W T E (.ok [g] st)) :
  wpX cx (subscriptTail value (.Slice l r none pos') v (.ref W.h.objs.size)) (fun v s => T [v] s) E { (sh cx.T W tk) with heap := W.h.push { cls := .type "slice", data := .fields #[v2, v3, .none] } } := by
 have hsl : ∀ o i, subscripted (.Slice l r none pos') false o i = operate [i, o] (getItem o i) := fun _ _ => rfl
 obtain ⟨l1, S1, z1⟩ := S.new (b := b) (cb := cb) (o := { cls := .type "slice", data := .fields #[v2, v3, .none] }) .junk rfl rfl
 have H1 := H.to l1
 have hobj : (W.h.push { cls := .type "slice", data := .fields #[v2, v3, .none] }).get? W.h.objs.size = some { cls := .type "slice", data := .fields #[v2, v3, .none] } := Heap.get?_push_size _ rfl
 have hv := hv.mono z1
 generalize hW : (⟨W.t.put W.h.objs.size .junk, W.h.push { cls := .type "slice", data := .fields #[v2, v3, .none] }⟩ : Ws) = W1 at S1 H1 hv
 have hh : W1.h = W.h.push { cls := .type "slice", data := .fields #[v2, v3, .none] } := by rw [← hW]
 rw [← hh] at hobj
 show wpAny _ _ _ _ _ (sh cx.T ⟨W1.t, W.h.push _⟩ tk)
 rw [← hh]
 show wpAny _ _ _ _ _ (sh cx.T W1 tk)
 rcases or_some h with h | h
 · obtain ⟨xs, hx, h⟩ := bsm h
   obtain ⟨_, hlo, h⟩ := bsm h
   obtain ⟨e, he, h⟩ := bsm h
   obtain ⟨i, hi', h⟩ := bsm h
   obtain ⟨hq, rfl⟩ := gd_some h
   obtain ⟨hz, hi1⟩ := and2 hq
   obtain ⟨h0, h1⟩ := odt hi1
   cases show lo = none from Option.isNone_iff_eq_none.mp (gd_some hlo).1
   cases he
   cases show v2 = .none from h2
   obtain ⟨u, rfl⟩ := Rep.ii hi' h3
   obtain ⟨ta, vs, rfl, ht, _, hr⟩ := hv.tt hx
   obtain ⟨k, rfl⟩ : ∃ k : Nat, i = k := ⟨i.toNat, (Int.toNat_of_nonneg h0).symm⟩
   exact tail_any (s := sh cx.T W1 tk) ht.typeIs slot_tuple_getitem.lookup (getItem_tuple_upto ht ⟨_, hobj, rfl, rfl⟩ (by rw [hr.size]; lia) (newT_ok H1 S1 (hr.take k)) (by rw [hr.size]; exact okLen_le hz)) (hsl _ _)
 rcases or_some h with h | h
 · obtain ⟨q, hq, h⟩ := bsm h
   obtain ⟨ys, hy, rfl⟩ := msm h
   obtain ⟨t, rfl⟩ := hv.ss hq
   obtain ⟨hz, a, b', ha, hb, rfl⟩ := cutL_some hy
   obtain ⟨q1, rfl, hq1⟩ := h2.part ha
   obtain ⟨q2, rfl, hq2⟩ := h3.part hb
   have hp := slicePicked_is q (l := q1) (u := q2) (a := a) (b := b') ⟨hq1, hq2⟩
   refine tail_any (typeIs_str _ _ _) slot_str_getitem.lookup (wpAny_getItem_str_slice (l := q1) (u := q2) (st := none) ⟨_, hobj, rfl, rfl⟩ rfl ?_) (hsl _ _)
   have hlen : (((cs q).take b').drop a).length ≤ (cs q).length := by rw [List.length_drop, List.length_take]; lia
   unfold sliceMade
   split
   · rename_i hw
     simp only [Option.map_none, Option.getD_none, beq_self_eq_true, Bool.true_and, beq_iff_eq] at hw
     rw [hp.2, len_cs] at hw
     have hsub : (((cs q).take b').drop a).Sublist (cs q) := (List.drop_sublist _ _).trans (List.take_sublist _ _)
     rw [hsub.eq_of_length hw, S_cs] at H1
     exact val_ok H1 S1 .str
   · refine ⟨?_, ?_⟩
     · show (((slicePicked q q1 q2 none).filterMap (q.cps[·]?)).toArray).size ≤ sizeLine
       rw [hp.1, List.size_toArray]; exact nlt hlen (okLen_le hz)
     · rw [hp.1]; exact val_ok H1 S1 .str
 · obtain ⟨xs, hx, h⟩ := bsm h
   obtain ⟨ys, hy, rfl⟩ := msm h
   obtain ⟨la, vs, rfl, hl, _, hr⟩ := hv.ll hx
   obtain ⟨hz, a, b', ha, hb, rfl⟩ := cutL_some hy
   obtain ⟨q1, rfl, hq1⟩ := h2.part ha
   obtain ⟨q2, rfl, hq2⟩ := h3.part hb
   have hp := slicePick_is vs (lo := q1.map (·.1)) (hi := q2.map (·.1)) (a := a) (b := b') ⟨hq1, by rw [hr.size]; exact hq2⟩
   exact tail_any (s := sh cx.T W1 tk) hl.typeIs slot_list_getitem.lookup (wpAny_getItem_list_slice hl ⟨_, hobj, rfl, rfl⟩ (isPart_of q1) (isPart_of q2) .none (by intro e; cases e) (newL_ok H1 S1 (by rw [hp]; exact (hr.take b').drop a)) (by rw [hr.size]; exact okLen_le hz)) (hsl _ _)
end
section
variable {cx : Cx} {cb : Bool} {T : List Value → Shared → Prop} {Q : VP} {E : VP} {st : St} {W : Ws} {b tk : Nat} {d e : PyData} {v u : Value} {g : F} {n : Nat} {vs : Array Value} {xs : List PyData} {a : Addr}
theorem lenL_ok (hl : W.h.IsList a vs) (hr : RepAll W vs.toList xs) (h : lenL xs = some n) (hq : ∀ t tk, Q (.int n t) (sh cx.T W tk)) : wpX cx (call (.builtin "len") [.ref a]) Q E (sh cx.T W tk) := by
 obtain ⟨hz, rfl⟩ := gd_some h
 have := okLen_le hz; rw [sizeLine_eq] at this
 refine len_list (s := sh cx.T W tk) hl (by rw [hr.size]; lia) ?_
 rw [hr.size]; exact hq _ _
theorem len_ok (hv : Rep W v d) (h : lenF d = some n) (hq : ∀ t tk, Q (.int n t) (sh cx.T W tk)) : wpX cx (call (.builtin "len") [v]) Q E (sh cx.T W tk) := by
 rcases or_some h with h | h
 · rcases or_some h with h | h
   · obtain ⟨q, hx, h⟩ := bsm h
     obtain ⟨_, rfl⟩ := hv.ss hx
     obtain ⟨hz, rfl⟩ := gd_some h
     have := okLen_le hz; rw [sizeLine_eq] at this
     refine len_str (by rw [len_cs]; lia) ?_
     rw [len_cs]; exact hq _ _
   · obtain ⟨q, hx, h⟩ := bsm h
     obtain ⟨l, vs, rfl, hl, _, hr⟩ := hv.ll hx
     exact lenL_ok hl hr h hq
 · obtain ⟨q, hx, h⟩ := bsm h
   obtain ⟨l, vs, rfl, hl, _, hr⟩ := hv.tt hx
   obtain ⟨hz, rfl⟩ := gd_some h
   have := okLen_le hz; rw [sizeLine_eq] at this
   refine len_tuple (s := sh cx.T W tk) hl (by rw [hr.size]; lia) ?_
   rw [hr.size]; exact hq _ _
theorem ord_ok (S : Sim cx st W) (hv : Rep W v d) (h : ordF d = some g) (H : Post cx b cb (RepL cx) W T E (.ok [g] st)) : wpX cx (call (.builtin "ord") [v]) (fun r s => T [r] s) E (sh cx.T W tk) := by
 obtain ⟨q, hx, h⟩ := bsm h
 obtain ⟨_, rfl⟩ := hv.ss hx
 obtain ⟨c, hc, rfl⟩ := msm h
 have hc := one_eq hc
 refine ord_of_one (by rw [len_cs, hc]; rfl) ?_
 have hq : q = Mine.Internal.S [c] := by rw [← hc, S_cs]
 subst hq
 exact val_ok H S .int
theorem abs_ok (S : Sim cx st W) (hv : Rep W v d) (h : absF d = some g) (H : Post cx b cb (RepL cx) W T E (.ok [g] st)) : wpX cx (call (.builtin "abs") [v]) (fun r s => T [r] s) E (sh cx.T W tk) := by
 obtain ⟨i, hi, rfl⟩ := msm h
 obtain ⟨_, rfl⟩ := hv.ii hi
 refine call_abs_int fun u tk => ?_
 have hi : (if i < 0 then -i else i) = (i.natAbs : Int) := by split <;> lia
 rw [hi]
 exact val_ok H S .int
theorem toInt_ok (S : Sim cx st W) (hv : Rep W v d) (h : toIntF d = some g) (H : Post cx b cb (RepL cx) W T E (.ok [g] st)) : wpX cx (call (.type "int") [v]) (fun r s => T [r] s) E (sh cx.T W tk) := by
 obtain ⟨i, hi, rfl⟩ := msm h
 cases asB_eq hi
 cases hv.inv
 exact call_int_bool (val_ok H S .int)
theorem listL_ok (S : Sim cx st W) (hl : W.h.IsList a vs) (hr : RepAll W vs.toList xs) (hz : okLen xs.length = true) (H : Post cx b cb (RepL cx) W T E (.ok [.own xs] st)) : wpX cx (call (.type "list") [.ref a]) (fun r s => T [r] s) E (sh cx.T W tk) := by
 obtain ⟨o, ho, hc, n, hd⟩ := hl
 refine call_list_seq (s := sh cx.T W tk) a (.inl rfl) ho hc hd (fun h' c' hk hD => ?_) (by rw [hr.size]; exact okLen_le hz)
 have g := dead_at W.h (Nat.le_refl W.h.objs.size)
 have q := S.ok.dead _ g
 have B : But W.h.objs.size W ⟨W.t.put W.h.objs.size (.own cx.d 0), h'⟩ := .same (fun b o _ e => hk b o e) _
 exact one_ok (W' := ⟨W.t.put W.h.objs.size (.own cx.d 0), h'⟩) H (B.le (.dead g) (put_ni rfl)) (S.but B (by rw [q]; rfl) (by rw [q]; rfl) (fun i => by rw [q]; intro e; cases e) (fun e => nomatch hD.symm.trans e) (put_ni rfl)) ⟨_, vs, rfl, ⟨c', hD⟩, Tags.put_self .., hr.mono (B.fz (by rw [q]; intro e; cases e))⟩
noncomputable def tyStr : Ty → String
 | .str => "str"
 | .int => "int"
 | .bool => "bool"
 | .list => "list"
 | .tuple => "tuple"
theorem isi_ok {t : Ty} (hd : (d.ctorIdx != 6) = true) (hv : Rep W v d) (hok : ∀ tk, Q (.bool (isF d t)) (sh cx.T W tk)) : wpX cx (call (.builtin "isinstance") [v, .type (tyStr t)]) Q E (sh cx.T W tk) := by
 obtain ⟨as, r⟩ := hv.reads
 cases r with
 | none => cases t <;> first | exact IsiPair.NoneType_str (hok _) | exact IsiPair.NoneType_int (hok _) | exact IsiPair.NoneType_bool (hok _) | exact IsiPair.NoneType_list (hok _) | exact IsiPair.NoneType_tuple (hok _)
 | bool b => cases t <;> first | exact IsiPair.bool_str (hok _) | exact IsiPair.bool_int (hok tk) | exact IsiPair.bool_bool (hok tk) | exact IsiPair.bool_list (hok _) | exact IsiPair.bool_tuple (hok _)
 | int i u => cases t <;> first | exact IsiPair.int_str (hok _) | exact IsiPair.int_int (hok tk) | exact IsiPair.int_bool (hok _) | exact IsiPair.int_list (hok _) | exact IsiPair.int_tuple (hok _)
 | str x u => cases t <;> first | exact IsiPair.str_str (hok tk) | exact IsiPair.str_int (hok _) | exact IsiPair.str_bool (hok _) | exact IsiPair.str_list (hok _) | exact IsiPair.str_tuple (hok _)
 | list e' c d r => cases t <;> first | exact IsiPair.list_str e' c (hok _) | exact IsiPair.list_int e' c (hok _) | exact IsiPair.list_bool e' c (hok _) | exact IsiPair.list_list e' c (hok tk) | exact IsiPair.list_tuple e' c (hok _)
 | tuple e' c d r => cases t <;> first | exact IsiPair.tuple_str e' c (hok _) | exact IsiPair.tuple_int e' c (hok _) | exact IsiPair.tuple_bool e' c (hok _) | exact IsiPair.tuple_list e' c (hok _) | exact IsiPair.tuple_tuple e' c (hok tk)
 | dict => cases hd
end
theorem recv_base {v : Expr} {name : Str} {env : Env} (h : plainR v = true) : attributeBase v name env (eval v env) = eval v env := by
 cases v <;> first | rfl | cases h
theorem find_is (x : Str) (c : Nat) : Txt.find x (S [c]) = findF (cs x) c := by
 unfold findF
 have hone : ∀ i, (StrLaws.At x (S [c]) x.length i) ↔ (cs x)[i]? = some c := fun i => StrLaws.subAt_one x c i
 unfold Txt.find
 rcases StrLaws.occ_head x (S [c]) 1 (Nat.le_refl _) with ⟨e, hn⟩ | ⟨i, r, e, hi, hn⟩
 · rw [e]
   have : (cs x).findIdx? (· == c) = none := by
    rw [List.findIdx?_eq_none_iff]
    intro y hy
    obtain ⟨j, hj, rfl⟩ := List.mem_iff_getElem.mp hy
    have := hn j
    rw [hone] at this
    simp only [beq_eq_false_iff_ne, ne_eq]
    intro q
    exact this (by rw [geg hj, q])
   rw [this]
 · rw [e]
   have h1 := (hone i).mp hi
   have hlt : i < (cs x).length := (gsm h1).1
   have : (cs x).findIdx? (· == c) = some i := by
    rw [List.findIdx?_eq_some_iff_getElem]
    refine ⟨hlt, ?_, fun j hj => ?_⟩
    · have := (gsm h1).2
      simp [this]
    · have h2 := hn j hj
      rw [hone] at h2
      simp only [Bool.not_eq_true, beq_eq_false_iff_ne, ne_eq]
      intro q
      exact h2 (by rw [geg (by lia), q])
   rw [this]
noncomputable def joinNL : LL → List Nat
 | [] => []
 | [x] => x
 | x :: y :: r => x ++ 10 :: joinNL (y :: r)
theorem joinNL_1 {x : List Nat} : joinNL [x] = x := rfl
theorem joinNL_c {x y : List Nat} {r : LL} : joinNL (x :: y :: r) = x ++ 10 :: joinNL (y :: r) := rfl
theorem splitNL_free : ∀ (p : List Nat), 10 ∉ p → splitNL p = [p]
 | [], _ => rfl
 | c :: r, h => by
  have hc : c ≠ 10 := fun e => h (by simp [e])
  have hr : 10 ∉ r := fun e => h (by simp [e])
  rw [splitNL_c, if_neg hc, splitNL_free r hr]
theorem splitNL_cat : ∀ (p q : List Nat), 10 ∉ p → splitNL (p ++ 10 :: q) = p :: splitNL q
 | [], q, _ => rfl
 | c :: r, q, h => by
  have hc : c ≠ 10 := fun e => h (by simp [e])
  have hr : 10 ∉ r := fun e => h (by simp [e])
  rw [List.cons_append, splitNL_c, if_neg hc, splitNL_cat r q hr]
theorem splitNL_join : ∀ (ps : LL), ps ≠ [] → (∀ p ∈ ps, 10 ∉ p) → splitNL (joinNL ps) = ps
 | [], h, _ => absurd rfl h
 | [x], _, h => by rw [joinNL_1, splitNL_free x (h x (by simp))]
 | x :: y :: r, _, h => by
  rw [joinNL_c, splitNL_cat x _ (h x (by simp)), splitNL_join (y :: r) (by simp) fun p hp => h p (by simp [hp])]
theorem splitNL_len : ∀ (l : List Nat), (splitNL l).length ≤ l.length + 1
 | [] => by simp [splitNL_n]
 | c :: r => by
  have ih := splitNL_len r
  rw [splitNL_c]
  split
  · simp; lia
  · split
    · rename_i e; rw [e] at ih; simp at ih ⊢; lia
    · simp
theorem join_cs : ∀ (ps : List Str), cs (Str.join (S [10]) ps) = joinNL (ps.map cs)
 | [] => rfl
 | [x] => rfl
 | x :: y :: r => by
  show cs (x ++ S [10] ++ Str.join (S [10]) (y :: r)) = _
  rw [cs_append, cs_S, cs_append, cs_S, join_cs (y :: r)]
  simp [joinNL_c, cs_S]
theorem split_is (x : Str) : (Txt.split x (S [10])).map cs = splitNL (cs x) := by
 have h1 := StrLaws.join_split x (S [10])
 have h2 := StrLaws.split_free x 10
 have hne : Txt.split x (S [10]) ≠ [] := by
  unfold Txt.split
  split
  · simp
  · split
    · simp
    · unfold Builtin.Str.partsBetween
      simp
 have h3 := join_cs (Txt.split x (S [10]))
 rw [h1] at h3
 rw [h3, splitNL_join]
 · simpa using hne
 · intro p hp
   obtain ⟨q, hq, rfl⟩ := List.mem_map.mp hp
   exact h2 q hq
theorem glued_nil (l : List Str) : cs (Builtin.Str.glued (S []) l) = (l.map cs).flatten := by
 unfold Builtin.Str.glued
 have key : ∀ (r : List Str) (a : Array Nat), (r.foldl (fun acc p => acc ++ (S []).cps ++ p.cps) a).toList = a.toList ++ (r.map cs).flatten := by
  intro r
  induction r with
  | nil => intro a; simp
  | cons p r ih =>
   intro a
   rw [List.foldl_cons, ih]
   simp [S, cs]
 cases l with
 | nil => rfl
 | cons p r =>
  refine (key r p.cps).trans ?_
  simp [cs]
theorem joinLen (l : List Str) (n : Nat) : l.foldl (fun a p => a + p.length + (S []).length) n = n + (l.map cs).flatten.length := by
 induction l generalizing n with
 | nil => simp
 | cons p r ih =>
  rw [List.foldl_cons, ih, len_cs p]
  simp [S, Str.length]; lia
theorem split_raw {prog : Program} {w : World} {A : Around} {E : VP} {s : Shared} {x : Str} {t u : Tok} {pos : Pos} {k : Nat} {kp : Pos} {env : Env} {y : Str} {Q : VP} (hy : y = S [10]) (hx : x.length + 1 ≤ sizeLine)
  (h : ∀ (l : List (Str × Tok)) n tk, l.map (·.1) = Txt.split x (S [10]) → Q (.ref s.heap.objs.size) { s with toks := tk, heap := s.heap.push { cls := .type "list", data := .seq (strValues l).toArray n } }) :
  MethodOnS prog w A E "split" (.str x t) pos [(false, eval (.Constant (.str y) k kp) env)] Q s := by
 subst hy
 refine ⟨"str", _, PySem.F.plainAttrs_str, PySem.F.slot_str_split, PySem.F.type_str_split, typeIs_str _ _ _, (fun _ e => nomatch e),
  method1_meets PySem.F.slot_str_split PySem.F.entry_str_split (wpAny_Constant_str ?_)⟩
 refine ⟨typeIs_str _ _ _, PySem.F.args_str_split_2 _ _, ?_⟩
 have hlen : ((S [10]).length == 0) = false := by decide
 cases h1 : (decide (x.length < (S [10]).length) || decide (Builtin.Str.strKind x < Builtin.Str.strKind (S [10])))
 · cases hf : (Builtin.Str.occurrences x (S [10]) 0 x.length (x.length + 1)).isEmpty
   · have hsp : Txt.split x (S [10]) = Builtin.Str.partsBetween x (Builtin.Str.occurrences x (S [10]) 0 x.length (x.length + 1)) (S [10]).length := (if_neg (ne_true_of_eq_false h1)).trans (if_neg (ne_true_of_eq_false hf))
     have hcount : (Builtin.Str.partsBetween x (Builtin.Str.occurrences x (S [10]) 0 x.length (x.length + 1)) (S [10]).length).length ≤ sizeLine := by
      rw [← hsp, ← lmp (f := cs), split_is]
      have := splitNL_len (cs x)
      rw [len_cs] at hx; lia
     refine ⟨_, meets_str_split_sep x _ t _ h1 hlen hf (by lia) hcount, ?_⟩
     show wants Q E _ { s with toks := _, heap := s.heap.push { cls := .type "list", data := .seq (strsFrom _ (Builtin.Str.partsBetween x (Builtin.Str.occurrences x (S [10]) 0 x.length (x.length + 1)) (S [10]).length)).toArray } }
     rw [strsFrom_eq]
     exact h _ _ _ ((numbered_texts _ _).trans ((if_neg (ne_true_of_eq_false h1)).trans (if_neg (ne_true_of_eq_false hf))).symm)
   · exact ⟨_, meets_str_split_not_found x _ t _ h1 hlen hf, h [(x, t)] _ _ ((if_neg (ne_true_of_eq_false h1)).trans (if_pos hf)).symm⟩
 · exact ⟨_, meets_str_split_cannot_occur x _ t _ h1, h [(x, t)] _ _ (if_pos h1).symm⟩
theorem star_cons {e : Expr} {rest : List Expr} {env : Env} (h : plainX e = true) : starEach (e :: rest) env = (false, eval e env) :: starEach rest env := by
 cases e <;> first | rfl | cases h
section
variable {cx : Cx} {cb : Bool} {T : List Value → Shared → Prop} {E : VP} {st : St} {W : Ws} {b tk : Nat} {d e : PyData} {v u : Value} {g : F} {pos : Pos} {s : Shared}
theorem repAll_strs (l : List (Str × Tok)) : RepAll W (strValues l) (l.map fun p => .str p.1) := by
 induction l with
 | nil => exact .nil
 | cons p r ih => exact .cons .str ih
theorem strs_of {vs : List Value} {xs : List PyData} {ls : LL} (r : RepAll W vs xs) (h : strsF xs = some ls) : ∃ l : List (Str × Tok), vs = strValues l ∧ l.map (fun p => cs p.1) = ls := by
 induction xs generalizing vs ls with
 | nil => cases h; exact ⟨[], r.inv0, rfl⟩
 | cons d xs ih =>
  obtain ⟨v, vs', rfl, r1, r2⟩ := r.inv
  obtain ⟨x, hx, h⟩ := bsm h
  obtain ⟨l, hl, rfl⟩ := msm h
  obtain ⟨t, rfl⟩ := r1.ss hx
  obtain ⟨q, rfl, rfl⟩ := ih r2 hl
  exact ⟨(x, t) :: q, rfl, rfl⟩
theorem split_ok {yy : Str} {k : Nat} {kp : Pos} {env : Env} (hy : cLit (.str (S [10])) (.str yy) = true) (S : Sim cx st W) (hv : Rep W v d) (h : splitF d = some g) (H : Post cx b cb (RepL cx) W T E (.ok [g] st)) :
  MethodOnS cx.T.prog cx.T.w cx.A E "split" v pos [(false, eval (.Constant (.str yy) k kp) env)] (fun r s => T [r] s) (sh cx.T W tk) := by
 obtain ⟨q, hq, h⟩ := bsm h
 obtain ⟨_, rfl⟩ := hv.ss hq
 obtain ⟨hz, rfl⟩ := gd_some h
 refine split_raw (u := 0) (by injection eq_of_beq hy) (by rw [len_cs]; exact okLen_le hz) fun l n tk' hl => ?_
 have hx : (splitNL (cs q)).map (fun l => PyData.str (Mine.Internal.S l)) = l.map fun p => .str p.1 := by
  rw [← split_is, ← hl, List.map_map, List.map_map]; rfl
 rw [hx] at H
 exact newL_ok (tk := tk') H S (repAll_strs l)
theorem find_ok (hv : Rep W v d) {x : Sem Value} (hs : ∀ q, asS d = some q → wpX cx x (fun u s => ∃ W tk e g st, s = sh cx.T W tk ∧ Sim cx st W ∧ Rep W u e ∧ findsF d e = some g ∧ Post cx b cb (RepL cx) W T E (.ok [g] st)) E (sh cx.T W tk)) (hd : (asS d).isSome = true) :
  MethodOnS cx.T.prog cx.T.w cx.A E "find" v pos [(false, x)] (fun r s => T [r] s) (sh cx.T W tk) := by
 obtain ⟨q, hq⟩ := ise hd
 obtain ⟨_, rfl⟩ := hv.ss hq
 refine SB.find (wpAny_mono (hs q hq) (fun u s h => ?_) fun _ _ x => x)
 obtain ⟨W, tk, e, g, st, rfl, S, hu, h, H⟩ := h
 obtain ⟨q', t, hq', ht, h⟩ := op2_some h
 cases hq.symm.trans hq'
 obtain ⟨_, rfl⟩ := hu.ss ht
 obtain ⟨c, hc, h⟩ := bsm h
 obtain ⟨_, rfl⟩ := gd_some h
 refine ⟨t, _, rfl, ?_⟩
 have ht : t = Mine.Internal.S [c] := by rw [← one_eq hc, S_cs]
 rw [ht, find_is]
 exact val_ok H S .int
theorem join_ok (hv : Rep W v d) {x : Sem Value} (hs : ∀ q, asS d = some q → wpX cx x (fun u s => ∃ W tk e g st, s = sh cx.T W tk ∧ Sim cx st W ∧ Rep W u e ∧ joinF d e = some g ∧ Post cx b cb (RepL cx) W T E (.ok [g] st)) E (sh cx.T W tk)) (hd : (asS d).isSome = true) :
  MethodOnS cx.T.prog cx.T.w cx.A E "join" v pos [(false, x)] (fun r s => T [r] s) (sh cx.T W tk) := by
 obtain ⟨q, hq⟩ := ise hd
 obtain ⟨_, rfl⟩ := hv.ss hq
 refine SB.join (wpAny_mono (hs q hq) (fun u s h => ?_) fun _ _ x => x)
 obtain ⟨W, tk, e, g, st, rfl, S, hu, h, H⟩ := h
 obtain ⟨q', hq', h⟩ := bsm h
 cases hq.symm.trans hq'
 obtain ⟨xs, hx, h⟩ := bsm h
 obtain ⟨ls, hls, h⟩ := bsm h
 obtain ⟨hz, rfl⟩ := gd_some h
 obtain ⟨hz1, hz⟩ := and2 hz
 obtain ⟨la, vs, rfl, hl, _, hr⟩ := hu.ll hx
 obtain ⟨l, hv, hl2⟩ := strs_of hr hls
 have hvs : vs = (strValues l).toArray := by rw [← hv]
 have hq' : q = Mine.Internal.S [] := by rw [← lem hz1, S_cs]
 have e2 : (List.map (cs ∘ fun x => x.fst) l) = ls := hl2
 refine ⟨la, l, rfl, hvs ▸ hl, l.map (·.1), rfl, ?_, fun t' k => ?_⟩
 · unfold JoinOk Builtin.Str.tooLong
   rw [List.foldl_toArray', hq', joinLen]
   simp only [Nat.zero_add, List.map_map]
   rw [e2]
   simp only [gt_iff_lt, Bool.not_eq_true', decide_eq_false_iff_not, Nat.not_lt]
   exact okLen_le hz
   rfl
 · have hj : Txt.join q (l.map (·.1)) = Mine.Internal.S ls.flatten := by
    unfold Txt.join
    rw [hq', ← S_cs (Builtin.Str.glued _ _), glued_nil, List.map_map, e2]
   rw [hj]
   exact val_ok H S .str
end
section
variable {cx : Cx} {cb : Bool} {T : List Value → Shared → Prop} {Q : VP} {E : VP} {st : St} {W : Ws} {tk : Nat} {d : PyData} {v u fv : Value} {g : F} {pos : Pos} {s : Shared} {e : Expr} {es : List Expr} {z y : Str} {o : Op}
theorem seq_spliced (hp : es.all plainX = true) (h : seqW cx E es T s) : wpX cx (spliced (backTo pos (starEach es cx.env))) T E s := by
 induction es generalizing T s with
 | nil => exact spliced_nil h
 | cons e es ih =>
  obtain ⟨h1, h2⟩ := and2 hp
  rw [star_cons h1]
  exact spliced_cons (wpAny_mono h (fun v s' h' => ih h2 h') fun _ _ x => x)
theorem args_any (hp : es.all plainX = true) : (backTo pos (starEach es cx.env)).any (·.1) = false := by
 induction es with
 | nil => rfl
 | cons e es ih =>
  obtain ⟨h1, h2⟩ := and2 hp
  rw [star_cons h1]
  exact ih h2
theorem args_cons (hp : es.all plainX = true) (h0 : es.isEmpty = false) : ∃ x r, backTo pos (starEach es cx.env) = (false, x) :: r := by
 cases es with
 | nil => cases h0
 | cons e es => rw [star_cons (and2 hp).1]; exact ⟨_, _, rfl⟩
theorem call1_some {kd : Kd} (h : call1 kd y e = some es) : ∃ f pf p, e = .Call (.Name f pf) es [] p ∧ isGl kd f y = true ∧ es.all plainX = true ∧ es.isEmpty = false := by
 obtain ⟨v, h1, h⟩ := bsm h
 obtain ⟨f, h2, h⟩ := bsm h
 obtain ⟨h3, rfl⟩ := gd_some h
 obtain ⟨h3, h4⟩ := and2 h3
 obtain ⟨h3, h5⟩ := and2 h3
 obtain ⟨h3, h6⟩ := and2 h3
 obtain ⟨pf, h2⟩ := asName_eq h2
 have h1 := asCall_eq h1
 rw [h2, lem h3] at h1
 exact ⟨f, pf, _, h1, h6, h5, by simpa using h4⟩
theorem meth1_some {r : Expr} (h : meth1 y e = some (r, es)) : ∃ ap p, e = .Call (.Attribute r y ap) es [] p ∧ (ap.endLine == p.line) = true ∧ es.all plainX = true := by
 obtain ⟨v, h1, h⟩ := bsm h
 obtain ⟨w, h2, h⟩ := bsm h
 obtain ⟨h3, h⟩ := gd_some h
 obtain ⟨h3, h4⟩ := and2 h3
 obtain ⟨h3, h5⟩ := and2 h3
 obtain ⟨h3, h6⟩ := and2 h3
 cases h
 have h1 := asCall_eq h1
 rw [asAttr_eq h2, lem h3, eq_of_beq h6] at h1
 exact ⟨_, _, h1, h5, h4⟩
theorem bi_call (TO : cx.T.Ok) (C : cx.Ok cb) (S : Sim cx st W) (hp : call1 cx.env.scope.names y e = some es) (hb : biTab.lookup y = some fv) (hfv : (∃ id, fv = .builtin id) ∨ ∃ T, fv = .type T)
  (h : seqW cx E es (fun vs s => wpX cx (call fv vs) Q E s) (sh cx.T W tk)) : wpX cx (eval e cx.env) Q E (sh cx.T W tk) := by
 obtain ⟨f, pf, p, rfl, hg, hx, h0⟩ := call1_some hp
 refine Call_Name rfl (load_bi TO C S hg hb ?_)
 have h1 := seq_spliced (pos := p) hx h
 have h2 := args_any (cx := cx) (pos := p) hx
 obtain ⟨x, r, h3⟩ := args_cons (cx := cx) (pos := p) hx h0
 rw [h3] at h1 h2 ⊢
 rcases hfv with ⟨id, rfl⟩ | ⟨T, rfl⟩
 · exact callWith_builtin h2 (evalArgs_plain h1)
 · exact PyProof.Rows.callWith_type h2 (evalArgs_plain h1)
theorem call11_some {kd : Kd} (h : call11 kd y e = some es) : ∃ x, es = [x] ∧ call1 kd y e = some es := by
 obtain ⟨l, h1, h⟩ := bsm h
 obtain ⟨h2, rfl⟩ := gd_some h
 obtain ⟨x, h2⟩ := ise h2
 exact ⟨x, one_eq h2, h1⟩
theorem un_call {f : PyData → Option F} (TO : cx.T.Ok) (C : cx.Ok cb) (S : Sim cx st W) (hp : call11 cx.env.scope.names y e = some es) (hb : biTab.lookup y = some fv) (hfv : (∃ id, fv = .builtin id) ∨ ∃ T, fv = .type T) (ho : ∀ ds, opF o ds = un f ds)
  (k : ∀ st W tk x v g, Sim cx st W → Rep W v x → f x = some g → Post cx (cx.d + 1) cb (RepL cx) W T E (.ok [g] st) → wpX cx (call fv [v]) (fun r s => T [r] s) E (sh cx.T W tk))
  (h : seqW cx E es (OpT cx cb T E o) (sh cx.T W tk)) : wpX cx (eval e cx.env) (fun v s => T [v] s) E (sh cx.T W tk) := by
 obtain ⟨x, rfl, hp⟩ := call11_some hp
 exact bi_call TO C S hp hb hfv (wpAny_mono h (fun v s h' => OpT.un (K := fun v s => wpX cx (call fv [v]) (fun r s => T [r] s) E s) h' ho k) fun _ _ x => x)
theorem slc_wp {l u : Bool} (S : Sim cx st W) (hp : pat cx.env.scope.names (.slc l u) e = some es) (h : seqW cx E es (OpT cx cb T E (.slc l u)) (sh cx.T W tk)) : wpX cx (eval e cx.env) (fun v s => T [v] s) E (sh cx.T W tk) := by
 obtain ⟨v, h1, hp⟩ := bsm hp
 obtain ⟨w, h2, hp⟩ := bsm hp
 obtain ⟨h3, rfl⟩ := gd_some hp
 obtain ⟨p, rfl⟩ := asSub_eq h1
 obtain ⟨p', h2⟩ := asSlice_eq h2
 obtain ⟨x, i⟩ := v
 obtain ⟨lo, hi, st'⟩ := w
 dsimp only at h2 h3 h ⊢
 subst h2
 obtain ⟨h3, h4⟩ := and2 h3
 obtain ⟨h3, h5⟩ := and2 h3
 cases st' with
 | some _ => cases h3
 | none =>
 have fin : ∀ {vs : List Value} {s : Shared} {v v2 v3 : Value}, OpT cx cb T E (.slc l u) vs s → vs = v :: ((if l then [v2] else []) ++ (if u then [v3] else [])) → (l = false → v2 = .none) → (u = false → v3 = .none) →
   wpX cx (subscriptTail x (.Slice lo hi none p') v (.ref s.heap.objs.size)) (fun v s => T [v] s) E { s with heap := s.heap.push { cls := .type "slice", data := .fields #[v2, v3, .none] } } := fun {vs s v v2 v3} h hvs hl hu => by
  obtain ⟨st, W, tk, ds, rfl, h⟩ := h
  obtain ⟨g, hg, H⟩ := oneO_some h.H
  have hr := h.r
  subst hvs
  cases ds with
  | nil => cases hg
  | cons d r =>
   obtain ⟨_, _, e1, r1, r2⟩ := hr.inv
   cases e1
   cases l with
   | true =>
    cases u with
    | true =>
     obtain ⟨q, hq, hg⟩ := bsm hg
     obtain ⟨_, _, e1, r3, r4⟩ := (two_eq hq ▸ r2).inv
     cases e1
     obtain ⟨_, _, e1, r5, _⟩ := r4.inv
     cases e1
     exact slc_ok h.S r1 (lo := some q.1) (hi := some q.2) r3 r5 hg H
    | false =>
     obtain ⟨q, hq, hg⟩ := bsm hg
     obtain ⟨_, _, e1, r3, r4⟩ := (one_eq hq ▸ r2).inv
     cases e1
     exact slc_ok h.S r1 (lo := some q) (hi := none) r3 (hu rfl) hg H
   | false =>
    cases u with
    | true =>
     obtain ⟨q, hq, hg⟩ := bsm hg
     obtain ⟨_, _, e1, r3, r4⟩ := (one_eq hq ▸ r2).inv
     cases e1
     exact slc_ok h.S r1 (lo := none) (hi := some q) (hl rfl) r3 hg H
    | false =>
     obtain ⟨q, hq, hg⟩ := bsm hg
     exact slc_ok h.S r1 (lo := none) (hi := none) (hl rfl) (hu rfl) hg H
 refine Subscript_ ?_
 cases eq_of_beq h4
 cases eq_of_beq h5
 refine wpAny_mono h (fun v s1 h1 => wpAny_Slice ?_) fun _ _ x => x
 cases lo with
 | some lo =>
  refine wpAny_mono h1 (fun v2 s2 h2 => ?_) fun _ _ x => x
  cases hi with
  | some hi =>
   refine wpAny_mono h2 (fun v3 s3 h3 => ?_) fun _ _ x => x
   rw [evalPart_none]
   exact wpAny_pure (fin h3 rfl (fun q => nomatch q) fun q => nomatch q)
  | none =>
   rw [evalPart_none]
   refine wpAny_pure ?_
   exact wpAny_pure (fin (v3 := .none) h2 rfl (fun q => nomatch q) fun _ => rfl)
 | none =>
  rw [evalPart_none]
  refine wpAny_pure ?_
  cases hi with
  | some hi =>
   refine wpAny_mono h1 (fun v3 s3 h3 => ?_) fun _ _ x => x
   exact wpAny_pure (fin (v2 := .none) h3 rfl (fun _ => rfl) fun q => nomatch q)
  | none =>
   rw [evalPart_none]
   refine wpAny_pure (wpAny_pure ?_)
   exact fin (v2 := .none) (v3 := .none) h1 rfl (fun _ => rfl) fun _ => rfl
theorem op_wp (TO : cx.T.Ok) (C : cx.Ok cb) (S : Sim cx st W) (hp : pat cx.env.scope.names o e = some es) (h : seqW cx E es (OpT cx cb T E o) (sh cx.T W tk)) : wpX cx (eval e cx.env) (fun v s => T [v] s) E (sh cx.T W tk) := by
 cases o with
 | bin op =>
  obtain ⟨v, h1, hp⟩ := bsm hp
  obtain ⟨h2, rfl⟩ := gd_some hp
  obtain ⟨p, rfl⟩ := asBin_eq h1
  cases eq_of_beq h2
  exact wpAny_BinOp (wpAny_mono h (fun v s h' => wpAny_mono h' (fun u s h' => OpT.bi (K := fun v u s => wpX cx (binaryOp _ v u) (fun r s => T [r] s) E s) h' (fun _ => rfl) fun st W tk x y v u g S h1 h2 h3 H => bin_ok S h1 h2 h3 H) fun _ _ x => x) fun _ _ x => x)
 | neg =>
  obtain ⟨v, h1, hp⟩ := bsm hp
  obtain ⟨h2, rfl⟩ := gd_some hp
  obtain ⟨p, rfl⟩ := asUn_eq h1
  rw [eq_of_beq h2]
  refine wpAny_UnaryOp (wpAny_mono h (fun v s h' => OpT.un (K := fun v s => wpX cx (unaryOp .USub v) (fun r s => T [r] s) E s) h' (fun _ => rfl) fun st W tk x v g S h1 h3 H => ?_) fun _ _ x => x)
  obtain ⟨i, hi, rfl⟩ := msm h3
  obtain ⟨_, rfl⟩ := h1.ii hi
  exact neg_int (val_ok H S .int)
 | idx =>
  obtain ⟨v, h1, hp⟩ := bsm hp
  obtain ⟨h2, rfl⟩ := gd_some hp
  obtain ⟨p, rfl⟩ := asSub_eq h1
  refine Subscript_ (wpAny_mono h (fun v' s h' => wpAny_mono h' (fun u s h' => OpT.bi (f := fun x y => (idxF x y).map .val) (K := fun v' u s => wpX cx (subscriptTail v.1 v.2 v' u) (fun r s => T [r] s) E s) h' (fun _ => rfl) fun st W tk x y v' u g S h1 h3 h4 H => ?_) fun _ _ x => x) fun _ _ x => x)
  obtain ⟨x, hx, rfl⟩ := msm h4
  exact idx_ok h2 h1 h3 hx fun r tk hr => val_ok H S hr
 | slc l u => exact slc_wp S hp h
 | tup =>
  obtain ⟨v, h1, hp⟩ := bsm hp
  obtain ⟨h2, rfl⟩ := gd_some hp
  obtain ⟨k, p, rfl⟩ := asTup_eq h1
  refine wpAny_Tuple (seq_spliced h2 (seqW.mono (fun vs s h' => ?_) h))
  obtain ⟨st, W, tk, ds, rfl, h'⟩ := h'
  obtain ⟨g, hg, H⟩ := oneO_some h'.H
  obtain ⟨hz, rfl⟩ := gd_some hg
  exact ⟨by rw [h'.r.length]; exact okLen_le hz, newT_ok H h'.S h'.r⟩
 | lst =>
  obtain ⟨v, h1, hp⟩ := bsm hp
  obtain ⟨h2, rfl⟩ := gd_some hp
  obtain ⟨p, rfl⟩ := asList_eq h1
  refine wpAny_List (seq_spliced h2 (seqW.mono (fun vs s h' => ?_) h))
  obtain ⟨st, W, tk, ds, rfl, h'⟩ := h'
  obtain ⟨g, hg, H⟩ := oneO_some h'.H
  obtain ⟨hz, rfl⟩ := gd_some hg
  exact ⟨by rw [h'.r.length]; exact okLen_le hz, newL_ok H h'.S h'.r⟩
 | len =>
  refine un_call TO C S hp (by decide +kernel) (.inl ⟨"len", rfl⟩) (fun _ => rfl) (fun st W tk x v g S h1 h3 H => ?_) h
  obtain ⟨n, hn, rfl⟩ := msm h3
  exact len_ok h1 hn fun t tk => val_ok H S .int
 | ord => exact un_call TO C S hp (by decide +kernel) (.inl ⟨"ord", rfl⟩) (fun _ => rfl) (fun st W tk x v g S h1 h3 H => ord_ok S h1 h3 H) h
 | abs => exact un_call TO C S hp (by decide +kernel) (.inl ⟨"abs", rfl⟩) (fun _ => rfl) (fun st W tk x v g S h1 h3 H => abs_ok S h1 h3 H) h
 | toInt => exact un_call TO C S hp (by decide +kernel) (.inr ⟨"int", rfl⟩) (fun _ => rfl) (fun st W tk x v g S h1 h3 H => toInt_ok S h1 h3 H) h
 | list =>
  refine un_call TO C S hp (by decide +kernel) (.inr ⟨"list", rfl⟩) (fun _ => rfl) (fun st W tk x v g S h1 h3 H => ?_) h
  obtain ⟨xs, hx, h3⟩ := bsm h3
  obtain ⟨hz, rfl⟩ := gd_some h3
  obtain ⟨l, vs, rfl, hl, _, hr⟩ := h1.ll hx
  exact listL_ok S hl hr hz H
 | isinst t =>
  obtain ⟨l, h1, hp⟩ := bsm hp
  obtain ⟨x, h2, hp⟩ := bsm hp
  obtain ⟨h3, rfl⟩ := gd_some hp
  obtain ⟨z, h4, h3⟩ := onS_true h3
  obtain ⟨pz, h4⟩ := asName_eq h4
  have h2 := two_eq h2
  rw [h4] at h2
  subst h2
  have hT : biTab.lookup (tyName t) = some (.type (tyStr t)) := by cases t <;> decide +kernel
  refine bi_call TO C S h1 (fv := .builtin "isinstance") (by decide +kernel) (.inl ⟨"isinstance", rfl⟩) (wpAny_mono h (fun v s h' => ?_) fun _ _ x => x)
  refine OpT.un (vs := [v]) (K := fun v s => wpX cx (eval (.Name z pz) cx.env) (fun u s => wpX cx (call (.builtin "isinstance") [v, u]) (fun r s => T [r] s) E s) E s) h' (fun _ => rfl) fun st W tk x v g S h1 h5 H => ?_
  obtain ⟨h6, rfl⟩ := gd_some h5
  exact load_bi TO C S h3 hT (isi_ok h6 h1 fun tk => val_ok H S .bool)
 | getOpen =>
  obtain ⟨v, h1, hp⟩ := bsm hp
  obtain ⟨h2, rfl⟩ := gd_some hp
  obtain ⟨h2, h3⟩ := and2 h2
  obtain ⟨z, h4, h3⟩ := onS_true h3
  obtain ⟨p, rfl⟩ := asSub_eq h1
  obtain ⟨pz, h4⟩ := asName_eq h4
  rw [h4]
  obtain ⟨ad, m, hg, hsm, hm, hf⟩ := TO.opn
  refine Subscript_ (load_glob TO C S h3 hg (wpAny_mono h (fun u s h' => ?_) fun _ _ x => x))
  refine OpT.un (vs := [u]) (K := fun u s => wpX cx (subscriptTail (.Name z pz) v.2 (.ref ad) u) (fun r s => T [r] s) E s) h' (fun _ => rfl) fun st W tk x v g S h1 h5 H => ?_
  obtain ⟨q, hq, h5⟩ := bsm h5
  obtain ⟨y, hy, rfl⟩ := msm h5
  obtain ⟨t, rfl⟩ := h1.ss hq
  obtain ⟨t', ht⟩ := (hf q).1 y hy
  have hm1 := hm W.h S.keeps
  exact tail_any (s := sh cx.T W tk) hm1.typeIs slot_dict_getitem.lookup (wpAny_getItem_of (strKind_is _ _ q t) hm1 ht (val_ok H S .str)) (notSlice_sub h2 _ _)
 | splitNl => exact nos hp
 | find => exact nos hp
 | join => exact nos hp
end
noncomputable def RB (_ : Ws) (v : Bool) (b : Bool) : Prop := v = b
noncomputable def RV (_ : Ws) (v : Value) (fs : List F) : Prop := ∃ t, fs = [bV t] ∧ v = .bool t
noncomputable def SB (Γ : Nat → Fn) (cx : Cx) (cb : Bool) (c : CE) (e : Expr) : Prop :=
 (eff c = true → cb = true) → ∀ st W, Sim cx st W → ∀ tk T E, Post cx (cx.d + 1) cb RB W T E (toB (ev Γ c st)) → wpX cx (isTrue e cx.env (eval e cx.env)) T E (sh cx.T W tk)
noncomputable def SC (Γ : Nat → Fn) (cx : Cx) (cb : Bool) (c : CE) (l : Expr) (op : CmpOp) (r : Expr) : Prop :=
 (eff c = true → cb = true) → ∀ st W, Sim cx st W → ∀ tk Q E, Post cx (cx.d + 1) cb RV W Q E (ev Γ c st) →
  wpX cx (eval l cx.env) (fun a s₁ => wpX cx (eval r cx.env) (fun b s₂ => wpX cx (compareOp op a b) Q E s₂) E s₁) E (sh cx.T W tk)
section
variable {Γ : Nat → Fn} {cx : Cx} {cb : Bool} {T : List Value → Shared → Prop} {E : VP} {st : St} {W W' : Ws} {b tk : Nat} {d : PyData} {v : Value} {g : F} {pos : Pos} {e x y l r : Expr} {es : List Expr} {o : Op} {a c : CE} {op o1 o2 : CmpOp} {z : Str} {fs : List F} {vs : List Value} {ds : List PyData}
variable {α γ δ : Type} {Rl' : Ws → γ → δ → Prop} {Q' : γ → Shared → Prop}
theorem valOf_some {f : F} (h : valOf f = some d) : f = .val d := by
 cases f with
 | val d' => cases h; rfl
 | _ => exact nos h
theorem valOf_as {α : Type} {as : PyData → Option α} {f : F} {t : α} (h : (valOf f).bind as = some t) : ∃ d, f = .val d ∧ as d = some t := by
 obtain ⟨d, hd, h⟩ := bsm h
 exact ⟨d, valOf_some hd, h⟩
theorem boolL_some {t : Bool} (h : boolL fs = some t) : fs = [bV t] := by
 obtain ⟨f, h1, h⟩ := bsm h
 obtain ⟨d, rfl, h⟩ := valOf_as h
 rw [one_eq h1, asB_eq h]; rfl
theorem strOf_some {f : F} {q : Str} (h : strOf f = some q) : f = .val (.str q) := by
 obtain ⟨d, rfl, h⟩ := valOf_as h
 rw [asS_eq h]
theorem rep_bv {t : Bool} (h : RepL cx W vs [bV t]) : vs = [.bool t] := by
 obtain ⟨v, rfl, r⟩ := h.one
 rw [show v = .bool t from Rep.inv (d := .bool t) r]
theorem Post.toB {q : R (List F)} {f : Bool → St → R δ} (h : Post cx b cb Rl' W Q' E ((toB q).bind f)) (k : ∀ t st W' tk, Le cx.d b cb W W' → Sim cx st W' → Post cx b cb Rl' W' Q' E (f t st) → T [.bool t] (sh cx.T W' tk)) : Post cx b cb (RepL cx) W T E q := by
 cases q with
 | ok x st =>
  intro W' tk vs l S r
  replace h : Post cx b cb Rl' W Q' E ((match boolL x with | some b => R.ok b st | none => .stuck).bind f) := h
  cases hb : boolL x with
  | none => rw [hb] at h; exact h.elim
  | some t =>
   rw [hb] at h
   cases boolL_some hb
   cases rep_bv r
   exact k t st W' tk l S (Post.to l h)
 | exc j st => exact h
 | stuck => exact h
theorem vals_of (h : RepL cx W vs fs) (hv : valsOf fs = some ds) : RepAll W vs ds := by
 induction fs generalizing vs ds with
 | nil =>
  cases hv
  cases vs with
  | nil => exact .nil
  | cons _ _ => exact h.elim
 | cons f fs ih =>
  cases vs with
  | nil => exact h.elim
  | cons v vs =>
   cases f with
   | val d =>
    obtain ⟨l, hl, rfl⟩ := msm hv
    exact .cons h.1 (ih h.2 hl)
   | _ => exact nos hv
theorem s_op (TO : cx.T.Ok) (C : cx.Ok cb) (hp : pat cx.env.scope.names o e = some es) (ha : SL Γ cx cb a es) : SL Γ cx cb (.op o a) [e] := fun hf st W S tk T E H =>
 op_wp TO C S hp (ha hf st W S tk _ E (Post.bind' H fun x st1 W1 tk1 vs l1 S1 r1 H1 => by
  obtain ⟨g, hg, H2⟩ := oneO_some H1
  obtain ⟨ds, hd, hg⟩ := bsm hg
  exact ⟨st1, W1, tk1, ds, rfl, S1, vals_of r1 hd, by rw [hg]; exact H2⟩))
theorem marks {e : Expr} (h : plainX e = true) (op : CmpOp) : behindInMarks op e = false := by cases e <;> first | rfl | cases h
theorem SC.sl (h : SC Γ cx cb c l op r) (hr : plainX r = true) : SL Γ cx cb c [.Compare l [op] [r] pos] := fun hf st W S tk T E H => by
 refine wpAny_Compare1 (h hf st W S tk (fun v s => T [v] s) E ?_) (marks hr op)
 cases hq : ev Γ c st with
 | ok x st1 =>
  rw [hq] at H
  rintro W' tk' v l S' ⟨t, rfl, rfl⟩
  exact H W' tk' _ l S' (.val .bool)
 | exc k st1 => rw [hq] at H; exact H
 | stuck => rw [hq] at H; exact H
theorem SC.sb (h : SC Γ cx cb c l op r) (hr : plainX r = true) : SB Γ cx cb c (.Compare l [op] [r] pos) := fun hf st W S tk T E H => by
 refine wpAny_isTrue_Compare1 (h hf st W S tk _ E ?_) (marks hr op)
 cases hq : ev Γ c st with
 | ok x st1 =>
  rw [hq] at H
  rintro W' tk' v l S' ⟨t, rfl, rfl⟩
  exact wpAny_truthy_bool (H W' tk' t l S' rfl)
 | exc k st1 => rw [hq] at H; exact H
 | stuck => rw [hq] at H; exact H
theorem cmpE_ok {Q : VP} {u : Value} (C : cx.Ok cb) (S : Sim cx st W) (r : RepL cx W [v, u] fs) (H : Post cx b cb RV W Q E (cmpE op fs st)) : wpX cx (compareOp op v u) Q E (sh cx.T W tk) := by
 unfold cmpE at H
 cases hg : (valsOf fs).bind (bi fun x y => (cmpF op x y).map bV) with
 | none => rw [hg] at H; exact H.elim
 | some g =>
  rw [hg] at H
  obtain ⟨ds, hd, hg⟩ := bsm hg
  obtain ⟨q, hq, hg⟩ := bsm hg
  obtain ⟨t, ht, rfl⟩ := msm hg
  obtain ⟨_, _, e1, r1, r2⟩ := (two_eq hq ▸ vals_of r hd).inv
  cases e1
  obtain ⟨_, _, e1, r3, _⟩ := r2.inv
  cases e1
  exact cmp_ok C r1 r3 ht (H W tk _ Le.refl S ⟨t, rfl, rfl⟩)
theorem c_cmp (C : cx.Ok cb) (ha : SL Γ cx cb a [l, r]) : SC Γ cx cb (.cmp op a) l op r := fun hf st W S tk Q E H => by
 exact ha hf st W S tk (tw2 fun v u s => wpX cx (compareOp op v u) Q E s) E (Post.bind' H fun x st1 W1 tk1 vs l1 S1 r1 H1 => by
  match vs, r1 with
  | [v, u], r1 => exact cmpE_ok C S1 r1 H1
  | [], _ => trivial
  | [_], _ => trivial
  | _ :: _ :: _ :: _, _ => trivial)
theorem c_inOpen (TO : cx.T.Ok) (C : cx.Ok cb) (ha : SL Γ cx cb a [l]) (h : isGl cx.env.scope.names z "OPENING" = true) : SC Γ cx cb (.inOpen a) l .In (.Name z pos) := fun hf st W S tk Q E H => by
 obtain ⟨ad, m, hg, hsm, hm, hfm⟩ := TO.opn
 refine ha hf st W S tk (tw1 fun v s => wpX cx (eval (.Name z pos) cx.env) (fun b s₂ => wpX cx (compareOp .In v b) Q E s₂) E s) E (Post.bind' H fun x st1 W1 tk1 vs l1 S1 r1 H1 => ?_)
 cases hg' : (one x).bind fun f => (strOf f).map fun s => bV (openF s).isSome with
 | none => rw [hg'] at H1; exact H1.elim
 | some g =>
  rw [hg'] at H1
  obtain ⟨f, h1, h2⟩ := bsm hg'
  obtain ⟨q, h3, rfl⟩ := msm h2
  cases strOf_some h3
  cases one_eq h1
  obtain ⟨v, rfl, r⟩ := r1.one
  obtain ⟨t, rfl⟩ := Rep.inv (d := .str q) r
  refine load_glob TO C S1 h hg (wpAny_in_of (strKind_is _ _ q t) hsm (hm W1.h S1.keeps) ?_)
  have : (m q).isSome = (openF q).isSome := by
   cases ho : openF q with
   | none => rw [(hfm q).2 ho]; rfl
   | some y => obtain ⟨t', ht⟩ := (hfm q).1 y ho; rw [ht]; rfl
  rw [this]
  exact H1 W1 _ _ Le.refl S1 ⟨_, rfl, rfl⟩
theorem s_gen (h : plainT e = true) (ha : SL Γ cx cb c [e]) : SB Γ cx cb c e := fun hf st W S tk T E H => by
 refine wpAny_isTrue_value (ha hf st W S tk (tw1 fun v s => wpX cx (truthy v) T E s) E ?_) (by cases e <;> first | rfl | cases h)
 have H' : Post cx (cx.d + 1) cb RB W T E ((toB (ev Γ c st)).bind fun t st => .ok t st) := by
  cases hq : toB (ev Γ c st) <;> rw [hq] at H <;> exact H
 exact Post.toB H' fun t st1 W1 tk1 l1 S1 H1 => wpAny_truthy_bool (H1 W1 tk1 t Le.refl S1 rfl)
theorem s_not (ha : SL Γ cx cb a [x]) : SL Γ cx cb (.not a) [.UnaryOp .Not x pos] := fun hf st W S tk T E H =>
 wpAny_UnaryOp (ha hf st W S tk (tw1 fun v s => wpX cx (unaryOp .Not v) (fun r s => T [r] s) E s) E (Post.toB H fun t st1 W1 tk1 l1 S1 H1 => not_value (wpAny_truthy_bool (val_ok H1 S1 .bool))))
theorem toB_bind {q : R (List F)} {f : Bool → St → R (List F)} : toB ((toB q).bind f) = (toB q).bind fun t st => toB (f t st) := by
 unfold toB
 cases q with
 | ok x st => dsimp only [R.bind]; cases boolL x <;> rfl
 | exc k st => rfl
 | stuck => rfl
theorem b_not (ha : SB Γ cx cb a x) : SB Γ cx cb (.not a) (.UnaryOp .Not x pos) := fun hf st W S tk T E H => by
 replace H : Post cx (cx.d + 1) cb RB W T E (toB ((toB (ev Γ a st)).bind fun b st => .ok [bV (!b)] st)) := H
 rw [toB_bind] at H
 exact wpAny_isTrue_Not (ha hf st W S tk _ E (Post.bind' H fun t st1 W1 tk1 v l1 S1 r1 H1 => H1 W1 tk1 _ Le.refl S1 (by rw [show v = t from r1]; rfl)))
noncomputable def bstop : BoolOp → Bool → Bool
 | .And, t => !t
 | .Or, t => t
theorem boolOp_cons {M : Model} {A : Around} {E : VP} {s : Shared} {pos : Pos} {op : BoolOp} {x y : Sem Value} {rest : List (Sem Value)} {Q : VP}
  (h : wpAny M A x (fun v s₁ => wpAny M A (truthy v) (fun t s₂ => if bstop op t then Q v s₂ else wpAny M A (boolOp pos op (y :: rest)) Q E s₂) E s₁) E s) :
  wpAny M A (boolOp pos op (x :: y :: rest)) Q E s := by
 show wpAny M A (do let v ← x; standAt pos; let t ← holding [v] (truthy v); match op, t with | .And, false | .Or, true => pure v | _, _ => boolOp pos op (y :: rest)) Q E s
 refine wpAny_bind (wpAny_mono h (fun v s₁ h₁ => wpAny_bind (wpAny_standAt (wpAny_bind (wpAny_holding (wpAny_mono h₁ (fun t s₂ h₂ => ?_) fun _ _ x => x))))) fun _ _ x => x)
 cases op <;> cases t <;> first | exact wpAny_pure h₂ | exact h₂
noncomputable def boE (o : BoolOp) (t : Bool) (k : St → R (List F)) (st : St) : R (List F) := match o, t with
 | .And, false => .ok [bV false] st
 | .Or, true => .ok [bV true] st
 | _, _ => k st
theorem s_bo {o : BoolOp} {rest : List Expr} {cc : CE} (hev : ∀ st, ev Γ cc st = (toB (ev Γ a st)).bind fun t st => boE o t (ev Γ c) st) (he : (eff cc = true → cb = true) → (eff a = true → cb = true) ∧ (eff c = true → cb = true)) (ha : SL Γ cx cb a [x]) (hb : SL Γ cx cb c [restB o pos y rest]) :
  SL Γ cx cb cc [.BoolOp o (x :: y :: rest) pos] := fun hf st W S tk T E H => by
 rw [hev] at H
 show wpAny _ _ (boolOp pos o (eval x cx.env :: eval y cx.env :: evalEach rest cx.env)) _ E _
 refine boolOp_cons (Q := fun r s => T [r] s) (ha (he hf).1 st W S tk (tw1 fun v s => wpX cx (truthy v) (fun t s₂ => if bstop o t then T [v] s₂ else wpX cx (boolOp pos o (eval y cx.env :: evalEach rest cx.env)) (fun r s => T [r] s) E s₂) E s) E (Post.toB H fun t st1 W1 tk1 l1 S1 H1 => wpAny_truthy_bool ?_))
 have go : Post cx (cx.d + 1) cb (RepL cx) W1 T E (ev Γ c st1) → wpX cx (boolOp pos o (eval y cx.env :: evalEach rest cx.env)) (fun r s => T [r] s) E (sh cx.T W1 tk1) := fun H2 => by
  have := hb (he hf).2 st1 W1 S1 tk1 T E H2
  cases rest <;> exact this
 cases o <;> cases t <;> first | exact val_ok H1 S1 .bool | exact go H1
theorem b_bo {o : BoolOp} {rest : List Expr} {cc : CE} (hev : ∀ st, ev Γ cc st = (toB (ev Γ a st)).bind fun t st => boE o t (ev Γ c) st) (he : (eff cc = true → cb = true) → (eff a = true → cb = true) ∧ (eff c = true → cb = true)) (ha : SB Γ cx cb a x) (hb : SB Γ cx cb c (restB o pos y rest)) :
  SB Γ cx cb cc (.BoolOp o (x :: y :: rest) pos) := fun hf st W S tk T E H => by
 rw [hev, toB_bind] at H
 have go : ∀ {W1 : Ws} {st1 : St} {tk1 : Nat}, Sim cx st1 W1 → Post cx (cx.d + 1) cb RB W1 T E (toB (ev Γ c st1)) → wpX cx (allTrue o (y :: rest) cx.env) T E (sh cx.T W1 tk1) := fun {W1 st1 tk1} S1 H2 => by
  cases rest with
  | nil =>
   have H3 : Post cx (cx.d + 1) cb RB W1 T E ((toB (ev Γ c st1)).bind fun t st => .ok t st) := by cases hq : toB (ev Γ c st1) <;> rw [hq] at H2 <;> exact H2
   cases o with
   | And => exact wpAny_allTrue_And_cons (hb (he hf).2 st1 W1 S1 tk1 _ E (Post.bind' H3 fun t st2 W2 tk2 v l2 S2 r2 H4 => by
     cases v with
     | true => exact wpAny_allTrue_And_nil (H4 W2 tk2 _ Le.refl S2 r2)
     | false => exact H4 W2 tk2 _ Le.refl S2 r2))
   | Or => exact wpAny_allTrue_Or_cons (hb (he hf).2 st1 W1 S1 tk1 _ E (Post.bind' H3 fun t st2 W2 tk2 v l2 S2 r2 H4 => by
     cases v with
     | false => exact wpAny_allTrue_Or_nil (H4 W2 tk2 _ Le.refl S2 r2)
     | true => exact H4 W2 tk2 _ Le.refl S2 r2))
  | cons z zs => have := hb (he hf).2 st1 W1 S1 tk1 T E H2; rwa [show restB o pos y (z :: zs) = .BoolOp o (y :: z :: zs) pos from rfl, arm_isTrue_BoolOp] at this
 refine wpAny_isTrue_BoolOp ?_
 cases o with
 | And => exact wpAny_allTrue_And_cons (ha (he hf).1 st W S tk _ E (Post.bind' H fun t st1 W1 tk1 v l1 S1 r1 H1 => by
   cases show v = t from r1
   cases t with
   | false => exact H1 W1 tk1 _ Le.refl S1 rfl
   | true => exact go S1 H1))
 | Or => exact wpAny_allTrue_Or_cons (ha (he hf).1 st W S tk _ E (Post.bind' H fun t st1 W1 tk1 v l1 S1 r1 H1 => by
   cases show v = t from r1
   cases t with
   | true => exact H1 W1 tk1 _ Le.refl S1 rfl
   | false => exact go S1 H1))
theorem cmp2_wp {M : Model} {A : Around} {E : VP} {s : Shared} {env : Env} {l r1 r2 : Expr} {o1 o2 : CmpOp} {pos : Pos} {Q : VP} (hm : behindInMarks o2 r2 = false)
  (h : wpAny M A (eval l env) (fun a s₁ => wpAny M A (eval r1 env) (fun b s₂ => wpAny M A (compareOp o1 a b) (fun c s₃ => wpAny M A (truthy c) (fun t s₄ =>
   if t then wpAny M A (eval r2 env) (fun d s₅ => wpAny M A (compareOp o2 b d) Q E s₅) E s₄ else Q c s₄) E s₃) E s₂) E s₁) E s) :
  wpAny M A (eval (.Compare l [o1, o2] [r1, r2] pos) env) Q E s := by
 refine Compare_chain ?_ (by exact hm)
 refine wpAny_mono h (fun a s₁ h₁ => ?_) fun _ _ x => x
 show wpAny M A (do let rv ← holding [a] (eval r1 env); standAt pos; let c ← holding [a, rv] (compareOp o1 a rv); release [a, rv] [c]; if ← holding [c, rv] (truthy c) then compareChain pos rv [o2] [eval r2 env] else pure c) Q E s₁
 refine wpAny_bind (wpAny_holding (wpAny_mono h₁ (fun b s₂ h₂ => wpAny_bind (wpAny_standAt (wpAny_bind (wpAny_holding (wpAny_mono h₂ (fun c s₃ h₃ => ?_) fun _ _ x => x))))) fun _ _ x => x))
 refine wpAny_bind (wpAny_release' (wpAny_bind (wpAny_holding (wpAny_mono h₃ (fun t s₄ h₄ => ?_) fun _ _ x => x))))
 cases t with
 | false => exact wpAny_pure h₄
 | true =>
  show wpAny M A (do let rv ← holding [b] (eval r2 env); standAt pos; operate [b, rv] (compareOp o2 b rv)) Q E s₄
  exact wpAny_bind (wpAny_holding (wpAny_mono h₄ (fun d s₅ h₅ => wpAny_bind (wpAny_standAt (wpAny_operate' h₅))) fun _ _ x => x))
theorem cmp2_test {M : Model} {A : Around} {E : VP} {s : Shared} {env : Env} {l r1 r2 : Expr} {o1 o2 : CmpOp} {pos : Pos} {whole : Sem Value} {Q : Bool → Shared → Prop} (hm : behindInMarks o2 r2 = false)
  (h : wpAny M A (eval l env) (fun a s₁ => wpAny M A (eval r1 env) (fun b s₂ => wpAny M A (compareOp o1 a b) (fun c s₃ => wpAny M A (truthy c) (fun t s₄ =>
   if t then wpAny M A (eval r2 env) (fun d s₅ => wpAny M A (compareOp o2 b d) (fun c s₆ => wpAny M A (truthy c) Q E s₆) E s₅) E s₄ else Q false s₄) E s₃) E s₂) E s₁) E s) :
  wpAny M A (isTrue (.Compare l [o1, o2] [r1, r2] pos) env whole) Q E s := by
 refine isTrue_chain ?_ (by exact hm)
 refine wpAny_mono h (fun a s₁ h₁ => ?_) fun _ _ x => x
 show wpAny M A (do let rv ← holding [a] (eval r1 env); standAt pos; let c ← holding [a, rv] (compareOp o1 a rv); release [a, rv] [c]; if ← holding [c, rv] (truthy c) then testChain pos rv [o2] [eval r2 env] else pure false) Q E s₁
 refine wpAny_bind (wpAny_holding (wpAny_mono h₁ (fun b s₂ h₂ => wpAny_bind (wpAny_standAt (wpAny_bind (wpAny_holding (wpAny_mono h₂ (fun c s₃ h₃ => ?_) fun _ _ x => x))))) fun _ _ x => x))
 refine wpAny_bind (wpAny_release' (wpAny_bind (wpAny_holding (wpAny_mono h₃ (fun t s₄ h₄ => ?_) fun _ _ x => x))))
 cases t with
 | false => exact wpAny_pure h₄
 | true =>
  show wpAny M A (do let rv ← holding [b] (eval r2 env); standAt pos; let c ← operate [b, rv] (compareOp o2 b rv); holding [c] (truthy c)) Q E s₄
  exact wpAny_bind (wpAny_holding (wpAny_mono h₄ (fun d s₅ h₅ => wpAny_bind (wpAny_standAt (wpAny_bind (wpAny_operate' (wpAny_mono h₅ (fun c s₆ h₆ => wpAny_holding h₆) fun _ _ x => x))))) fun _ _ x => x))
end
section
variable {Γ : Nat → Fn} {cx : Cx} {cb : Bool} {T : List Value → Shared → Prop} {Q Q0 : VP} {E : VP} {st : St} {W W' : Ws} {b tk : Nat} {d : PyData} {v : Value} {pos : Pos} {e x y z l : Expr} {a c : CE} {o1 o2 : CmpOp} {fs : List F} {vs : List Value} {ds : List PyData}
theorem rep_two {u : Value} (h : RepL cx W [v, u] fs) {q : PyData × PyData} (hq : (valsOf fs).bind two = some q) : Rep W v q.1 ∧ Rep W u q.2 := by
 obtain ⟨ds, hd, hq⟩ := bsm hq
 obtain ⟨_, _, e1, r1, r2⟩ := (two_eq hq ▸ vals_of h hd).inv
 cases e1
 obtain ⟨_, _, e1, r3, _⟩ := r2.inv
 cases e1
 exact ⟨r1, r3⟩
theorem chain_core (C : cx.Ok cb) (ha : SL Γ cx cb a [x, y]) (hc : SL Γ cx cb c [z]) (hf : (eff a || eff c) = true → cb = true) (S : Sim cx st W) {Q2 : VP} (H : Post cx (cx.d + 1) cb RV W Q2 E (ev Γ (.chain a o1 o2 c) st)) (hQ2 : ∀ v s, Q2 v s → Q v s) (hQ : ∀ s, Q2 (.bool false) s → Q0 (.bool false) s) :
  wpX cx (eval x cx.env) (fun a s₁ => wpX cx (eval y cx.env) (fun b s₂ => wpX cx (compareOp o1 a b) (fun c s₃ => wpX cx (truthy c) (fun t s₄ =>
   if t then wpX cx (eval z cx.env) (fun d s₅ => wpX cx (compareOp o2 b d) Q E s₅) E s₄ else Q0 c s₄) E s₃) E s₂) E s₁) E (sh cx.T W tk) := by
 refine ha (or_left hf) st W S tk (tw2 fun a b s₂ => wpX cx (compareOp o1 a b) (fun c s₃ => wpX cx (truthy c) (fun t s₄ =>
   if t then wpX cx (eval z cx.env) (fun d s₅ => wpX cx (compareOp o2 b d) Q E s₅) E s₄ else Q0 c s₄) E s₃) E s₂) E (Post.bind' H fun fs st1 W1 tk1 vs l1 S1 r1 H1 => ?_)
 match vs, r1 with
 | [v, u], r1 =>
  cases hq : (valsOf fs).bind two with
  | none => rw [hq] at H1; exact H1.elim
  | some q =>
   rw [hq] at H1
   obtain ⟨rv, ru⟩ := rep_two r1 hq
   replace H1 : Post cx (cx.d + 1) cb RV W1 Q2 E (match cmpF o1 q.1 q.2 with
    | some true => (ev Γ c st1).bind fun z st => cmpE o2 (.val q.2 :: z) st
    | some false => .ok [bV false] st1
    | none => .stuck) := H1
   cases ht : cmpF o1 q.1 q.2 with
   | none => rw [ht] at H1; exact H1.elim
   | some t =>
    rw [ht] at H1
    refine cmp_ok C rv ru ht (wpAny_truthy_bool ?_)
    cases t with
    | false => exact hQ _ (H1 W1 tk1 _ Le.refl S1 ⟨_, rfl, rfl⟩)
    | true => exact hc (or_right hf) st1 W1 S1 tk1 (tw1 fun d s₅ => wpX cx (compareOp o2 u d) Q E s₅) E (Post.bind' H1 fun fs2 st2 W2 tk2 vs2 l2 S2 r2 H2 => (by
      match vs2, r2 with
      | [w], r2 => exact wpAny_mono (cmpE_ok (fs := .val q.2 :: fs2) C S2 ⟨show RepA cx W2 u (.val q.2) from Rep.mono l2.fz ru, r2⟩ H2) hQ2 fun _ _ x => x
      | [], _ => trivial
      | _ :: _ :: _, _ => trivial))
 | [], _ => trivial
 | [_], _ => trivial
 | _ :: _ :: _ :: _, _ => trivial
theorem rv_of_rl {q : R (List F)} (H : Post cx b cb (RepL cx) W T E q) : Post cx b cb RV W (fun v s => T [v] s) E q := by
 cases q with
 | ok x st1 => rintro W' tk' v l S' ⟨t, rfl, rfl⟩; exact H W' tk' _ l S' (.val .bool)
 | exc k st1 => exact H
 | stuck => exact H
theorem rv_of_rb {T : Bool → Shared → Prop} {q : R (List F)} (H : Post cx b cb RB W T E (toB q)) : Post cx b cb RV W (fun v s => ∃ t, v = .bool t ∧ T t s) E q := by
 cases q with
 | ok x st1 => rintro W' tk' v l S' ⟨t, rfl, rfl⟩; exact ⟨t, rfl, H W' tk' t l S' rfl⟩
 | exc k st1 => exact H
 | stuck => exact H
theorem s_chain (C : cx.Ok cb) (ha : SL Γ cx cb a [x, y]) (hc : SL Γ cx cb c [z]) (hm : plainX z = true) : SL Γ cx cb (.chain a o1 o2 c) [.Compare x [o1, o2] [y, z] pos] := fun hf st W S tk T E H =>
 cmp2_wp (marks hm o2) (chain_core C ha hc hf S (rv_of_rl H) (fun _ _ h => h) fun _ h => h)
theorem b_chain (C : cx.Ok cb) (ha : SL Γ cx cb a [x, y]) (hc : SL Γ cx cb c [z]) (hm : plainX z = true) : SB Γ cx cb (.chain a o1 o2 c) (.Compare x [o1, o2] [y, z] pos) := fun hf st W S tk T E H =>
 cmp2_test (marks hm o2) (chain_core (Q0 := fun _ s => T false s) C ha hc hf S (rv_of_rb H) (fun v s ⟨t, e, h⟩ => by subst e; exact wpAny_truthy_bool h) fun s ⟨t, e, h⟩ => by cases e; exact h)
end
section
variable {Γ : Nat → Fn} {cx : Cx} {cb : Bool} {T : List Value → Shared → Prop} {E : VP} {st : St} {W : Ws} {b tk : Nat} {d : PyData} {v u : Value} {f g : F} {e x y l r : Expr} {o : Op} {a c : CE} {p : Pl} {fs : List F} {vs : List Value} {ds : List PyData} {xs : List PyData} {t : Tag}
theorem opE_bi {h : PyData → PyData → Option F} (ho : ∀ ds, opF o ds = bi h ds) (r : RepL cx W [u] fs) (H : Post cx b cb (RepL cx) W T E (opE o (.val d :: fs) st)) : ∃ e g, Rep W u e ∧ h d e = some g ∧ Post cx b cb (RepL cx) W T E (.ok [g] st) := by
 obtain ⟨g, hg, H'⟩ := oneO_some H
 obtain ⟨ds, hd, hg⟩ := bsm hg
 obtain ⟨ds', hd', rfl⟩ := msm (show (valsOf fs).map (fun l => d :: l) = some ds from hd)
 obtain ⟨q, hq, hg'⟩ := bsm ((ho _).symm.trans hg)
 have hq := two_eq hq
 injection hq with e1 e2
 subst e1 e2
 obtain ⟨_, _, e3, r1, _⟩ := (vals_of r hd').inv
 cases e3
 exact ⟨q.2, g, r1, hg', H'⟩
theorem str_one (r : RepL cx W vs fs) {q : Str} (h : (one fs).bind strOf = some q) : ∃ t, vs = [.str q t] := by
 obtain ⟨f, h1, h2⟩ := bsm h
 cases strOf_some h2
 cases one_eq h1
 obtain ⟨v, rfl, r'⟩ := r.one
 obtain ⟨t, rfl⟩ := Rep.inv (d := .str q) r'
 exact ⟨t, rfl⟩
theorem s_sm {n : Expr × List Expr} (hp : patM o e = some n) (hr : SL Γ cx cb c [n.1]) (ha : SL Γ cx cb a n.2) : SL Γ cx cb (.sm o c a) [e] := fun hf st W S tk T E H => by
 have recv : ∀ {K : VP}, (∀ q t st1 W1 tk1, Sim cx st1 W1 → Post cx (cx.d + 1) cb (RepL cx) W1 T E ((ev Γ a st1).bind fun y st => opE o (.val (.str q) :: y) st) → K (.str q t) (sh cx.T W1 tk1)) → wpX cx (eval n.1 cx.env) K E (sh cx.T W tk) := fun {K} k =>
  hr (or_left hf) st W S tk (tw1 K) E (Post.bind' H fun x st1 W1 tk1 vs l1 S1 r1 H1 => by
   cases hq : (one x).bind strOf with
   | none => rw [hq] at H1; exact H1.elim
   | some q =>
    rw [hq] at H1
    obtain ⟨t, rfl⟩ := str_one r1 hq
    exact k q t st1 W1 tk1 S1 H1)
 obtain ⟨r, args⟩ := n
 cases o with
 | splitNl =>
  obtain ⟨⟨v, l⟩, h1, hp⟩ := bsm hp
  obtain ⟨h2, h3⟩ := gd_some hp
  cases h3
  obtain ⟨h2, h3⟩ := and2 h2
  obtain ⟨y, h4, h3⟩ := onS_true h3
  obtain ⟨cc, h5, h3⟩ := onS_true h3
  obtain ⟨k, p, rfl⟩ := asConst_eq h5
  obtain ⟨ap, p', rfl, hline, _⟩ := meth1_some h1
  cases one_eq h4
  have hc := h3
  obtain rfl : cc = .str (Mine.Internal.S [10]) := eq_of_beq h3
  refine Call_method1 (recv_base h2) rfl hline (recv fun q t st1 W1 tk1 S1 H1 => ?_)
  refine ha (or_right hf) st1 W1 S1 tk1 (fun _ s => MethodOnS cx.T.prog cx.T.w cx.A E "split" (.str q t) p' [(false, eval (.Constant (.str (Mine.Internal.S [10])) k p) cx.env)] (fun r s => T [r] s) s) E (Post.bind' H1 fun y st2 W2 tk2 us l2 S2 r2 H2 => ?_)
  obtain ⟨g, hg, H3⟩ := oneO_some H2
  obtain ⟨ds, hd, hg⟩ := bsm hg
  obtain ⟨ds', hd', rfl⟩ := msm (show (valsOf y).map (fun l => PyData.str q :: l) = some ds from hd)
  obtain ⟨x, hx, hg⟩ := bsm (show un splitF (.str q :: ds') = some g from hg)
  have hx := one_eq hx
  injection hx with e1 _
  subst e1
  exact split_ok hc S2 .str hg H3
 | find =>
  obtain ⟨⟨v, l⟩, h1, hp⟩ := bsm hp
  obtain ⟨h2, h3⟩ := gd_some hp
  cases h3
  obtain ⟨h2, h3⟩ := and2 h2
  obtain ⟨y, h4⟩ := ise h3
  obtain ⟨ap, p', rfl, hline, hx⟩ := meth1_some h1
  cases one_eq h4
  refine Call_method1 (recv_base h2) (star_cons (and2 hx).1) hline (recv fun q t st1 W1 tk1 S1 H1 => find_ok (b := cx.d + 1) (cb := cb) (d := .str q) .str (fun _ _ => ?_) rfl)
  exact ha (or_right hf) st1 W1 S1 tk1 (tw1 fun u s => ∃ W tk e g st, s = sh cx.T W tk ∧ Sim cx st W ∧ Rep W u e ∧ findsF (.str q) e = some g ∧ Post cx (cx.d + 1) cb (RepL cx) W T E (.ok [g] st)) E (Post.bind' H1 fun y st2 W2 tk2 us l2 S2 r2 H2 => by
   match us, r2 with
   | [u], r2 => obtain ⟨e, g, h5, h6, h7⟩ := opE_bi (fun _ => rfl) r2 H2; exact ⟨W2, tk2, e, g, st2, rfl, S2, h5, h6, h7⟩
   | [], _ => trivial
   | _ :: _ :: _, _ => trivial)
 | join =>
  obtain ⟨⟨v, l⟩, h1, hp⟩ := bsm hp
  obtain ⟨h2, h3⟩ := gd_some hp
  cases h3
  obtain ⟨h2, h3⟩ := and2 h2
  obtain ⟨y, h4⟩ := ise h3
  obtain ⟨ap, p', rfl, hline, hx⟩ := meth1_some h1
  cases one_eq h4
  refine Call_method1 (recv_base h2) (star_cons (and2 hx).1) hline (recv fun q t st1 W1 tk1 S1 H1 => join_ok (b := cx.d + 1) (cb := cb) (d := .str q) .str (fun _ _ => ?_) rfl)
  exact ha (or_right hf) st1 W1 S1 tk1 (tw1 fun u s => ∃ W tk e g st, s = sh cx.T W tk ∧ Sim cx st W ∧ Rep W u e ∧ joinF (.str q) e = some g ∧ Post cx (cx.d + 1) cb (RepL cx) W T E (.ok [g] st)) E (Post.bind' H1 fun y st2 W2 tk2 us l2 S2 r2 H2 => by
   match us, r2 with
   | [u], r2 => obtain ⟨e, g, h5, h6, h7⟩ := opE_bi (fun _ => rfl) r2 H2; exact ⟨W2, tk2, e, g, st2, rfl, S2, h5, h6, h7⟩
   | [], _ => trivial
   | _ :: _ :: _, _ => trivial)
 | _ => exact nos hp
theorem PlAt.list (P : PlAt cx st W v f t p) (h : lstOf f = some xs) : ∃ a vs, v = .ref a ∧ W.h.IsList a vs ∧ RepAll W vs.toList xs := by
 cases f with
 | own ys => cases h; obtain ⟨a, vs, h1, h2, _, h4⟩ := P.own; exact ⟨a, vs, h1, h2.isList, h4⟩
 | brw ys =>
  cases h
  cases p with
  | loc i => obtain ⟨a, vs, h1, h2, _, h4⟩ := P.2.2.2; exact ⟨a, vs, h1, h2, h4⟩
  | fld i j => obtain ⟨n, P⟩ := P; exact P.r.elim
 | val d => obtain ⟨a, vs, h1, h2, _, h4⟩ := P.val.ll h; exact ⟨a, vs, h1, h2, h4⟩
 | _ => exact nos h
end
theorem gdb {α : Type} {b : Bool} {f : Unit → Option α} {x : α} (h : (gd b ()).bind f = some x) : b = true ∧ f () = some x := by
 obtain ⟨u, h1, h2⟩ := bsm h
 exact ⟨(gd_some h1).1, h2⟩
section
variable {Γ : Nat → Fn} {cx : Cx} {cb : Bool} {T : List Value → Shared → Prop} {Q : VP} {E : VP} {st : St} {W : Ws} {b tk : Nat} {d : PyData} {v u : Value} {f g : F} {pos : Pos} {e x y z l r : Expr} {es : List Expr} {o : Op} {a c : CE} {p : Pl} {fs : List F} {vs : List Value} {ds : List PyData} {xs : List PyData} {t : Tag}
theorem listAt_some (h : listAt st p = some xs) : ∃ f, getP st p = some f ∧ lstOf f = some xs := bsm h
theorem ownAt_some (h : ownAt st p = some xs) : getP st p = some (.own xs) := by
 obtain ⟨f, h1, h2⟩ := bsm h
 cases f with
 | own ys => cases h2; exact h1
 | _ => exact nos h2
theorem dctAt_some {es : List (List Int × PyData)} (h : dctAt st p = some es) : getP st p = some (.dct es) := by
 obtain ⟨f, h1, h2⟩ := bsm h
 cases f with
 | dct ys => cases h2; exact h1
 | _ => exact nos h2
theorem oneV_rep (r : RepL cx W [v] fs) (h : oneV fs = some d) : Rep W v d := by
 obtain ⟨f, h1, h2⟩ := bsm h
 cases valOf_some h2
 cases one_eq h1
 exact r.1
theorem keyI_some {k : PyData} {q : List Int} (h : keyI k = some q) : ∃ a b, k = .tuple [.int a, .int b] ∧ q = [a, b] := by
 obtain ⟨l, h1, h⟩ := bsm h
 obtain ⟨p, h2, h⟩ := bsm h
 obtain ⟨a, b, h3, h4, h⟩ := op2_some h
 cases h
 exact ⟨a, b, by rw [asT_eq h1, two_eq h2, asI_eq h3, asI_eq h4], rfl⟩
theorem RepTab.find {xt : List (List Int × Addr × Value)} {et : List (List Int × PyData)} {q : List Int} (h : RepTab W xt et) : (atKey xt q).isSome = (keyF et q).isSome ∧ ∀ d, keyF et q = some d → ∃ kv, atKey xt q = some kv ∧ Rep W kv.2 d := by
 induction xt generalizing et with
 | nil => cases et with
  | nil => exact ⟨rfl, fun d e => nos e⟩
  | cons _ _ => exact h.elim
 | cons x xt ih =>
  cases et with
  | nil => exact h.elim
  | cons e et =>
   unfold atKey keyF
   rw [List.find?_cons, List.find?_cons, ← h.1.1]
   cases decide (x.1 = q) with
   | true => exact ⟨rfl, fun d hd => ⟨x.2, rfl, by cases hd; exact h.1.2.2⟩⟩
   | false => exact ih h.2
theorem peek_some {k : R (List F)} {A : Type} {o' : Option A} (H : Post cx b cb (RepL cx) W T E (if o'.isSome then k else .stuck)) : (∃ x, o' = some x) ∧ Post cx b cb (RepL cx) W T E k := by
 cases o' with
 | none => exact H.elim
 | some x => exact ⟨⟨x, rfl⟩, H⟩
theorem patP_call {y : Str} (h : ((call1 cx.env.scope.names y e).bind fun l => gd (onS (one l) (mPl cx.nm cx.env.scope.names p)) ([] : List Expr)) = some es) : es = [] ∧ ∃ x, call1 cx.env.scope.names y e = some [x] ∧ mPl cx.nm cx.env.scope.names p x = true := by
 obtain ⟨l, h1, h⟩ := bsm h
 obtain ⟨h2, rfl⟩ := gd_some h
 obtain ⟨x, h3, h2⟩ := onS_true h2
 exact ⟨rfl, x, by rw [h1, one_eq h3], h2⟩
theorem patP_sub (h : ((asSub e).bind fun v => gd (plainX v.2 && mPl cx.nm cx.env.scope.names p v.1) [v.2]) = some es) : ∃ x i q, e = .Subscript x i q ∧ es = [i] ∧ plainX i = true ∧ mPl cx.nm cx.env.scope.names p x = true := by
 obtain ⟨l, h1, h⟩ := bsm h
 obtain ⟨h2, rfl⟩ := gd_some h
 obtain ⟨q, h1⟩ := asSub_eq h1
 exact ⟨_, _, q, h1, rfl, (and2 h2).1, (and2 h2).2⟩
theorem p_call {y : Str} {fv : Value} (TO : cx.T.Ok) (C : cx.Ok cb) (PC : isFld p = true → PgCls cx.T) (S : Sim cx st W) {x : Expr} (hx : call1 cx.env.scope.names y e = some [x]) (hm : mPl cx.nm cx.env.scope.names p x = true) (hb : biTab.lookup y = some fv) (hfv : (∃ id, fv = .builtin id) ∨ ∃ T, fv = .type T) (hl : listAt st p = some xs)
  (k : ∀ a vs tk, W.h.IsList a vs → RepAll W vs.toList xs → wpX cx (call fv [.ref a]) Q E (sh cx.T W tk)) : wpX cx (eval e cx.env) Q E (sh cx.T W tk) := by
 obtain ⟨f, h1, h2⟩ := listAt_some hl
 refine bi_call TO C S hx hb hfv (load_pl C PC S hm h1 fun v t tk' P => ?_)
 obtain ⟨a, vs, rfl, h3, h4⟩ := P.list h2
 exact k a vs tk' h3 h4
theorem p_len (TO : cx.T.Ok) (C : cx.Ok cb) (PC : isFld p = true → PgCls cx.T) (hp : patP cx.nm cx.env.scope.names p .len e = some es) (ha : SL Γ cx cb a es) : SL Γ cx cb (.peek .len p a) [e] := fun hf st W S tk T E H => by
 obtain ⟨rfl, x, hx, hm⟩ := patP_call hp
 obtain ⟨_, H⟩ := peek_some H
 refine ha (or_left hf) st W S tk (fun _ s => wpX cx (eval e cx.env) (fun v s => T [v] s) E s) E (Post.bind' H fun x st1 W1 tk1 vs l1 S1 r1 H1 => ?_)
 obtain ⟨g, hg, H2⟩ := oneO_some H1
 obtain ⟨ys, hl, hg⟩ := bsm (gdb hg).2
 obtain ⟨n, hn, rfl⟩ := msm hg
 exact p_call TO C PC S1 hx hm (by decide +kernel) (.inl ⟨"len", rfl⟩) hl fun a vs tk h1 h2 => lenL_ok h1 h2 hn fun t tk => val_ok H2 S1 .int
theorem p_copy (TO : cx.T.Ok) (C : cx.Ok cb) (PC : isFld p = true → PgCls cx.T) (hp : patP cx.nm cx.env.scope.names p .copy e = some es) (ha : SL Γ cx cb a es) : SL Γ cx cb (.peek .copy p a) [e] := fun hf st W S tk T E H => by
 obtain ⟨rfl, x, hx, hm⟩ := patP_call hp
 obtain ⟨_, H⟩ := peek_some H
 refine ha (or_left hf) st W S tk (fun _ s => wpX cx (eval e cx.env) (fun v s => T [v] s) E s) E (Post.bind' H fun x st1 W1 tk1 vs l1 S1 r1 H1 => ?_)
 obtain ⟨g, hg, H2⟩ := oneO_some H1
 obtain ⟨ys, hl, hg⟩ := bsm (gdb hg).2
 obtain ⟨hz, rfl⟩ := gd_some hg
 exact p_call TO C PC S1 hx hm (by decide +kernel) (.inr ⟨"list", rfl⟩) hl fun a vs tk h1 h2 => listL_ok S1 h1 h2 hz H2
theorem p_sub {x i : Expr} (C : cx.Ok cb) (PC : isFld p = true → PgCls cx.T) (hm : mPl cx.nm cx.env.scope.names p x = true) (hfe : isFld p = true → eff a = false) (ha : ∀ c', (c' = true → cx.c = true) → SL Γ cx c' a [i]) (hf : eff a = true → cb = true) (S : Sim cx st W) (hg : ∃ f, getP st p = some f)
  {K : List F → St → R (List F)} (H : Post cx (cx.d + 1) cb (RepL cx) W T E ((ev Γ a st).bind K))
  (k : ∀ v u fs st1 W1 tk1, Sim cx st1 W1 → RepL cx W1 [u] fs → Post cx (cx.d + 1) cb (RepL cx) W1 T E (K fs st1) → (∀ f, getP st1 p = some f → ∃ t, PlAt cx st1 W1 v f t p) → wpX cx (subscriptTail x i v u) (fun r s => T [r] s) E (sh cx.T W1 tk1)) :
  wpX cx (eval (.Subscript x i pos) cx.env) (fun v s => T [v] s) E (sh cx.T W tk) := by
 obtain ⟨f, hg⟩ := hg
 have hcb : (cb && !isFld p) = true → cb = true := fun h => (and2 h).1
 refine Subscript_ (load_pl C PC S hm hg fun v t tk' P => ha (cb && !isFld p) (fun h => C.cb (hcb h)) (fun h => ?_) st W S tk' (tw1 fun u s => wpX cx (subscriptTail x i v u) (fun r s => T [r] s) E s) E (Post.bind (Nat.le_refl _) hcb H fun fs st1 W1 tk1 us l1 S1 r1 H1 => ?_))
 · cases hp : isFld p with
   | true => rw [hfe hp] at h; cases h
   | false => rw [hf h]; rfl
 · match us, r1 with
   | [u], r1 => exact k v u fs st1 W1 tk1 S1 r1 H1 fun f hf => P.later S.fr S1 l1 (fun q => by rw [q]; exact Bool.and_false cb) hf
   | [], _ => trivial
   | _ :: _ :: _, _ => trivial
theorem p_idx (C : cx.Ok cb) (PC : isFld p = true → PgCls cx.T) (hp : patP cx.nm cx.env.scope.names p .idx e = some es) (hfe : isFld p = true → eff a = false) (ha : ∀ c', (c' = true → cx.c = true) → SL Γ cx c' a es) : SL Γ cx cb (.peek .idx p a) [e] := fun hf st W S tk T E H => by
 obtain ⟨x, i, q, rfl, rfl, hi, hm⟩ := patP_sub hp
 obtain ⟨hg, H⟩ := peek_some H
 refine p_sub C PC hm hfe ha (or_left hf) S hg H fun v u fs st1 W1 tk1 S1 r1 H1 later => ?_
 obtain ⟨g, hg, H2⟩ := oneO_some H1
 obtain ⟨k, hk, hg⟩ := bsm hg
 obtain ⟨n, hn, hg⟩ := bsm hg
 obtain ⟨ys, hl, hg⟩ := bsm hg
 obtain ⟨d, hd, rfl⟩ := msm hg
 obtain ⟨t1, rfl⟩ := (oneV_rep r1 hk).ii hn
 obtain ⟨f, h1, h2⟩ := listAt_some hl
 obtain ⟨t, P⟩ := later f h1
 obtain ⟨l, vs, rfl, h3, h4⟩ := P.list h2
 exact idxL_ok hi h3 h4 hd fun r hr => val_ok H2 S1 hr
theorem PlAt.dct {et : List (List Int × PyData)} (P : PlAt cx st W v (.dct et) t p) : ∃ x, v = .ref x ∧ W.t x = t ∧ DctAt cx.T W x et := by
 cases p with
 | loc i => exact P.2.2.2
 | fld i j => obtain ⟨n, P⟩ := P; exact P.r
theorem key_at {k : Addr} {m n : Int} (r : Rep W v (.tuple [.int m, .int n])) : ∃ k, v = .ref k ∧ IsTupleKey (intKind cx.T.prog cx.T.w) W.h [m, n] k ∧ ∃ o, W.z.get? k = some o := by
 obtain ⟨a, vs, rfl, ⟨o, g, hc, nn, hd⟩, ht, hr⟩ := r.inv
 refine ⟨a, rfl, ⟨o, vs, nn, g, hc, hd, ?_⟩, o, z_of ht g⟩
 obtain ⟨v1, vs1, e1, r1, r2⟩ := hr.inv
 obtain ⟨v2, vs2, rfl, r3, r4⟩ := r2.inv
 cases r4.inv0
 rw [e1]
 obtain ⟨_, rfl⟩ := r1.inv
 obtain ⟨_, rfl⟩ := r3.inv
 exact .cons (by simp [intKind, Value.isInt]) (.cons (by simp [intKind, Value.isInt]) .nil)
theorem p_key (C : cx.Ok cb) (PC : isFld p = true → PgCls cx.T) (hp : patP cx.nm cx.env.scope.names p .key e = some es) (hfe : isFld p = true → eff a = false) (ha : ∀ c', (c' = true → cx.c = true) → SL Γ cx c' a es) : SL Γ cx cb (.peek .key p a) [e] := fun hf st W S tk T E H => by
 obtain ⟨x, i, q, rfl, rfl, hi, hm⟩ := patP_sub hp
 obtain ⟨hg, H⟩ := peek_some H
 refine p_sub C PC hm hfe ha (or_left hf) S hg H fun v u fs st1 W1 tk1 S1 r1 H1 later => ?_
 obtain ⟨g, hg, H2⟩ := oneO_some H1
 obtain ⟨k, hk, hg⟩ := bsm hg
 obtain ⟨n, hn, hg⟩ := bsm hg
 obtain ⟨ys, hl, hg⟩ := bsm hg
 obtain ⟨d, hd, rfl⟩ := msm hg
 obtain ⟨m1, m2, rfl, rfl⟩ := keyI_some hn
 obtain ⟨ka, rfl, hkey, _⟩ := key_at (cx := cx) (k := 0) (oneV_rep r1 hk)
 obtain ⟨t, P⟩ := later _ (dctAt_some hl)
 obtain ⟨dx, rfl, _, hsys, xt, hdo, hrt⟩ := P.dct
 obtain ⟨kv, hkv, hr⟩ := (hrt.find (q := [m1, m2])).2 d hd
 refine tail_any (s := sh cx.T W1 tk1) hdo.typeIs slot_dict_getitem.lookup (wpAny_getItem_heap (knd := tupleKind (intKind cx.T.prog cx.T.w)) ?_ hkey hdo hkv (val_ok H2 S1 hr)) (notSlice_sub hi _ _)
 exact tupleKind_room_in1 (knd := intKind cx.T.prog cx.T.w) (Nat.lt_of_le_of_lt (Nat.add_le_add_left (by decide : 1 ≤ 200) _) C.units)
theorem empty_display {M : Model} {A : Around} {s : Shared} {env : Env} (h : Q (.ref s.heap.objs.size) { s with heap := s.heap.push { cls := .type "list", data := .seq #[] } }) : wpAny M A (eval (.List [] pos) env) Q E s :=
 wpAny_List (wpAny_items_nil ⟨Nat.zero_le _, h⟩)
theorem c_cmpNil {ne : Bool} (C : cx.Ok cb) (PC : isFld p = true → PgCls cx.T) (hm : mPl cx.nm cx.env.scope.names p x = true) : SC Γ cx cb (.cmpNil ne p) x (if ne then .NotEq else .Eq) (.List [] pos) := fun hf st W S tk Q E H => by
 replace H : Post cx (cx.d + 1) cb RV W Q E (oneO ((listAt st p).map fun xs => bV (if ne then !xs.isEmpty else xs.isEmpty)) st) := H
 cases hl : listAt st p with
 | none => rw [hl] at H; exact H.elim
 | some xs =>
  rw [hl] at H
  obtain ⟨f, h1, h2⟩ := listAt_some hl
  refine load_pl C PC S hm h1 fun v t tk' P => empty_display ?_
  obtain ⟨l, vs, rfl, h3, h4⟩ := P.list h2
  obtain ⟨l1, S1, z1⟩ := S.new (b := cx.d + 1) (cb := cb) (o := { cls := .type "list", data := .seq #[] }) .junk rfl rfl
  have hq : Q (.bool (if ne then !xs.isEmpty else xs.isEmpty)) { (sh cx.T W tk') with heap := W.h.push { cls := .type "list", data := .seq #[] } } := H ⟨W.t.put W.h.objs.size .junk, W.h.push { cls := .type "list", data := .seq #[] }⟩ tk' _ l1 S1 ⟨_, rfl, rfl⟩
  have g1 : (W.h.push { cls := .type "list", data := .seq #[] }).IsList l vs := h3.at fun o e => Heap.get?_push_of_some _ e
  have g2 : (W.h.push { cls := .type "list", data := .seq #[] }).IsList W.h.objs.size #[] := ⟨_, Heap.get?_push_size _ rfl, rfl, _, rfl⟩
  have hu : cx.A.units < cLine := Nat.lt_of_le_of_lt (Nat.le_add_right _ _) C.units
  have hlen := h4.length
  cases xs with
  | nil =>
   cases Array.ext' (ys := #[]) (List.eq_nil_of_length_eq_zero hlen)
   cases ne with
   | false => exact SeqAt.RcAt.lists (items := #[]) (items2 := #[]) (e := fun _ => true) g1 g2 rfl hu (fun j j1 => absurd j1 (Nat.not_lt_zero j)) _ _ E Q hq
   | true => exact SeqAt.RcNeAt.lists (items := #[]) (items2 := #[]) (e := fun _ => true) g1 g2 rfl hu (fun j j1 => absurd j1 (Nat.not_lt_zero j)) _ _ E Q hq
  | cons d ds =>
   have hne : (vs.size != (#[] : Array Value).size) = true := by
    rw [show vs.size = ds.length + 1 from hlen]; rfl
   cases ne with
   | false => exact SeqAt.RcAt.lists_lengths g1 g2 hne hu _ _ E Q hq
   | true => exact SeqAt.RcNeAt.lists_lengths g1 g2 hne hu _ _ E Q hq
end
noncomputable def ownedNames : List String := ["enumerate", "zip", "dict_itemiterator", "dict_reverseitemiterator", "odict_iterator", "itertools.zip_longest", "itertools.pairwise"]
structure WalkI (cx : Cx) (W : Ws) (xs : List PyData) (I : Addr) (fp : List Addr) (P : Nat → Value → Prop) (St : Nat → Heap → Prop) : Prop where
 wk : ∀ A : Around, A.handled = cx.A.handled → Walks cx.T.prog cx.T.w A I fp [I] xs.length P St
 rep : ∀ i v, P i v → ∃ d, xs[i]? = some d ∧ Rep W v d
 cover : ∀ b ∈ fp, b = I ∨ ∃ o, W.get b = some o ∧ (W.t b).lent cx.d cx.c = true
 typed : ∀ i h, St i h → ∃ o n, h.get? I = some o ∧ o.cls = .type n ∧ ownedNames.contains n = false
 junk : W.t I = .junk
 start : St 0 W.h
 size : xs.length ≤ sizeLine
noncomputable def RI (cx : Cx) (W : Ws) (v : Value) (xs : List PyData) : Prop := ∃ I fp P St, v = .ref I ∧ WalkI cx W xs I fp P St
noncomputable def SI (Γ : Nat → Fn) (cx : Cx) (cb : Bool) (kd : Nat) (c : CE) (e : Expr) : Prop := (eff c = true → cb = true) → ∀ st W, Sim cx st W → ∀ tk Q E, Post cx (cx.d + 1) cb (RI cx) W Q E ((ev Γ c st).bind (itE kd)) →
 wpX cx (eval e cx.env) (fun x s₁ => wpX cx (pyIter x) Q E s₁) E (sh cx.T W tk)
section
variable {Γ : Nat → Fn} {cx : Cx} {cb : Bool} {T : List Value → Shared → Prop} {Q : VP} {E : VP} {st : St} {W W' : Ws} {b tk : Nat} {d : PyData} {v u : Value} {f g : F} {e x y z l r : Expr} {a c : CE} {fs : List F} {vs : Array Value} {xs : List PyData} {t : Tag} {i : Nat}
theorem iter_new {fp : List Addr} {P : Nat → Value → Prop} {St : Nat → Heap → Prop} {o : Obj} (S : Sim cx st W) (hf : o.isFreed = false) (H : Post cx b cb (RI cx) W Q E (.ok xs st))
  (k : ∀ W', Fz W W' → (∀ x o, W.get x = some o → W'.get x = some o ∧ W'.t x = W.t x) → W'.h = W.h.push o → W'.t W.h.objs.size = .junk → WalkI cx W' xs W.h.objs.size fp P St) :
  Q (.ref W.h.objs.size) { (sh cx.T W tk) with heap := W.h.push o } := by
 obtain ⟨l, S', z⟩ := S.new (b := b) (cb := cb) (o := o) .junk hf rfl
 refine H ⟨W.t.put W.h.objs.size .junk, W.h.push o⟩ tk _ l S' ⟨_, fp, P, St, rfl, k _ z (fun x o e => ⟨Heap.get?_push_of_some _ e, Tags.put_ne (Nat.ne_of_lt (Heap.lt_size e))⟩) rfl (Tags.put_self ..)⟩
theorem it_list {a : Addr} (hn : cx.A.handled = none) (S : Sim cx st W) (hl : W.h.IsList a vs) (ht : (W.t a).lent cx.d cx.c = true) (hr : RepAll W vs.toList xs) (hz : okLen xs.length = true) (H : Post cx b cb (RI cx) W Q E (.ok xs st)) : wpX cx (pyIter (.ref a)) Q E (sh cx.T W tk) := by
 obtain ⟨o, ho, hc, n, hd⟩ := id hl
 have hne : a ≠ W.h.objs.size := Nat.ne_of_lt (Heap.lt_size ho)
 refine wpAny_pyIter_list (s := sh cx.T W tk) hl (iter_new S rfl H fun W' z k hh hj => ⟨fun A hA => by rw [← hr.size]; exact Walks.list (hA.trans hn) _ a hne vs, fun i v hv => (hr.mono z).get' (by rw [Array.getElem?_toList]; exact hv), fun b hb => ?_, ?_, hj, ?_, okLen_le hz⟩)
 · rcases List.mem_cons.mp hb with rfl | hb
   · exact .inl rfl
   · cases lsm hb; exact .inr ⟨o, (k _ o ho).1, by rw [(k _ o ho).2]; exact ht⟩
 · rintro i h ⟨⟨o, ho, hc, hd⟩, _⟩; exact ⟨o, _, ho, hc, by decide⟩
 · rw [hh]; exact ⟨⟨_, Heap.get?_push_size _ rfl, rfl, rfl⟩, hl.at fun o e => Heap.get?_push_of_some _ e⟩
theorem it_tuple {a : Addr} (hn : cx.A.handled = none) (S : Sim cx st W) (hl : IsTup W.h a vs) (ht : W.t a = .fz) (hr : RepAll W vs.toList xs) (hz : okLen xs.length = true) (H : Post cx b cb (RI cx) W Q E (.ok xs st)) : wpX cx (pyIter (.ref a)) Q E (sh cx.T W tk) := by
 obtain ⟨o, ho, hc, n, hd⟩ := id hl
 have hne : a ≠ W.h.objs.size := Nat.ne_of_lt (Heap.lt_size ho)
 refine wpAny_pyIter_tuple (s := sh cx.T W tk) ⟨o, ho, hc, n, hd⟩ (iter_new S rfl H fun W' z k hh hj => ⟨fun A hA => by rw [← hr.size]; exact Walks.tuple (hA.trans hn) _ a hne vs, fun i v hv => (hr.mono z).get' (by rw [Array.getElem?_toList]; exact hv), fun b hb => ?_, ?_, hj, ?_, okLen_le hz⟩)
 · rcases List.mem_cons.mp hb with rfl | hb
   · exact .inl rfl
   · cases lsm hb; exact .inr ⟨o, (k _ o ho).1, by rw [(k _ o ho).2, ht]; rfl⟩
 · rintro i h ⟨⟨o, ho, hc, hd⟩, _⟩; exact ⟨o, _, ho, hc, by decide⟩
 · rw [hh]; exact ⟨⟨_, Heap.get?_push_size _ rfl, rfl, rfl⟩, o, Heap.get?_push_of_some _ ho, hc, n, hd⟩
theorem sign_rep {q : Str} {i : Nat} (h : SignAt q i v) : ∃ d, ((cs q).map sgn)[i]? = some d ∧ Rep W v d := by
 obtain ⟨c, u, hc, rfl⟩ := h
 refine ⟨sgn c, ?_, .str⟩
 rw [List.getElem?_map, show (cs q)[i]? = some c from (Array.getElem?_toList).trans hc]; rfl
theorem it_str {q : Str} {t : Tok} (hn : cx.A.handled = none) (S : Sim cx st W) (hz : okLen (cs q).length = true) (H : Post cx b cb (RI cx) W Q E (.ok ((cs q).map sgn) st)) : wpX cx (pyIter (.str q t)) Q E (sh cx.T W tk) := by
 have hlen : q.cps.size = ((cs q).map sgn).length := by rw [lmp]; exact Array.length_toList.symm
 have hz' : ((cs q).map sgn).length ≤ sizeLine := by rw [lmp]; exact okLen_le hz
 cases hasc : q.cps.all (· < 128) with
 | false =>
  refine wpAny_pyIter_wide hasc (iter_new S rfl H fun W' z k hh hj => ⟨fun A hA => by rw [← hlen]; exact Walks.strWide (hA.trans hn) _ q t, fun i v => sign_rep, fun b hb => .inl (lsm hb), ?_, hj, ?_, hz'⟩)
  · rintro i h ⟨o, ho, hc, hd⟩; exact ⟨o, _, ho, hc, by decide⟩
  · rw [hh]; exact ⟨_, Heap.get?_push_size _ rfl, rfl, rfl⟩
 | true =>
  refine wpAny_pyIter_ascii hasc (iter_new S rfl H fun W' z k hh hj => ⟨fun A hA => by rw [← hlen]; exact Walks.strAscii (hA.trans hn) _ q t, fun i v => sign_rep, fun b hb => .inl (lsm hb), ?_, hj, ?_, hz'⟩)
  · rintro i h ⟨o, ho, hc, hd⟩; exact ⟨o, _, ho, hc, by decide⟩
  · rw [hh]; exact ⟨_, Heap.get?_push_size _ rfl, rfl, rfl⟩
theorem it_val (hn : cx.A.handled = none) (S : Sim cx st W) (hv : Rep W v d) (h : itemsF d = some xs) (H : Post cx b cb (RI cx) W Q E (.ok xs st)) : wpX cx (pyIter v) Q E (sh cx.T W tk) := by
 rcases or_some h with h | h
 · rcases or_some h with h | h
   · obtain ⟨q, hq, h⟩ := bsm h
     obtain ⟨hz, rfl⟩ := gd_some h
     obtain ⟨_, rfl⟩ := hv.ss hq
     exact it_str hn S hz H
   · obtain ⟨q, hq, h⟩ := bsm h
     obtain ⟨hz, rfl⟩ := gd_some h
     obtain ⟨a, vs, rfl, hl, ht, hr⟩ := hv.ll hq
     exact it_list hn S hl (by rw [ht]; rfl) hr hz H
 · obtain ⟨q, hq, h⟩ := bsm h
   obtain ⟨hz, rfl⟩ := gd_some h
   obtain ⟨a, vs, rfl, hl, ht, hr⟩ := hv.tt hq
   exact it_tuple hn S hl ht hr hz H
theorem it_what {K : PyData → Option (List PyData)} (b : Nat) (cb : Bool) (S : Sim cx st W) (r : RepA cx W v f) (hK : itF1 K st.v f = some xs) : ∃ t', Le cx.d b cb W ⟨t', W.h⟩ ∧ Sim cx st ⟨t', W.h⟩ ∧
  ((∃ a vs, v = .ref a ∧ W.h.IsList a vs ∧ (t' a).lent cx.d cx.c = true ∧ RepAll ⟨t', W.h⟩ vs.toList xs ∧ okLen xs.length = true) ∨ ∃ d, Rep ⟨t', W.h⟩ v d ∧ K d = some xs) := by
 cases f with
 | val d => exact ⟨W.t, Le.refl, S, .inr ⟨d, r, hK⟩⟩
 | own ys =>
  obtain ⟨hz, rfl⟩ := gd_some (show gd (okLen ys.length) ys = some xs from hK)
  obtain ⟨t', l2, S2, r2, _⟩ := S.frz (c := cb) b r
  obtain ⟨a, vs, rfl, hl, ht, hr⟩ := Rep.inv (d := .list ys) r2
  exact ⟨t', l2, S2, .inl ⟨a, vs, rfl, hl, by rw [show t' a = .fz from ht]; rfl, hr, hz⟩⟩
 | lnd i =>
  obtain ⟨y, h1, h2, h3⟩ := r
  replace hK : lentF K st.v i = some xs := hK
  unfold lentF at hK
  cases hs : slot st.v i with
  | none => rw [hs] at hK; exact nos hK
  | some g =>
   rw [hs] at hK
   obtain ⟨u, hu, r⟩ := S.fr.vals i g y hs h1 h2
   cases h3.uniq hu
   refine ⟨W.t, Le.refl, S, ?_⟩
   cases g with
   | brw ys =>
    obtain ⟨hz, rfl⟩ := gd_some (show gd (okLen ys.length) ys = some xs from hK)
    obtain ⟨a, vs, rfl, hl, ht, hr⟩ := r
    exact .inl ⟨a, vs, rfl, hl, ht, hr, hz⟩
   | val d => exact .inr ⟨d, r, hK⟩
   | _ => exact nos hK
 | _ => exact nos hK
theorem it_one (hn : cx.A.handled = none) (S : Sim cx st W) (r : RepA cx W v f) (hK : itF1 itemsF st.v f = some xs) (H : Post cx b cb (RI cx) W Q E (.ok xs st)) : wpX cx (pyIter v) Q E (sh cx.T W tk) := by
 obtain ⟨t', l, S', h⟩ := it_what b cb S r hK
 rcases h with ⟨a, vs, rfl, hl, ht, hr, hz⟩ | ⟨d, hr, hd⟩
 · exact it_list hn (W := ⟨t', W.h⟩) S' hl ht hr hz (H.to l)
 · exact it_val hn (W := ⟨t', W.h⟩) S' hr hd (H.to l)
theorem rep_one (r : RepL cx W [v] fs) (h : one fs = some f) : RepA cx W v f := by cases one_eq h; exact r.1
theorem i_data (hn : cx.A.handled = none) (ha : SL Γ cx cb a [e]) : SI Γ cx cb 0 a e := fun hf st W S tk Q E H =>
 ha hf st W S tk (tw1 fun v s => wpX cx (pyIter v) Q E s) E (Post.bind' H fun x st1 W1 tk1 vs l1 S1 r1 H1 => by
  unfold itE at H1
  cases hi : itF 0 st1.v x with
  | none => rw [hi] at H1; exact H1.elim
  | some xs =>
   rw [hi] at H1
   obtain ⟨f, h1, h2⟩ := bsm (show (one x).bind (itF1 itemsF st1.v) = some xs from hi)
   match vs, r1 with
   | [v], r1 => exact it_one hn S1 (rep_one r1 h1) h2 H1
   | [], _ => trivial
   | _ :: _ :: _, _ => trivial)
end
section
variable {prog : Program} {w : World} {A : Around} {E : VP} {s : Shared} {it : Addr} {x left step : Int} {Q : Option Value → Shared → Prop}
theorem entry_unchain : entryFor table "proto.unchain" = some Builtin.«proto.unchain» := entryFor_of_tree (by kernel_rfl)
theorem range_end (hh : Hnd A.handled s.heap) (hit : IsRangeIter s.heap it x left step) (hleft : left ≤ 0) (hQ : ∀ h', Heap.ExtBut it s.heap h' → Q none { s with heap := h' }) : wpAny (model prog w) A (pyNext (.ref it)) Q E s := by
 obtain ⟨e, oe, vs, hh, he, hd, h2⟩ := hh
 have hT : s.TypeIs (.ref it) "range_iterator" := ⟨_, hit, rfl⟩
 have hlt := Heap.lt_size he
 unfold pyNext
 refine wpAny_bind (wpAny_attempt (wpAny_callSpecial?_slot (name := Str.ofString "__next__") hT F.slot_range_iterator_next (wpAny_call_entry F.slot_range_iterator_next hT F.entry_range_iterator_next ?_ (F.args_range_iterator_next_1 _))))
 refine wpAny_bind (m := field (.ref it) 0) (wpAny_field hit rfl (x := rawInt x) rfl (wpAny_bind (m := field (.ref it) 1) (wpAny_field hit rfl (x := rawInt left) rfl (wpAny_bind (m := field (.ref it) 2) (wpAny_field hit rfl (x := rawInt step) rfl ?_)))))
 show wpAny _ _ (if left ≤ 0 then _ else _) _ _ s
 rw [if_pos hleft]
 refine wpAny_bind (wpAny_rule (wpAny_bind ?_))
 show wpAny _ _ (newExc (.type "StopIteration") [] >>= _) _ _ _
 refine wpAny_bind ?_
 simp only [newExc, newTuple]
 refine wpAny_bind (wpAny_newObj_type (wpAny_bind (m := firstArgMember _ _) (wpAny_of_eq (a := Value.none) (by first | rfl | (simp only [firstArgMember]; rfl)) (wpAny_newObj_type ?_ (by size_fits)))) (by size_fits))
 delta raiseNew
 refine wpAny_bind (wpAny_handled ?_)
 rw [show A.in1.handled = some (.ref e) from hh]
 generalize hH : (s.heap.push { cls := Value.type "tuple", data := Data.seq #[] }) = H
 have kH : ∀ b o, s.heap.get? b = some o → H.get? b = some o := fun b o g => hH ▸ Heap.get?_push_of_some _ g
 generalize hX : ({ cls := Value.type "StopIteration", data := Data.fields (#[Value.ref s.heap.objs.size, Value.none, Value.none, Value.none, Value.bool false, Value.none] ++ ownMembersOf (Value.type "StopIteration") []) } : Obj) = X
 have ne : e ≠ H.objs.size := Nat.ne_of_lt (Heap.lt_size (kH _ _ he))
 have he' := Heap.get?_push_of_some X (kH _ _ he)
 have hf : X.isFreed = false := hX ▸ rfl
 show wpAny _ _ (if (Value.ref e != Value.ref H.objs.size) = true then _ else _) _ _ _
 rw [if_pos (by simpa using ne)]
 refine wpAny_bind (wpAny_holding (wpAny_runValue (codeAny_builtin entry_unchain ?_)))
 refine wpAny_bind (m := field (.ref e) 2) (wpAny_field he' hd h2 ?_)
 show wpAny _ _ (ret .none) _ _ _
 refine wpAny_pure ?_
 show wpAny _ _ (setField (.ref H.objs.size) 2 (.ref e) >>= _) _ _ _
 have hX' : X.data = .fields #[Value.ref s.heap.objs.size, Value.none, Value.none, Value.none, Value.bool false, Value.none] := hX ▸ rfl
 have gX := Heap.get?_push_size H (o := X) hf
 refine wpAny_bind (wpAny_setField gX hX' (by show 2 < 6; decide) (wpAny_throw ?_))
 have gX' := Heap.get?_update_self (Obj.mapFields (·.setIfInBounds 2 (Value.ref e))) gX (Obj.isFreed_of_fields (Obj.data_mapFields hX' _))
 refine wpAny_bind (wpAny_isInstance (T := "StopIteration") (b := true) ⟨_, gX', (Obj.cls_mapFields _ _).trans (hX ▸ rfl)⟩ isSubtype_stop ?_)
 refine wpAny_pure (hQ _ fun b o hb g => ?_)
 have g1 := kH b o g
 exact (Heap.get?_update_other _ _ (Nat.ne_of_gt (Heap.lt_size g1))).trans (Heap.get?_push_of_some X g1)
noncomputable def hdA : Option Value → List Addr
 | some (.ref e) => [e]
 | _ => []
theorem Hnd.keep {hd : Option Value} {h h' : Heap} (k : ∀ b ∈ hdA hd, ∀ o, h.get? b = some o → h'.get? b = some o) (q : hd = none ∨ Hnd hd h) : hd = none ∨ Hnd hd h' :=
 q.imp id fun ⟨e, oe, vs, h1, h2, h3⟩ => ⟨e, oe, vs, h1, k e (by rw [h1]; exact .head _) oe h2, h3⟩
theorem walks_range (A : Around) (I : Addr) (lo : Int) (n : Nat) : Walks prog w A I (I :: hdA A.handled) [I] n (fun i v => i < n ∧ ∃ t, v = .int (lo + (i : Nat)) t) (fun i h => IsRangeIter h I (lo + (i : Nat)) ((n : Int) - (i : Nat)) 1 ∧ (A.handled = none ∨ Hnd A.handled h)) where
 sub := fun b hb => lsm hb ▸ .head _
 frame := fun _ _ _ st hk => ⟨hk I (.head _) _ st.1, Hnd.keep (fun b hb o g => hk b (.tail _ hb) o g) st.2⟩
 item := fun i s Q E hi st hQ => wpAny_pyNext_range_item st.1 (by lia) fun h' hit' hs' => by
  refine hQ _ h' _ ⟨hi, _, rfl⟩ ⟨?_, st.2.imp id fun ⟨e, oe, vs, h1, h2, h3, h4⟩ => ⟨e, oe, vs, h1, (hs'.2 e fun q => ?_).trans h2, h3, h4⟩⟩ fun b o hb e => hs'.extBut b o (fun h => hb (List.mem_singleton.mpr h)) e
  · have e1 : lo + ((i + 1 : Nat) : Int) = lo + (i : Int) + 1 := by lia
    have e2 : (n : Int) - ((i + 1 : Nat) : Int) = (n : Int) - (i : Int) - 1 := by lia
    rw [e1, e2]; exact hit'
  · subst q
    cases h2.symm.trans st.1
    cases h3
    cases h4
 done := fun s Q E st hQ => by
  have fin : ∀ h', Heap.ExtBut I s.heap h' → Q none { s with heap := h' } := fun h' he' => hQ h' s.toks fun b o hb e => he' b o (fun h => hb (List.mem_singleton.mpr h)) e
  rcases st.2 with hh | hh
  · exact wpAny_pyNext_range_end hh st.1 (by lia) fin
  · exact range_end hh st.1 (by lia) fin
 self := fun _ _ _ _ st hQ => wpAny_pyIter_rangeiter st.1 hQ
end
section
variable {Γ : Nat → Fn} {cx : Cx} {cb : Bool} {T : List Value → Shared → Prop} {Q : VP} {E : VP} {st : St} {W W' : Ws} {b tk : Nat} {d : PyData} {v : Value} {f : F} {e x z r : Expr} {es : List Expr} {a : CE} {vs : Array Value} {xs : List PyData} {t : Tag} {i : Nat} {lo hi : Int}
theorem rangeF_some (h : rangeF lo hi = some xs) : (-16777216 ≤ lo ∧ lo ≤ 16777216) ∧ (-16777216 ≤ hi ∧ hi ≤ 16777216) ∧ (hi - lo).toNat ≤ sizeLine ∧ xs = (List.range (hi - lo).toNat).map fun (k : Nat) => PyData.int (lo + k) := by
 obtain ⟨h', rfl⟩ := gd_some h
 obtain ⟨h', h3⟩ := and2 h'
 obtain ⟨h1, h2⟩ := and2 h'
 exact ⟨(okInt_of h1).symm, (okInt_of h2).symm, okLen_le h3, rfl⟩
theorem Sim.hd (C : cx.Ok cb) (S : Sim cx st W) : cx.A.handled = none ∨ Hnd cx.A.handled W.z := by
 cases h : cx.h with
 | false => exact .inl (C.hand h)
 | true => exact .inr (S.fr.hnd h)
theorem it_range {R : Addr} {t1 t2 t3 : Tok} (hd : cx.A.handled = none ∨ Hnd cx.A.handled W.z) (S : Sim cx st W) (hR : IsRange W.h R lo hi 1 t1 t2 t3) (h : rangeF lo hi = some xs) (H : Post cx b cb (RI cx) W Q E (.ok xs st)) : wpX cx (pyIter (.ref R)) Q E (sh cx.T W tk) := by
 obtain ⟨hlo, hhi, hz, rfl⟩ := rangeF_some h
 have hsz : Builtin.Range.rangeSize lo hi 1 = (((hi - lo).toNat : Nat) : Int) := by rw [rangeSize_one]; split <;> lia
 have hlen : ((List.range (hi - lo).toNat).map fun (k : Nat) => PyData.int (lo + k)).length = (hi - lo).toNat := by rw [lmp, List.length_range]
 refine wpAny_pyIter_range (s := sh cx.T W tk) hR (small_one (by lia) (by lia) (by lia) (by lia)) (iter_new (fp := W.h.objs.size :: hdA cx.A.handled) (P := fun i v => i < (hi - lo).toNat ∧ ∃ t, v = .int (lo + (i : Nat)) t)
  (St := fun i h => IsRangeIter h W.h.objs.size (lo + (i : Nat)) (((hi - lo).toNat : Int) - (i : Nat)) 1 ∧ (cx.A.handled = none ∨ Hnd cx.A.handled h)) S rfl H fun W' z k hh hj => ⟨fun A' hA => by rw [hlen, ← hA]; exact walks_range A' _ lo _, ?_, fun b hb => ?_, fun i h hi => ⟨_, _, hi.1, rfl, by decide⟩, hj, ⟨?_, hd.imp id fun q => ?_⟩, by rw [hlen]; exact hz⟩)
 · rintro i v ⟨hi', t, rfl⟩
   exact ⟨.int (lo + i), by rw [List.getElem?_map, List.getElem?_range hi']; rfl, .int⟩
 · rcases List.mem_cons.mp hb with rfl | hb
   · exact .inl rfl
   · rcases hd with hd | ⟨e, oe, vs, h1, h2, _⟩
     · rw [hd] at hb; cases hb
     · rw [h1] at hb
       cases lsm hb
       have := z_in (z _ _ h2)
       exact .inr ⟨oe, this.2, by rw [this.1]; rfl⟩
 · rw [hh, hsz, show ((0 : Nat) : Int) = 0 from rfl, Int.add_zero, Int.sub_zero]
   exact Heap.get?_push_size W.h (o := { cls := .type "range_iterator", data := .fields #[rawInt lo, rawInt (((hi - lo).toNat : Nat) : Int), rawInt 1] }) rfl
 · obtain ⟨e, oe, vs, h1, h2, h3⟩ := q
   exact ⟨e, oe, vs, h1, (z_in (z _ _ h2)).2, h3⟩
theorem i_range (TO : cx.T.Ok) (C : cx.Ok cb) (hp : patI cx.env.scope.names 1 e = some es) (ha : SL Γ cx cb a es) : SI Γ cx cb 1 a e := fun hf st W S tk Q E H => by
 refine bi_call TO C S hp (fv := .type "range") (by decide +kernel) (.inr ⟨"range", rfl⟩) (ha hf st W S tk _ E (Post.bind' H fun x st1 W1 tk1 vs l1 S1 r1 H1 => ?_))
 unfold itE at H1
 cases hi : itF 1 st1.v x with
 | none => rw [hi] at H1; exact H1.elim
 | some xs =>
  rw [hi] at H1
  have go : ∀ {o : Obj} {lo hi : Int} {t1 t2 t3 tk2 : Nat}, o = { cls := .type "range", data := .fields #[.int lo t1, .int hi t2, .int 1 t3] } → rangeF lo hi = some xs → wpX cx (pyIter (.ref W1.h.objs.size)) Q E (sh cx.T ⟨W1.t, W1.h.push o⟩ tk2) := fun {o lo hi t1 t2 t3 tk2} ho h => by
   subst ho
   obtain ⟨l2, S2, z2⟩ := S1.new (b := cx.d + 1) (cb := cb) (o := { cls := .type "range", data := .fields #[.int lo t1, .int hi t2, .int 1 t3] }) .junk rfl rfl
   exact it_range (S2.hd C) (W := ⟨W1.t.put W1.h.objs.size .junk, W1.h.push { cls := .type "range", data := .fields #[.int lo t1, .int hi t2, .int 1 t3] }⟩) S2 (IsRange.new ..) h (H1.to l2)
  rcases or_some (show ((one x).bind fun f => (valOf f).bind fun d => (asI d).bind fun n => rangeF 0 n).or ((valsOf x).bind fun ds => (two ds).bind fun q => op2 asI q.1 q.2 rangeF) = some xs from hi) with hi | hi
  · obtain ⟨f, h1, hi1⟩ := bsm hi
    obtain ⟨d, h2, hi2⟩ := bsm hi1
    obtain ⟨n, h3, hi3⟩ := bsm hi2
    obtain ⟨d', hf', h4⟩ := valOf_as (as := asI) (f := f) (t := n) (by rw [h2]; exact h3)
    cases one_eq h1
    subst hf'
    obtain ⟨v, rfl, r⟩ := r1.one
    obtain ⟨t, rfl⟩ := Rep.ii h4 r
    exact call_range_1 (go rfl hi3)
  · obtain ⟨ds, hd, hi1⟩ := bsm hi
    obtain ⟨q, hq, hi2⟩ := bsm hi1
    obtain ⟨m, n, hm, hn, hi3⟩ := op2_some hi2
    obtain ⟨v1, vs1, rfl, r2, r3⟩ := (two_eq hq ▸ vals_of r1 hd).inv
    obtain ⟨v2, vs2, rfl, r4, r5⟩ := r3.inv
    cases r5.inv0
    obtain ⟨_, rfl⟩ := r2.ii hm
    obtain ⟨_, rfl⟩ := r4.ii hn
    exact call_range_2 (go rfl hi3)
end
noncomputable def F.isRet : F → Bool
 | .val _ => true
 | .own _ => true
 | _ => false
noncomputable def RFl (cx : Cx) (W : Ws) (fl : Flow) : Fl → Prop
 | .next => fl = .next
 | .ret f => ∃ v, fl = .ret v ∧ RepA cx W v f ∧ f.isRet = true
noncomputable def SS (Γ : Nat → Fn) (cx : Cx) (c : CS) (t : Stmt) : Prop := ∀ st W, Sim cx st W → ∀ tk Q E, Post cx cx.d cx.c (RFl cx) W Q E (ex Γ c st) → wpX cx (exec t cx.env) Q E (sh cx.T W tk)
noncomputable def SSs (Γ : Nat → Fn) (cx : Cx) (c : CS) (ts : List Stmt) : Prop := ∀ st W, Sim cx st W → ∀ tk Q E, Post cx cx.d cx.c (RFl cx) W Q E (ex Γ c st) → wpX cx (execs ts cx.env) Q E (sh cx.T W tk)
section
variable {Γ : Nat → Fn} {cx : Cx} {cb : Bool} {T : List Value → Shared → Prop} {Q : FP} {E : VP} {st st' : St} {W W' : Ws} {b tk : Nat} {d : PyData} {v u : Value} {f g : F} {pos pos' : Pos} {e x y z l r : Expr} {es : List Expr} {a c : CE} {s s' : CS} {t : Stmt} {ts ts' : List Stmt} {p : Pl} {vs ws : Array Value} {xs ys : List PyData} {tg : Tag} {i : Nat}
theorem swaps_no {v : Expr} {t : Option Expr} {n : Nat} {env : Env} (h : notComp v = true) : swapsWith v t n env = pure false := by cases v <;> first | rfl | cases h
theorem next_ok (H : Post cx b cb (RFl cx) W Q E (.ok .next st)) (l : Le cx.d b cb W W') (S : Sim cx st W') : Q .next (sh cx.T W' tk) := H W' tk .next l S rfl
theorem nextO_some {o : Option St} (H : Post cx b cb (RFl cx) W Q E (nextO o)) : ∃ st, o = some st ∧ Post cx b cb (RFl cx) W Q E (.ok .next st) := by
 cases o with
 | none => exact H.elim
 | some st => exact ⟨st, rfl, H⟩
theorem SL.inS {δ γ : Type} {Rl : Ws → γ → δ → Prop} {Q : γ → Shared → Prop} {k : List F → St → R δ} (h : SL Γ cx cx.c c es) (hc : eff c = true → cx.c = true) (S : Sim cx st W) (H : Post cx cx.d cx.c Rl W Q E ((ev Γ c st).bind k))
  (q : ∀ x st1 W1 tk1 vs, Le cx.d (cx.d + 1) cx.c W W1 → Sim cx st1 W1 → RepL cx W1 vs x → Post cx cx.d cx.c Rl W1 Q E (k x st1) → T vs (sh cx.T W1 tk1)) : seqW cx E es T (sh cx.T W tk) :=
 h hc st W S tk T E (H.bind (Nat.le_succ _) id q)
theorem ss_nil : SSs Γ cx .nil [] := fun st W S tk Q E H => wpAny_execs_nil (next_ok H Le.refl S)
theorem ss_seq (h1 : SS Γ cx s t) (h2 : SSs Γ cx s' ts) : SSs Γ cx (.seq s s') (t :: ts) := fun st W S tk Q E H => wpAny_execs_cons (h1 st W S tk _ E (Post.bind' H fun fl st1 W1 tk1 v l1 S1 r1 H1 => by
 cases fl with
 | next => cases show v = .next from r1; exact h2 st1 W1 S1 tk1 Q E H1
 | ret f => obtain ⟨u, rfl, r⟩ := r1; exact H1 W1 tk1 _ Le.refl S1 ⟨u, rfl, r⟩))
theorem storO_some {p : Pl} (h : storO f p = some g) : g = f ∧ f.isLnd = false := by
 cases f with
 | val d => cases h; exact ⟨rfl, rfl⟩
 | own xs => cases h; exact ⟨rfl, rfl⟩
 | pg k => obtain ⟨_, rfl⟩ := gd_some h; exact ⟨rfl, rfl⟩
 | _ => exact nos h
theorem storO_ret (h : storO f (.fld 0 0) = some g) : g.isRet = true := by
 cases f with
 | val d => cases h; rfl
 | own xs => cases h; rfl
 | _ => exact nos h
theorem s_ret (hc : eff a = true → cx.c = true) (ha : SL Γ cx cx.c a [x]) : SS Γ cx (.ret a) (.Return (some x) pos) := fun st W S tk Q E H =>
 wpAny_Return_some (ha.inS (T := tw1 fun v s => Q (.ret v) s) hc S H fun y st1 W1 tk1 vs l1 S1 r1 H1 => by
  unfold retE at H1
  cases hg : (one y).bind fun f => storO f (.fld 0 0) with
  | none => rw [hg] at H1; exact H1.elim
  | some g =>
   rw [hg] at H1
   obtain ⟨f, h1, h2⟩ := bsm hg
   have hr := storO_ret h2
   obtain ⟨rfl, hf⟩ := storO_some h2
   match vs, r1 with
   | [v], r1 => exact H1 W1 tk1 _ Le.refl S1 ⟨v, rfl, rep_one r1 h1, hr⟩
   | [], _ => trivial
   | _ :: _ :: _, _ => trivial)
theorem s_retN : SS Γ cx .retN (.Return none pos) := fun st W S tk Q E H => wpAny_Return_none (H W tk _ Le.refl S ⟨.none, rfl, show Rep W .none .none from .none, rfl⟩)
theorem s_iff (hc : eff a = true → cx.c = true) (ha : SB Γ cx cx.c a x) (h1 : SSs Γ cx s ts) (h2 : SSs Γ cx s' ts') : SS Γ cx (.iff a s s') (.If x ts ts' pos) := fun st W S tk Q E H =>
 wpAny_If (ha hc st W S tk _ E (H.bind (Nat.le_succ _) id fun t st1 W1 tk1 v l1 S1 r1 H1 => by
  cases show v = t from r1
  cases t with
  | true => exact h1 st1 W1 S1 tk1 Q E H1
  | false => exact h2 st1 W1 S1 tk1 Q E H1))
theorem PlAt.nt (P : PlAt cx st W v f tg p) : tg ≠ .fz ∧ tg.isInst = false := by
 cases p with
 | loc i => rw [P.2.1]; exact ⟨Tag.noConfusion, rfl⟩
 | fld i j => obtain ⟨n, P⟩ := P; rw [P.tg]; exact ⟨Tag.noConfusion, rfl⟩
theorem Sim.changed {x : Addr} {h' : Heap} (S : Sim cx st W) (P : PlAt cx st W (.ref x) f tg p) (hx : W.t x = tg) (hcc : isFld p = true → cx.c = true) (hcb : isFld p = true → cb = true) (hs : ∀ b o, b ≠ x → W.get b = some o → h'.get? b = some o) (ho : ∃ o, h'.get? x = some o) (hr : Fz W ⟨W.t, h'⟩ → RepF cx.T ⟨W.t, h'⟩ tg (.ref x) g) (hset : setP st (some g) p = some st') :
  Le cx.d b cb W ⟨W.t, h'⟩ ∧ Sim cx st' ⟨W.t, h'⟩ := by
 have B : But x W ⟨W.t, h'⟩ := .keep hs
 obtain ⟨n1, n2⟩ := P.nt
 rw [← hx] at n1 n2
 exact ⟨B.le (P.fr hx hcb) (ni_of n2), S.putPl P hcc hx B ho (ni_of n2) (fun f' e => by cases e; exact hr (B.fz n1)) hset⟩
theorem Sim.updPl {x : Addr} {h' : Heap} (S : Sim cx st W) (P : PlAt cx st W (.ref x) (.own xs) tg p) (hx : W.t x = tg) (hcc : isFld p = true → cx.c = true) (hcb : isFld p = true → cb = true) (hs : ∀ b o, b ≠ x → W.get b = some o → h'.get? b = some o) (hp : h'.PlainList x ws) (hr : RepAll W ws.toList ys) (hset : setP st (some (.own ys)) p = some st') :
  Le cx.d b cb W ⟨W.t, h'⟩ ∧ Sim cx st' ⟨W.t, h'⟩ :=
 S.changed (g := .own ys) P hx hcc hcb hs (let ⟨n, g⟩ := hp; ⟨_, g⟩) (fun hz => ⟨x, ws, rfl, hp, hx, hr.mono hz⟩) hset
theorem inter (C : cx.Ok cb) : interactive cx.env = false := by unfold interactive; rw [C.kind]; rfl
theorem s_drop (C : cx.Ok cx.c) (hc : eff a = true → cx.c = true) (ha : SL Γ cx cx.c a [x]) (hn : notComp x = true) : SS Γ cx (.drop a) (.Expr x pos) := fun st W S tk Q E H => by
 rw [exec_Expr cx.env x pos (inter C) (swaps_no hn)]
 exact wpAny_bind (wpAny_standAt (wpAny_bind (ha.inS (T := tw1 fun v s => wpX cx (dropValue x pos v) Q E s) hc S H fun y st1 W1 tk1 vs l1 S1 r1 H1 => by
  match vs with
  | [v] => exact wpAny_dropValue (next_ok H1 Le.refl S1)
  | [] => trivial
  | _ :: _ :: _ => trivial)))
theorem s_assign' {n : Str} (C : cx.Ok cx.c) (Fu : cx.Full) (hn : isLoc cx.nm cx.env.scope.names i n = true) (hv : swapsWith x (some (.Name n pos')) pos.line cx.env = pure false) (hc : eff a = true → cx.c = true) (ha : SL Γ cx cx.c a [x]) : SS Γ cx (.assign (.loc i) a) (.Assign [.Name n pos'] x pos) := fun st W S tk Q E H =>
 wpAny_Assign_Name (ha.inS (T := tw1 fun v s => wpX cx (storeName cx.env n v) (fun _ s => Q .next s) E s) hc S H fun y st1 W1 tk1 vs l1 S1 r1 H1 => by
  obtain ⟨st2, hs, H2⟩ := nextO_some H1
  obtain ⟨f, h1, hs1⟩ := bsm hs
  obtain ⟨g, h2, hs2⟩ := bsm hs1
  obtain ⟨rfl, hf⟩ := storO_some h2
  obtain ⟨hi, rfl⟩ := gd_some hs2
  match vs, r1 with
  | [v], r1 => exact S1.store Fu C.kind (rep_one r1 h1) hf (acc_of hn).1 (odt hi) fun W' tk' l S' => next_ok H2 l S'
  | [], _ => trivial
  | _ :: _ :: _, _ => trivial) hv
theorem mNames_inv {nm : List Str} {kd : Kd} {j : Nat} {is : List Nat} (h : mNames nm kd (j :: is) es = true) : ∃ z q r, es = .Name z q :: r ∧ isLoc nm kd j z = true ∧ mNames nm kd is r = true := by
 cases es with
 | nil => cases h
 | cons e es =>
  obtain ⟨h1, h2⟩ := and2 (show (onS (asName e) (isLoc nm kd j) && mNames nm kd is es) = true from h)
  obtain ⟨z, h3, h1⟩ := onS_true h1
  obtain ⟨q, rfl⟩ := asName_eq h3
  exact ⟨z, q, es, rfl, h1, h2⟩
theorem mNames_nil {nm : List Str} {kd : Kd} (h : mNames nm kd [] es = true) : es = [] := lem h
theorem each_names {nm : List Str} {kd : Kd} {env : Env} {is : List Nat} (h : mNames nm kd is es = true) : (assignEach es env).findIdx? (·.1) = none ∧ (assignEach es env).length = is.length := by
 induction is generalizing es with
 | nil => rw [mNames_nil h]; exact ⟨rfl, rfl⟩
 | cons j is ih =>
  obtain ⟨z, q, r, rfl, _, h2⟩ := mNames_inv h
  obtain ⟨i1, i2⟩ := ih h2
  refine ⟨?_, congrArg (· + 1) i2⟩
  show ((false, assign (.Name z q) env) :: assignEach r env).findIdx? (·.1) = none
  rw [List.findIdx?_cons, i1]; rfl
theorem setAll_len {is : List Nat} {ds : List PyData} {vv vv' : Slots} (h : setAll is ds vv = some vv') : is.length = ds.length := by
 induction is generalizing ds vv with
 | nil => rw [lem (gd_some h).1]; rfl
 | cons j is ih => cases ds with
  | nil => exact nos h
  | cons d ds => exact congrArg (· + 1) (ih (gdb h).2)
theorem assign_all {QU : UP} {is : List Nat} {ds : List PyData} {vl : List Value} {vv' : Slots} (C : cx.Ok cx.c) (Fu : cx.Full) (hm : mNames cx.nm cx.env.scope.names is es = true) (hr : RepAll W vl ds) (hs : setAll is ds st.v = some vv') (S : Sim cx st W)
  (hq : ∀ W' tk', Le cx.d cx.d cx.c W W' → Sim cx { st with v := vv' } W' → QU () (sh cx.T W' tk')) : wpX cx (assignInOrder ((assignEach es cx.env).map (·.2)) vl) QU E (sh cx.T W tk) := by
 induction is generalizing es ds vl st W tk with
 | nil =>
  rw [mNames_nil hm]
  obtain ⟨h1, rfl⟩ := gd_some hs
  rw [lem h1] at hr
  cases hr.inv0
  exact wpAny_pure (hq W tk Le.refl S)
 | cons j is ih =>
  obtain ⟨z, q, r, rfl, h1, h2⟩ := mNames_inv hm
  cases ds with
  | nil => exact nos hs
  | cons d ds =>
   obtain ⟨hi, hs⟩ := gdb hs
   obtain ⟨v, vl, rfl, r1, r2⟩ := hr.inv
   show wpAny _ _ (do holding vl (assign (.Name z q) cx.env v); assignInOrder ((assignEach r cx.env).map (·.2)) vl) QU E _
   refine wpAny_bind (wpAny_holding (wpAny_assign_Name (S.store (cb := cx.c) (f := .val d) Fu C.kind r1 rfl (acc_of h1).1 (odt hi) fun W' tk' l S' => ?_)))
   exact ih h2 (r2.mono l.fz) hs S' fun W2 tk2 l2 S2 => hq W2 tk2 (l.trans l2) S2
theorem Sim.grow {h' : Heap} (S : Sim cx st W) (he : ∀ b o, W.get b = some o → h'.get? b = some o) : Le cx.d b cb W ⟨W.t, h'⟩ ∧ Sim cx st ⟨W.t, h'⟩ := by
 have g := dead_at W.h (Nat.le_refl W.h.objs.size)
 have q := S.ok.dead _ g
 have B : But W.h.objs.size W ⟨W.t, h'⟩ := .keep fun b o _ e => he b o e
 have ni : NI ⟨W.t, h'⟩ W.h.objs.size := ni_of (by rw [show Ws.t _ _ = _ from q]; rfl)
 exact ⟨B.le (.dead g) ni, S.but B (by rw [q]; rfl) (by rw [q]; rfl) (fun i => by rw [q]; intro e; cases e) (fun _ => q) ni⟩
theorem assign_tup {QU : UP} {is : List Nat} {ds : List PyData} {k : Nat} {vv' : Slots} (h0 : cx.h = false) (C : cx.Ok cx.c) (Fu : cx.Full) (hm : mNames cx.nm cx.env.scope.names is es = true) (hr : Rep W v (.tuple ds)) (hs : setAll is ds st.v = some vv') (S : Sim cx st W)
  (hq : ∀ W' tk', Le cx.d cx.d cx.c W W' → Sim cx { st with v := vv' } W' → QU () (sh cx.T W' tk')) : wpX cx (assign (.Tuple es k pos) cx.env v) QU E (sh cx.T W tk) := by
 obtain ⟨a, vs, rfl, ht, _, hr'⟩ := hr.inv
 obtain ⟨n1, n2⟩ := each_names (env := cx.env) hm
 refine wpAny_assign_Tuple (s := sh cx.T W tk) (C.hand h0) ht (by rw [n2, setAll_len hs, hr'.size]) n1 fun h' he => ?_
 obtain ⟨l1, S1⟩ := S.grow (b := cx.d) (cb := cx.c) fun b o e => he b o (Nat.ne_of_lt (Heap.lt_size e)) e
 exact assign_all (W := ⟨W.t, h'⟩) C Fu hm (hr'.mono l1.fz) hs S1 fun W' tk' l2 S2 => hq W' tk' (l1.trans l2) S2
theorem assign_tg {QU : UP} {many : Bool} {is : List Nat} (h0 : cx.h = false) (C : cx.Ok cx.c) (Fu : cx.Full) (hm : mT cx.nm cx.env.scope.names many is x = true) (hb : bindT many is d st = some st') (hr : Rep W v d) (S : Sim cx st W)
  (hq : ∀ W' tk', Le cx.d cx.d cx.c W W' → Sim cx st' W' → QU () (sh cx.T W' tk')) : wpX cx (assign x cx.env v) QU E (sh cx.T W tk) := by
 obtain ⟨vv, h1, rfl⟩ := msm hb
 cases many with
 | true =>
  obtain ⟨ds, h2, h1⟩ := bsm h1
  obtain ⟨l, h3, hm⟩ := onS_true hm
  obtain ⟨k, q, rfl⟩ := asTup_eq h3
  exact assign_tup h0 C Fu hm (asT_eq h2 ▸ hr) h1 S hq
 | false =>
  obtain ⟨z, q, r, e1, h2, h3⟩ := mNames_inv (es := [x]) (is := is.tail) (j := is.headD 0) (by
   cases is with
   | nil => cases hm
   | cons j is => exact hm)
  cases e1
  cases is with
  | nil => cases hm
  | cons j is =>
   replace h1 : setAll (j :: is) [d] st.v = some vv := h1
   obtain ⟨hi, h1⟩ := gdb h1
   cases is with
   | cons _ _ => exact nos h1
   | nil =>
    obtain ⟨_, rfl⟩ := gd_some h1
    exact wpAny_assign_Name (S.store (cb := cx.c) (f := .val d) Fu C.kind hr rfl (acc_of h2).1 (odt hi) hq)
theorem s_unpack {is : List Nat} {k : Nat} {tpos : Pos} (h0 : cx.h = false) (C : cx.Ok cx.c) (Fu : cx.Full) (hm : mNames cx.nm cx.env.scope.names is es = true) (hw : swapsWithSole [.Tuple es k tpos] x pos.line cx.env = pure false) (hw' : swappedStores [.Tuple es k tpos] x cx.env = pure none) (hc : eff a = true → cx.c = true) (ha : SL Γ cx cx.c a [x]) :
  SS Γ cx (.unpack is a) (.Assign [.Tuple es k tpos] x pos) := fun st W S tk Q E H =>
 Assign_Tuple (ha.inS (T := tw1 fun v s => wpX cx (assign (.Tuple es k tpos) cx.env v) (fun _ => Q .next) E s) hc S H fun y st1 W1 tk1 vs l1 S1 r1 H1 => by
  obtain ⟨st2, hs, H2⟩ := nextO_some H1
  obtain ⟨d, h1, hs1⟩ := bsm hs
  match vs, r1 with
  | [v], r1 => exact assign_tg (many := true) h0 C Fu (by show onS (asTup (.Tuple es k tpos)) _ = true; exact hm) hs1 (oneV_rep r1 h1) S1 fun W' tk' l S' => next_ok H2 l S'
  | [], _ => trivial
  | _ :: _ :: _, _ => trivial) hw hw'
end
section
variable {Γ : Nat → Fn} {cx : Cx} {cb : Bool} {T : List Value → Shared → Prop} {Q : FP} {E : VP} {st : St} {W : Ws} {b tk : Nat} {d : PyData} {v u : Value} {f g : F} {pos apos cpos : Pos} {e x y l r : Expr} {es : List Expr} {a c : CE} {p : Pl} {fs : List F} {vs ws : Array Value} {xs ys : List PyData} {tg : Tag} {i : Nat}
theorem pl_base {n : Str} (hm : mPl cx.nm cx.env.scope.names p x = true) : attributeBase x n cx.env (eval x cx.env) = eval x cx.env := by
 cases p with
 | loc i =>
  obtain ⟨_, h3, _⟩ := onS_true (show onS (asName x) _ = true from hm)
  obtain ⟨q, rfl⟩ := asName_eq h3
  rfl
 | fld i j =>
  obtain ⟨w, h3, _⟩ := onS_true (show onS (asAttr x) _ = true from hm)
  rw [asAttr_eq h3]; rfl
theorem p_pop (C : cx.Ok cb) (PC : isFld p = true → PgCls cx.T) (hp : patP cx.nm cx.env.scope.names p .pop e = some es) (hpl : isFld p = false) (ha : SL Γ cx cb a es) : SL Γ cx cb (.peek .pop p a) [e] := fun hf st W S tk T E H => by
 obtain ⟨⟨r, l⟩, h1, hp⟩ := bsm hp
 obtain ⟨h2, rfl⟩ := gd_some hp
 obtain ⟨hm, h2⟩ := and2 h2
 cases lem h2
 obtain ⟨ap, p', rfl, hline, _⟩ := meth1_some h1
 obtain ⟨_, H⟩ := peek_some H
 have no : isFld p = true → ∀ {P : Prop}, P := fun q => by rw [hpl] at q; cases q
 refine ha (or_left hf) st W S tk (fun _ s => wpX cx (eval (.Call (.Attribute r "pop" ap) [] [] p') cx.env) (fun v s => T [v] s) E s) E (Post.bind' H fun x st1 W1 tk1 vs l1 S1 r1 H1 => ?_)
 replace H1 : Post cx (cx.d + 1) cb (RepL cx) W1 T E (match popE p x st1 with | some q => .ok [.val q.1] q.2 | none => .stuck) := H1
 cases hpe : popE p x st1 with
 | none => rw [hpe] at H1; exact H1.elim
 | some q =>
  rw [hpe] at H1
  obtain ⟨ys, hl, hg⟩ := bsm (gdb hpe).2
  obtain ⟨d, hd, hg⟩ := bsm hg
  obtain ⟨hz, hg⟩ := gdb hg
  obtain ⟨st2, hs, rfl⟩ := msm hg
  refine Call_method0 (pl_base hm) hline (load_pl C (fun q => no q) S1 hm (ownAt_some hl) fun v t tk' PP => ?_)
  obtain ⟨xa, vs, rfl, ⟨n, ho⟩, hx, hr⟩ := PP.own
  have hsz := hr.size
  rw [List.getLast?_eq_getElem?] at hd
  obtain ⟨v, hv', hrv⟩ := hr.get hd
  refine ⟨"list", _, PySem.F.plainAttrs_list, PySem.F.slot_list_pop, PySem.F.type_list_pop, ⟨_, ho, rfl⟩, (fun a e => by cases e; exact ⟨_, ho, rfl⟩), ?_⟩
  refine P.pop_list (y := v) ho (by rw [hsz, ← Array.getElem?_toList]; exact hv') ?_ (by rw [hsz]; exact okLen_le hz)
  have hpl : (W1.h.update xa (Obj.mapSeq fun xs => xs.eraseIdxIfInBounds (vs.size - 1))).PlainList xa (vs.eraseIdxIfInBounds (vs.size - 1)) := ⟨_, Heap.get?_update_self _ ho rfl⟩
  have hdr : (vs.eraseIdxIfInBounds (vs.size - 1)).toList = vs.toList.take (vs.size - 1) := by
   rw [Array.toList_eraseIdxIfInBounds, List.eraseIdx_eq_take_drop_succ, List.drop_eq_nil_of_le (by rw [Array.length_toList]; lia), List.append_nil]
  obtain ⟨l3, S3⟩ := S1.updPl (b := cx.d + 1) (cb := cb) PP hx (fun q => no q) (fun q => no q) (fun b o n e => (Heap.SameBut.update _ _ _).2 b n |>.trans e) hpl (by rw [hdr, List.dropLast_eq_take, ← hsz]; exact hr.take _) hs
  exact one_ok H1 l3 S3 (Rep.mono l3.fz hrv)
theorem pinned {δ γ : Type} {Rl : Ws → γ → δ → Prop} {Q : γ → Shared → Prop} {K : List F → St → R δ} {QQ : VP} (C : cx.Ok cx.c) (PC : isFld p = true → PgCls cx.T) (hm : mPl cx.nm cx.env.scope.names p x = true) (hfe : isFld p = true → eff a = false) (ha : ∀ c', (c' = true → cx.c = true) → SL Γ cx c' a es) (hf : eff a = true → cx.c = true) (S : Sim cx st W) (hg : getP st p = some g)
  (H : Post cx cx.d cx.c Rl W Q E ((ev Γ a st).bind K))
  (k : ∀ v tg tk', PlAt cx st W v g tg p → (∀ {T : List Value → Shared → Prop}, (∀ fs st1 W1 tk1 vs, Fz W W1 → Sim cx st1 W1 → RepL cx W1 vs fs → Post cx cx.d cx.c Rl W1 Q E (K fs st1) → (∀ f, getP st1 p = some f → ∃ t, PlAt cx st1 W1 v f t p) → T vs (sh cx.T W1 tk1)) → seqW cx E es T (sh cx.T W tk')) → QQ v (sh cx.T W tk')) :
  wpX cx (eval x cx.env) QQ E (sh cx.T W tk) := by
 have hcb : (cx.c && !isFld p) = true → cx.c = true := fun h => (and2 h).1
 refine load_pl C PC S hm hg fun v t tk' P => k v t tk' P fun {T} q => ha (cx.c && !isFld p) hcb (fun h => ?_) st W S tk' T E (Post.bind (Nat.le_succ _) hcb H fun fs st1 W1 tk1 us l1 S1 r1 H1 => q fs st1 W1 tk1 us l1.fz S1 r1 H1 fun f hf => P.later S.fr S1 l1 (fun q => by rw [q]; exact Bool.and_false _) hf)
 cases hp : isFld p with
 | true => rw [hfe hp] at h; cases h
 | false => rw [hf h]; rfl
theorem if_some {δ γ α : Type} {Rl : Ws → γ → δ → Prop} {Q : γ → Shared → Prop} {o : Option α} {r : R δ} (H : Post cx b cb Rl W Q E (if o.isSome then r else .stuck)) : (∃ x, o = some x) ∧ Post cx b cb Rl W Q E r := by
 cases o with
 | none => exact H.elim
 | some x => exact ⟨⟨x, rfl⟩, H⟩
theorem s_append (C : cx.Ok cx.c) (PC : isFld p = true → PgCls cx.T) (hm : mPl cx.nm cx.env.scope.names p x = true) (hcc : isFld p = true → cx.c = true) (hs : plainX y = true) (hline : (apos.endLine == cpos.line) = true) (hfe : isFld p = true → eff a = false) (ha : ∀ c', (c' = true → cx.c = true) → SL Γ cx c' a [y]) (hf : eff a = true → cx.c = true) :
  SS Γ cx (.append p a) (.Expr (.Call (.Attribute x "append" apos) [y] [] cpos) pos) := fun st W S tk Q E H => by
 obtain ⟨⟨xs, hg⟩, H⟩ := if_some H
 refine wpAny_Expr ?_ (inter C) rfl
 refine Call_method1 (pl_base hm) (star_cons hs) hline (pinned C PC hm hfe ha hf S (ownAt_some hg) H fun v tg tk' P k => ?_)
 obtain ⟨xa, vs, rfl, ⟨n, ho⟩, _, _⟩ := P.own
 refine ⟨"list", _, PySem.F.plainAttrs_list, PySem.F.slot_list_append, PySem.F.type_list_append, ⟨_, ho, rfl⟩, (fun a e => by cases e; exact ⟨_, ho, rfl⟩), ?_⟩
 refine callWith_builtin rfl (evalArgs_plain (spliced_cons (k (T := tw1 fun v s => wpX cx (spliced []) (fun vs s => wpX cx (call (.builtin "list.append") ([.ref xa] ++ (v :: vs))) (fun v s' => match v with | .ref _ => False | _ => Q .next s') E s) E s) fun fs st1 W1 tk1 us _ S1 r1 H1 later => ?_)))
 match us, r1 with
 | [], _ => trivial
 | _ :: _ :: _, _ => trivial
 | [u], r1 =>
 refine spliced_nil ?_
 obtain ⟨st2, hs, H2⟩ := nextO_some H1
 obtain ⟨d, h1, hs⟩ := bsm hs
 obtain ⟨ys, h2, hs⟩ := bsm hs
 obtain ⟨hz, hs⟩ := gdb hs
 obtain ⟨t1, P1⟩ := later _ (ownAt_some h2)
 obtain ⟨xb, ws, e1, hpl, hx, hr⟩ := P1.own
 cases e1
 refine wpAny_list_append_plain (s := sh cx.T W1 tk1) hpl (fun h' hpl' sb => ?_) (by rw [hr.size]; exact okLen_le hz)
 obtain ⟨l3, S3⟩ := S1.updPl (b := cx.d) P1 hx hcc hcc (fun b o n e => (sb.2 b n).trans e) hpl' (by rw [Array.toList_push]; exact hr.append (.cons (oneV_rep r1 h1) .nil)) hs
 exact next_ok H2 l3 S3
theorem s_clear (C : cx.Ok cx.c) (PC : isFld p = true → PgCls cx.T) (hm : mPl cx.nm cx.env.scope.names p x = true) (hcc : isFld p = true → cx.c = true) (hline : (apos.endLine == cpos.line) = true) : SS Γ cx (.clear p) (.Expr (.Call (.Attribute x "clear" apos) [] [] cpos) pos) := fun st W S tk Q E H => by
 obtain ⟨st2, hs, H2⟩ := nextO_some H
 obtain ⟨xs, h2, hs⟩ := bsm hs
 obtain ⟨hz, hs⟩ := gdb hs
 refine wpAny_Expr ?_ (inter C) rfl
 refine Call_method0 (pl_base hm) hline (load_pl C PC S hm (ownAt_some h2) fun v tg tk' PP => ?_)
 obtain ⟨xa, vs, rfl, ⟨n, ho⟩, hx, hr⟩ := PP.own
 refine ⟨"list", _, PySem.F.plainAttrs_list, PySem.F.slot_list_clear, PySem.F.type_list_clear, ⟨_, ho, rfl⟩, (fun a e => by cases e; exact ⟨_, ho, rfl⟩), ?_⟩
 refine P.clear_list ho ?_ (by rw [hr.size]; exact okLen_le hz)
 obtain ⟨l3, S3⟩ := S.updPl (b := cx.d) (ws := #[]) (ys := []) PP hx hcc hcc (fun b o n e => ((Heap.SameBut.update W.h xa (Obj.mapSeq fun _ => #[])).2 b n).trans e) ⟨_, Heap.get?_update_self _ ho rfl⟩ .nil hs
 exact next_ok H2 l3 S3
end
end Mine.Internal
end
section
namespace Mine.Internal
open PySem.W (findIn clsIn plainOver takerIn InstAt typeIn findObj lookIn handedIn)
section
variable {prog : Program} {w : World} {A : Around} {E : VP} {s : Shared}
theorem set_at {prog : Program} {w : World} {A : Around} {l : Addr} {items : Array Value} {n : Nat} {k : Int} {t : Tok} {v : Value} {Q : UP} (ho : s.heap.get? l = some { cls := .type "list", data := .seq items n }) (h0 : 0 ≤ k) (hfit : k < 2 ^ 63) (hn : k < items.size)
  (hQ : Q () { s with heap := s.heap.update l (Obj.mapSeq (·.setIfInBounds k.toNat v)) }) : wpAny (model prog w) A (setItem (.ref l) (.int k t) v) Q E s := by
 have hT : s.TypeIs (.ref l) "list" := ⟨_, ho, rfl⟩
 unfold setItem
 try with_reducible refine wpAny_holding ?_
 refine wpAny_bind (wpAny_sequenceKey hT (by decide) ?_)
 refine wpAny_bind (wpAny_callSpecial?_slot (name := Str.ofString "__setitem__") hT slot_list_setitem (wpAny_call_entry slot_list_setitem hT entry_list_setitem ?_ (args_list_setitem _ _ _)))
 show wpAny _ _ (Builtin.List.listSubscript? (.int k t) >>= _) _ _ s
 refine wpAny_bind (wpAny_listSubscript_int (fitsIndex_of h0 hfit) ?_)
 clear hfit
 obtain ⟨j, rfl⟩ := Int.eq_ofNat_of_zero_le h0
 have hj : items[j]? = some (items[j]'(by lia)) := Array.getElem?_eq_getElem (by lia)
 show wpAny _ _ ((seqItemAt l j >>= fun r => pure (r.map (j, ·))) >>= _) _ _ s
 refine wpAny_bind (wpAny_bind (wpAny_seqItemAt ho rfl (wpAny_pure ?_)))
 rw [hj]
 show wpAny _ _ (setSeqItemAt l j v >>= _) _ _ s
 refine wpAny_bind (wpAny_setSeqItemAt ho rfl ?_)
 first | exact wpAny_bind (wpAny_pure (wpAny_pure ⟨.none, rfl, wpAny_pure hQ⟩)) | exact wpAny_pure ⟨.none, rfl, wpAny_pure hQ⟩
end
section
variable {Γ : Nat → Fn} {cx : Cx} {T : List Value → Shared → Prop} {Q : FP} {E : VP} {st : St} {W : Ws} {b tk : Nat} {d : PyData} {v u : Value} {f g : F} {pos spos : Pos} {e x y z : Expr} {a c : CE} {p : Pl} {fs : List F} {vs ws : Array Value} {xs : List PyData} {tg : Tag}
theorem set_core {K : List F → List F → St → R Fl} (C : cx.Ok cx.c) (PC : isFld p = true → PgCls cx.T) (hm : mPl cx.nm cx.env.scope.names p x = true) (hfe : isFld p = true → eff c = false) (ha : SL Γ cx cx.c a [y]) (hfa : eff a = true → cx.c = true) (hk : ∀ c', (c' = true → cx.c = true) → SL Γ cx c' c [z]) (hfk : eff c = true → cx.c = true) (hw : notComp y = true) (S : Sim cx st W)
  (H : Post cx cx.d cx.c (RFl cx) W Q E ((ev Γ a st).bind fun x st => if (oneV x).isSome then if (getP st p).isSome then (ev Γ c st).bind fun y st => K x y st else .stuck else .stuck))
  (k : ∀ v u ov d fs ks st1 W1 tk1, Sim cx st1 W1 → oneV fs = some d → Rep W1 v d → RepL cx W1 [u] ks → Post cx cx.d cx.c (RFl cx) W1 Q E (K fs ks st1) → (∀ f, getP st1 p = some f → ∃ t, PlAt cx st1 W1 ov f t p) → wpX cx (setItem ov u v) (fun _ => Q .next) E (sh cx.T W1 tk1)) :
  wpX cx (exec (.Assign [.Subscript x z spos] y pos) cx.env) Q E (sh cx.T W tk) := by
 refine wpAny_Assign_Subscript (ha.inS (T := tw1 fun v s₁ => wpX cx (eval x cx.env) (fun ov s₂ => wpX cx (eval z cx.env) (fun iv s₃ => wpX cx (setItem ov iv v) (fun _ => Q .next) E s₃) E s₂) E s₁) hfa S H fun fs st1 W1 tk1 vs l1 S1 r1 H1 => ?_) (swaps_no hw)
 match vs, r1 with
 | [], _ => trivial
 | _ :: _ :: _, _ => trivial
 | [v], r1 =>
 obtain ⟨⟨d, hd⟩, H1⟩ := if_some H1
 obtain ⟨⟨g, hg⟩, H1⟩ := if_some H1
 refine pinned C PC hm hfe hk hfk S1 hg H1 fun ov tg tk' P q => q (T := tw1 fun iv s₃ => wpX cx (setItem ov iv v) (fun _ => Q .next) E s₃) fun ks st2 W2 tk2 us z2 S2 r2 H2 later => ?_
 match us, r2 with
 | [], _ => trivial
 | _ :: _ :: _, _ => trivial
 | [u], r2 => exact k v u ov d fs ks st2 W2 tk2 S2 hd ((oneV_rep r1 hd).mono z2) r2 H2 later
theorem s_setidx (C : cx.Ok cx.c) (PC : isFld p = true → PgCls cx.T) (hm : mPl cx.nm cx.env.scope.names p x = true) (hcc : isFld p = true → cx.c = true) (hfe : isFld p = true → eff c = false) (ha : SL Γ cx cx.c a [y]) (hfa : eff a = true → cx.c = true) (hk : ∀ c', (c' = true → cx.c = true) → SL Γ cx c' c [z]) (hfk : eff c = true → cx.c = true) (hw : notComp y = true) :
  SS Γ cx (.setidx p c a) (.Assign [.Subscript x z spos] y pos) := fun st W S tk Q E H =>
 set_core C PC hm hfe ha hfa hk hfk hw S H fun v u ov d fs ks st1 W1 tk1 S1 hd rv ru H1 later => by
  obtain ⟨st2, hs, H2⟩ := nextO_some H1
  obtain ⟨d', h1, hs⟩ := bsm hs
  cases hd.symm.trans h1
  obtain ⟨kd, h2, hs⟩ := bsm hs
  obtain ⟨n, h3, hs⟩ := bsm hs
  obtain ⟨xs, h4, hs⟩ := bsm hs
  obtain ⟨hz, hs9⟩ := gdb hs
  obtain ⟨hz, hn⟩ := and2 hz
  cases asI_eq h3
  obtain ⟨t, rfl⟩ := Rep.inv (d := .int n) (oneV_rep ru h2)
  obtain ⟨tg, P⟩ := later _ (ownAt_some h4)
  obtain ⟨xa, ws, rfl, ⟨m, ho⟩, hx, hr⟩ := P.own
  obtain ⟨hn, hlt⟩ := odt hn
  have hz := okLen_le hz
  have hsz := hr.size
  refine set_at (s := sh cx.T W1 tk1) ho hn (Int.lt_trans hlt (by unfold sizeLine at hz; lia)) (by rw [hsz]; exact hlt) ?_
  obtain ⟨l3, S3⟩ := S1.updPl (b := cx.d) (ws := ws.setIfInBounds n.toNat v) P hx hcc hcc (fun b o n' e => ((Heap.SameBut.update W1.h xa (Obj.mapSeq (·.setIfInBounds n.toNat v))).2 b n').trans e) ⟨_, Heap.get?_update_self _ ho rfl⟩ (by rw [Array.toList_setIfInBounds]; exact hr.set rv _) hs9
  exact next_ok H2 l3 S3
theorem RepTab.put {xt : List (List Int × Addr × Value)} {et : List (List Int × PyData)} {q : List Int} {k : Addr} (h : RepTab W xt et) (hk : ∃ o, W.z.get? k = some o) (hv : Rep W v d) : RepTab W (storedH xt q k v) (putF et q d) := by
 unfold storedH putF
 rw [h.find.1]
 cases (keyF et q).isSome with
 | true =>
  rw [if_pos rfl, if_pos rfl]
  induction xt generalizing et with
  | nil => cases et <;> exact h
  | cons x xt ih =>
   cases et with
   | nil => exact h.elim
   | cons e et =>
    refine ⟨?_, ih h.2⟩
    unfold putAt
    dsimp only
    rw [← h.1.1]
    by_cases e : x.1 = q
    · rw [if_pos e, if_pos e]; exact ⟨rfl, h.1.2.1, hv⟩
    · rw [if_neg e, if_neg e]; exact h.1
 | false =>
  rw [if_neg Bool.false_ne_true, if_neg Bool.false_ne_true]
  induction xt generalizing et with
  | nil => cases et with
   | nil => exact ⟨⟨rfl, hk, hv⟩, trivial⟩
   | cons _ _ => exact h.elim
  | cons x xt ih =>
   cases et with
   | nil => exact h.elim
   | cons e et => exact ⟨h.1, ih h.2⟩
theorem RepTab.length {xt : List (List Int × Addr × Value)} {et : List (List Int × PyData)} (h : RepTab W xt et) : xt.length = et.length := by
 induction xt generalizing et with
 | nil => cases et with
  | nil => rfl
  | cons _ _ => exact h.elim
 | cons x xt ih => cases et with
  | nil => exact h.elim
  | cons e et => exact congrArg (· + 1) (ih h.2)
theorem s_setkey (C : cx.Ok cx.c) (PC : isFld p = true → PgCls cx.T) (hm : mPl cx.nm cx.env.scope.names p x = true) (hcc : isFld p = true → cx.c = true) (hfe : isFld p = true → eff c = false) (ha : SL Γ cx cx.c a [y]) (hfa : eff a = true → cx.c = true) (hk : ∀ c', (c' = true → cx.c = true) → SL Γ cx c' c [z]) (hfk : eff c = true → cx.c = true) (hw : notComp y = true) :
  SS Γ cx (.setkey p c a) (.Assign [.Subscript x z spos] y pos) := fun st W S tk Q E H =>
 set_core C PC hm hfe ha hfa hk hfk hw S H fun v u ov d fs ks st1 W1 tk1 S1 hd rv ru H1 later => by
  obtain ⟨st2, hs, H2⟩ := nextO_some H1
  obtain ⟨d', h1, hs⟩ := bsm hs
  cases hd.symm.trans h1
  obtain ⟨kd, h2, hs⟩ := bsm hs
  obtain ⟨n, h3, hs⟩ := bsm hs
  obtain ⟨et, h4, hs⟩ := bsm hs
  obtain ⟨hz, hs⟩ := gdb hs
  obtain ⟨m1, m2, rfl, rfl⟩ := keyI_some h3
  obtain ⟨ka, rfl, hkey, hko⟩ := key_at (cx := cx) (k := 0) (oneV_rep ru h2)
  obtain ⟨tg, P⟩ := later _ (dctAt_some h4)
  obtain ⟨dx, rfl, hx, hsys, xt, hdo, hrt⟩ := P.dct
  refine wpAny_setItem_heap (s := sh cx.T W1 tk1) (knd := tupleKind (intKind cx.T.prog cx.T.w)) (tupleKind_room_in1 (knd := intKind cx.T.prog cx.T.w) (Nat.lt_of_le_of_lt (Nat.add_le_add_left (by decide : 1 ≤ 200) _) C.units)) hkey hdo (fun h' hm' hs' => ?_) (by rw [hrt.length]; exact okLen_le hz)
  obtain ⟨l3, S3⟩ := S1.changed (g := .dct (putF et [m1, m2] d)) (b := cx.d) P hx hcc hcc (fun b o n e => (hs'.2 b n).trans e) (let ⟨o, _, _, g, _⟩ := hm'; ⟨o, g⟩) (fun z => ⟨dx, rfl, hx, hsys, _, hm', (hrt.put hko rv).mono z⟩) hs
  exact next_ok H2 l3 S3
end
end Mine.Internal
end
section
namespace Mine.Internal
open PySem.W (findIn clsIn plainOver takerIn InstAt typeIn findObj lookIn handedIn)
section
variable {Γ : Nat → Fn} {cx : Cx} {Q : FP} {E : VP} {st st' : St} {W W' : Ws} {b tk : Nat} {d : PyData} {v u : Value} {f g : F} {pos pos' apos cpos : Pos} {x y : Expr} {a c : CE} {i j : Nat}
theorem PgAt.store {T : Tp} {A : Around} {k : Nat} {fl : Slots} {n : PI} {QU : UP} (PC : PgCls T) (P : PgAt T W k fl n) (K : PySem.W.Frag.In T.pk W.h) (hj : j < 6)
  (h : ∀ h' tk, h'.Ns1 n.da (fun y => if y = fldN j then some v else n.m y) → Heap.SameBut n.da W.h h' → QU () (sh T ⟨W.t, h'⟩ tk)) :
  wpAny (model T.prog T.w) A (setAttr (.ref n.a) (fldN j) v) QU E (sh T W tk) := by
 obtain ⟨od, g, hl⟩ := lookIn_ns P.ns
 have I : InstAt W.h n.a (instO T.pc n.da) T.pc (some od) := ⟨P.inst, rfl, rfl, g⟩
 obtain ⟨cd, hc, hd⟩ := PySem.W.any_some PC.dict
 refine PySem.W.set_plain (s := sh T W tk) K I PC.set ?_
 refine PySem.W.osa_open (s := sh T W (tk + 1)) K I PC.over (r := none) (by unfold takerIn; rw [PC.fld j hj]; rfl) fun b => ?_
 refine wpAny_bind (wpAny_pure (wpAny_bind (wpAny_bind (wpAny_loadPart P.inst (wpAny_bind ((PySem.W.looks_clsIn K hc).here ?_))))))
 rw [hd]
 refine wpAny_pure (a := some n.da) (wpAny_bind (wpAny_pure (wpAny_bind ?_)))
 refine wpAny_nsSet1 (s := sh T W (tk + 1)) P.ns fun h' hn' hs => ?_
 have hw : Within (fun y => if y = fldN j then some v else n.m y) (List.map fldN [0, 1, 2, 3, 4, 5]) := by
  intro y hy
  by_cases hin : ∃ i, i < 6 ∧ y = fldN i
  · obtain ⟨i, hi, rfl⟩ := hin
    exact List.mem_map.mpr ⟨i, (by decide : ∀ i, i < 6 → i ∈ [0, 1, 2, 3, 4, 5]) i hi, rfl⟩
  · have hne : ∀ i, i < 6 → y ≠ fldN i := fun i hi e => hin ⟨i, hi, e⟩
    exact absurd ((if_neg (hne j hj)).trans (P.oth y hne)) hy
 obtain ⟨oD, esD, epD, hoD, hdD, hcD⟩ := hn'.count hw
 refine wpAny_bind (wpAny_lookBehind hoD (by rw [hdD]; exact pastItsLine_dict (nlt hcD (by decide))) ?_)
 exact wpAny_pure (h h' _ hn' hs)
theorem Sim.setFld {z : Str} (PC : PgCls cx.T) (C : cx.Ok cx.c) (hcc : cx.c = true) (S : Sim cx st W) (hn : isLoc cx.nm cx.env.scope.names i z = true) (hj : j < 6) (r : ∀ k, pgAt st i = some k → RepF cx.T W (.pgf k j) v f) (hs : setP st (some f) (.fld i j) = some st')
  (h : ∀ W' tk', Le cx.d cx.d cx.c W W' → Sim cx st' W' → Q .next (sh cx.T W' tk')) :
  wpX cx (eval (.Name z pos) cx.env) (fun ov s₂ => wpX cx (setAttr ov (fldN j) v) (fun _ => Q .next) E s₂) E (sh cx.T W tk) := by
 obtain ⟨k, hk, h1⟩ := bsm hs
 obtain ⟨fl, hfl, h1⟩ := bsm h1
 obtain ⟨hlt, rfl⟩ := gd_some h1
 obtain ⟨n, hd⟩ := acc_of hn
 obtain ⟨u, hu, a', o, rfl, g, q⟩ := S.fr.vals i _ z (pgAt_some hk) n.1 n.2
 obtain ⟨n', P, rfl⟩ := S.ok.inst_at hfl g q
 refine load_name C.kind hu hd (P.store PC (PC.kin.keeps S.keeps) hj fun h' tk' hns hsb => ?_)
 have B : But n'.da W ⟨W.t, h'⟩ := .keep fun b o ne e => (hsb.2 b ne).trans e
 have ni : NI ⟨W.t, h'⟩ n'.da := ni_of (by rw [show Ws.t _ _ = _ from P.dt]; rfl)
 have hz := B.fz fun e => by rw [P.dt] at e; cases e
 have ne : ∀ {b}, W.t b ≠ .pgd k → b ≠ n'.da := fun h q => h (q ▸ P.dt)
 have na : n'.a ≠ n'.da := ne fun e => by rw [P.it] at e; cases e
 have keep : ∀ i b o, W.t b = .pgf k i → W.get b = some o → (Ws.mk W.t h').get b = some o ∧ W.t b = .pgf k i := fun i b o q g => ⟨B.gt b o (ne fun e => by rw [q] at e; cases e) g, q⟩
 refine h ⟨W.t, h'⟩ tk' (B.le (.of (by rw [P.dt]; exact hcc)) ni) ⟨S.ok.fld B hfl (by rw [P.dt]; exact beq_self_eq_true _) (let ⟨o, _, _, g, _⟩ := hns; ⟨o, g⟩) ni (P.set (q' := ⟨n'.a, n'.da, fun y => if y = fldN j then some v else n'.m y⟩) (odt hlt) hz ⟨rfl, rfl⟩ ⟨B.gt _ _ na P.inst, P.it⟩ P.dt hns (fun y hy => if_neg hy) (fun i _ => keep i)
   (fun f' e => ⟨v, if_pos rfl, (by cases e; exact (r k hk).keep hz fun _ => keep j)⟩) (fun i hi e => fldN_inj hi hj e) hj), S.fr.but B (by rw [P.dt]; exact hcc) fun i' g z h2 h3 h4 => .inl ⟨h2, fun e => by rw [P.dt] at e; cases e⟩⟩
theorem swaps_at {v x : Expr} {a : Str} {n : Nat} {env : Env} : swapsWith v (some (.Attribute x a pos)) n env = pure false := by cases v <;> rfl
theorem s_setfld {z : Str} (PC : PgCls cx.T) (C : cx.Ok cx.c) (hcc : cx.c = true) (hn : isLoc cx.nm cx.env.scope.names i z = true) (hj : j < 6) (ha : SL Γ cx cx.c a [y]) : SS Γ cx (.assign (.fld i j) a) (.Assign [.Attribute (.Name z pos') (fldN j) apos] y pos) := fun st W S tk Q E H =>
 plainObj_wpAny_Assign_Attribute (ha.inS (T := tw1 fun v s₁ => wpX cx (eval (.Name z pos') cx.env) (fun ov s₂ => wpX cx (setAttr ov (fldN j) v) (fun _ => Q .next) E s₂) E s₁) (fun _ => hcc) S H fun fs st1 W1 tk1 vs l1 S1 r1 H1 => by
  obtain ⟨st2, hs, H2⟩ := nextO_some H1
  obtain ⟨f, h1, hs1⟩ := bsm hs
  obtain ⟨g, h2, hs2⟩ := bsm hs1
  match vs, r1 with
  | [], _ => trivial
  | _ :: _ :: _, _ => trivial
  | [v], r1 =>
  obtain ⟨k, hk, _⟩ := bsm hs2
  obtain ⟨t', l2, S2, r2⟩ := S1.claim cx.d cx.c (rep_one r1 h1) (storO_some h2).2 (.pgf k j) rfl
  refine Sim.setFld (W := ⟨t', W1.h⟩) PC C hcc S2 hn hj (fun k' e => ?_) hs2 fun W' tk' l S' => next_ok H2 (l2.trans l) S'
  cases hk.symm.trans e
  cases f with
  | val d => cases h2; exact r2
  | own xs => cases h2; exact r2
  | pg k => exact nos h2
  | _ => exact nos h2) swaps_at
theorem s_setd {z : Str} (TO : cx.T.Ok) (PC : PgCls cx.T) (C : cx.Ok cx.c) (hcc : cx.c = true) (hn : isLoc cx.nm cx.env.scope.names i z = true) (hj : j < 6) : SS Γ cx (.setd (.fld i j)) (.Assign [.Attribute (.Name z pos') (fldN j) apos] (.Dict [] [] cpos) pos) := fun st W S tk Q E H => by
 obtain ⟨st2, hs, H2⟩ := nextO_some H
 obtain ⟨k, hk, _⟩ := bsm hs
 refine plainObj_wpAny_Assign_Attribute (wpAny_Dict_empty ?_) swaps_at
 have g := dead_at W.h (Nat.le_refl W.h.objs.size)
 have B := But.push W { cls := .type "dict", data := .dict #[] } (.pgf k j)
 have q := S.ok.dead _ g
 have l2 : Le cx.d cx.d cx.c W _ := B.le (.dead g) (put_ni rfl)
 refine Sim.setFld PC C hcc (S.but B (by rw [q]; rfl) (by rw [q]; rfl) (fun i => by rw [q]; intro e; cases e) (fun e => ?_) (put_ni rfl)) hn hj (fun k' e => ?_) hs fun W' tk' l S' => next_ok H2 (l2.trans l) S'
 · exact nomatch (Heap.get?_push_size W.h rfl).symm.trans e
 · cases hk.symm.trans e
   refine ⟨_, rfl, Tags.put_self .., ?_, [], Heap.DictOfH.new W.h, trivial⟩
   obtain ⟨o, go⟩ := TO.sys
   have := S.keeps _ _ go
   cases he : (W.h.objs.size == sysModules) with
   | false => rfl
   | true => rw [← eq_of_beq he, g] at this; cases this
end
end Mine.Internal
end
section
namespace Mine.Internal
noncomputable def Tag.jh : Tag → Bool
 | .junk => true
 | .hold => true
 | _ => false
structure Nx (X : Addr → Prop) (W W' : Ws) : Prop where
 kp : ∀ b o, ¬ X b → W.get b = some o → W'.get b = some o
 tg : ∀ b, W'.t b = W.t b ∨ ((X b ∨ W.get b = none) ∧ (W'.t b).isInst = false)
 jh : ∀ b, X b → (W.t b).jh = true
 dd : (∀ b, W.get b = none → W.t b = .junk) → ∀ b, W'.get b = none → W'.t b = .junk
section
variable {X : Addr → Prop} {T : Tp} {W W' W0 : Ws} {a b : Nat} {c : Bool} {cx : Cx} {st : St} {p : List Slots} {vs : Slots}
theorem Nx.at (N : Nx X W W') {x : Addr} {o : Obj} (h : (W.t x).jh = false) (e : W.get x = some o) : W'.get x = some o ∧ W'.t x = W.t x := by
 have n : ¬ X x := fun q => by rw [N.jh x q] at h; cases h
 refine ⟨N.kp x o n e, (N.tg x).elim id fun q => ?_⟩
 rcases q.1 with q | q
 · exact (n q).elim
 · rw [e] at q; cases q
theorem Nx.fz (N : Nx X W W') : Fz W W' := fun b o h => by
 obtain ⟨t, e⟩ := z_in h
 obtain ⟨e', t'⟩ := N.at (by rw [t]; rfl) e
 exact z_of (t'.trans t) e'
theorem Nx.back (N : Nx X W W') (hd : ∀ b, W.get b = none → W.t b = .junk) {x : Addr} {k : Nat} (h : W'.t x = .inst k) : W.t x = .inst k := by
 rcases N.tg x with q | q
 · exact q ▸ h
 · rw [h] at q; cases q.2
theorem Nx.ok (N : Nx X W W') (K : Wok T c p W) : Wok T c p W' := by
 have back : ∀ {x k}, W'.t x = .inst k → W.t x = .inst k := fun h => N.back K.dead h
 refine ⟨N.dd K.dead, fun b o e => ?_, fun k fl e => ?_, fun x y k h h' => K.uq x y k (back h) (back h'), fun hc x k h => K.cnt hc x k (back h), fun b o d t e => ?_⟩
 · obtain ⟨e1, t1⟩ := K.top b o e
   obtain ⟨e', t'⟩ := N.at (by rw [t1]; rfl) e1
   exact ⟨e', t'.trans t1⟩
 · obtain ⟨q, P⟩ := K.pgs k fl e
   exact ⟨q, P.keep N.fz fun a o h g => N.at (by generalize W.t a = t at h; cases t <;> first | rfl | cases h) g⟩
 · rcases N.tg b with q | q
   · rw [q] at t
     cases g : W.get b with
     | none => cases (K.dead b g).symm.trans t
     | some o' => cases (N.at (by rw [t]; rfl) g).1.symm.trans e; exact K.lf b o d t g
   · rw [t] at q; cases q.2
theorem Nx.fr (N : Nx X W W') (F : Frm cx vs W) : Frm cx vs W' := by
 have hL : ∀ o, W.get cx.env.locals = some o → W'.get cx.env.locals = some o ∧ W'.t cx.env.locals = .loc cx.d := fun o e => by
  obtain ⟨e', t'⟩ := N.at (by rw [F.nst]; rfl) e
  exact ⟨e', t'.trans F.nst⟩
 have hC : ∀ y e o, (y, e) ∈ cx.env.cells → W.get e = some o → W'.get e = some o ∧ W'.t e = W.t e := fun y e o hy g => by
  obtain ⟨_, d', q, _⟩ := F.cells y e hy
  exact N.at (by rw [q]; rfl) g
 have keep : ∀ {y u}, Holds cx.env W.h y u → Holds cx.env W'.h y u := fun {y u} q =>
  q.keep (fun m ⟨o, es, ep, g, r⟩ => ⟨o, es, ep, (hL o g).1, r⟩) fun y e v hy ⟨o, g, r⟩ => ⟨o, (hC y e o hy g).1, r⟩
 obtain ⟨m, o, es, ep, g, r⟩ := F.ns
 refine ⟨⟨m, o, es, ep, (hL o g).1, r⟩, (hL o g).2, fun y e hy => ?_, fun i f y h1 h2 h3 => ?_, let ⟨l', h1, h2⟩ := F.frs; ⟨l', h1, h2.keep (Nat.le_refl _) fun L d' o hd t g => ?_⟩, fun q => (F.hnd q).mono N.fz⟩
 · obtain ⟨⟨v, o, g, r⟩, d', q, q'⟩ := F.cells y e hy
   exact ⟨⟨v, o, (hC y e o hy g).1, r⟩, d', (hC y e o hy g).2.trans q, q'⟩
 · obtain ⟨u, hu, r⟩ := F.vals i f y h1 h2 h3
   refine ⟨u, keep hu, r.keep N.fz (fun _ a o q g => ?_) (fun a o q g => ?_) fun a o k q g => ?_⟩
   · have := N.at (by rw [q]; rfl) g; exact ⟨this.1, this.2.trans q⟩
   · exact N.at (by generalize W.t a = t at q; cases t <;> first | rfl | cases q) g
   · have := N.at (by rw [q]; rfl) g; exact ⟨this.1, this.2.trans q⟩
 · have := N.at (by rw [t]; rfl) g; exact ⟨this.2.trans t, o, this.1⟩
theorem Nx.sim (N : Nx X W W') (S : Sim cx st W) : Sim cx st W' := ⟨N.ok S.ok, N.fr S.fr⟩
theorem Nx.le (N : Nx X W W') (hX : ∀ x, X x → Fr a b c W0 x) (l : Le a b c W0 W) : Le a b c W0 W' := by
 refine ⟨fun x o e k => ?_, fun hc x k e => l.ins hc x k ?_⟩
 · have n : ¬ X x := fun q => by rw [hX x q o e] at k; cases k
   obtain ⟨t1, sl, e1, f1⟩ := l.at_ x o e k
   refine ⟨(N.tg x).elim (fun q => q.trans t1) fun q => ?_, sl, N.kp x _ n e1, f1⟩
   rcases q.1 with q | q
   · exact (n q).elim
   · rw [e1] at q; cases q
 · rcases N.tg x with q | q
   · exact q ▸ e
   · rw [e] at q; cases q.2
end
noncomputable def Stp (W0 W W' : Ws) : Prop := ∃ X, Nx X W W' ∧ ∀ x, X x → W0.t x = .junk
noncomputable abbrev Go := Around → Value → (Unit → Shared → Prop) → (Value → Shared → Prop) → Shared → Prop
noncomputable def Stand (T : Tp) (d : Nat) (c : Bool) (hd : Option Value) (go : Go) (it : Value) (W0 : Ws) : List PyData → Ws → Prop
 | [], W => ∀ W1 tk A Q E, A.handled = hd → Le d d c W W1 → (∀ W' tk', Stp W0 W1 W' → Q none (sh T W' tk')) → wpAny (model T.prog T.w) A (pyNext it) Q E (sh T W1 tk)
 | x :: xs, W => ∀ W1 tk A (Q : VP) E, A.handled = hd → Le d d c W W1 → (∀ W' tk' v, Stp W0 W1 W' → Rep W' v x → Stand T d c hd go it W0 xs W' → Q v (sh T W' tk')) →
  wpAny (model T.prog T.w) A (pyNext it) (fun r s₁ => match r with | none => False | some v => go A v (fun _ s₂ => Q v s₂) E s₁) E (sh T W1 tk)
section
variable {cx : Cx} {W W0 : Ws} {xs ys : List PyData} {I : Addr} {fp : List Addr} {P : Nat → Value → Prop} {St : Nat → Heap → Prop} {go : Go} {E : VP}
theorem Nx.one {h' : Heap} {t' : Tag} (hI : (W.t I).jh = true) (hk : ∀ b o, b ∉ [I] → W.get b = some o → h'.get? b = some o) (ht : t'.isInst = false) (hd : h'.get? I = none → t' = .junk) : Nx (· = I) W ⟨W.t.put I t', h'⟩ := by
 refine ⟨fun b o n e => hk b o (fun q => n (lsm q)) e, fun b => ?_, fun b e => e ▸ hI, fun dd b e => ?_⟩
 · by_cases q : b = I
   · exact .inr ⟨.inl q, by rw [q]; exact (congrArg Tag.isInst (Tags.put_self ..)).trans ht⟩
   · exact .inl (Tags.put_ne q)
 · by_cases q : b = I
   · rw [q] at e ⊢; exact (Tags.put_self ..).trans (hd e)
   · refine (Tags.put_ne q).trans (dd b ?_)
     cases g : W.get b with
     | none => rfl
     | some o => rw [show Ws.get _ b = some o from hk b o (fun m => q (lsm m)) g] at e; cases e
theorem WalkI.go_on (K : WalkI cx W0 xs I fp P St) (hgo : ∀ A v Q E (s : Shared), (∃ o n, s.heap.get? I = some o ∧ o.cls = .type n ∧ ownedNames.contains n = false) → Q () s → go A v Q E s)
  {i : Nat} (hx : xs.drop i = ys) (hi : i ≤ xs.length) (hI : W.t I = .hold) (hz : Fz W0 W) (hc : ∀ b ∈ fp, b = I ∨ ∃ o, W.get b = some o ∧ (W.t b).lent cx.d cx.c = true) (hs : St i W.h) : Stand cx.T cx.d cx.c cx.A.handled go (.ref I) W0 ys W := by
 have to1 : ∀ {W1 : Ws} {i : Nat} {W : Ws}, W.t I = .hold → (∀ b ∈ fp, b = I ∨ ∃ o, W.get b = some o ∧ (W.t b).lent cx.d cx.c = true) → St i W.h → ∀ A : Around, A.handled = cx.A.handled → Le cx.d cx.d cx.c W W1 → St i W1.h ∧ W1.t I = .hold ∧ (∀ b ∈ fp, b = I ∨ ∃ o, W1.get b = some o ∧ (W1.t b).lent cx.d cx.c = true) := fun {W1 i W} hI hc hs A hA l => by
  obtain ⟨oI, nI, eI, _⟩ := K.typed i _ hs
  have hI1 := l.fix eI (by rw [hI]; rfl) (by rw [hI]; rfl)
  refine ⟨(K.wk A hA).frame _ _ _ hs fun b hb o e => ?_, hI1.2.trans hI, fun b hb => (hc b hb).imp id fun ⟨o, e, t⟩ => ?_⟩
  · rcases hc b hb with rfl | ⟨o', e', t⟩
    · exact (l.fix e (by rw [hI]; rfl) (by rw [hI]; rfl)).1
    · obtain ⟨k1, k2⟩ := lent_e (b := cx.d) t id; exact (l.fix e k1 k2).1
  · obtain ⟨k1, k2⟩ := lent_e (b := cx.d) t id
    obtain ⟨e1, t1⟩ := l.fix e k1 k2
    exact ⟨o, e1, by rw [t1]; exact t⟩
 induction ys generalizing i W with
 | nil =>
  have hi' : i = xs.length := Nat.le_antisymm hi (List.drop_eq_nil_iff.mp hx)
  subst hi'
  intro W1 tk A Q E hA l hQ
  obtain ⟨s1, t1, _⟩ := to1 hI hc hs A hA l
  exact (K.wk A hA).done (sh cx.T W1 tk) Q E s1 fun h' tk' hk => hQ ⟨W1.t.put I .junk, h'⟩ tk' ⟨_, Nx.one (by rw [t1]; rfl) hk rfl fun _ => rfl, fun x e => e ▸ K.junk⟩
 | cons y ys ih =>
  have hlt : i < xs.length := by
   rcases Nat.lt_or_ge i xs.length with q | q
   · exact q
   · rw [List.drop_eq_nil_of_le q] at hx; cases hx
  intro W1 tk A Q E hA l hQ
  obtain ⟨s1, t1, c1⟩ := to1 hI hc hs A hA l
  have hy : xs[i]? = some y ∧ xs.drop (i + 1) = ys := by rw [List.drop_eq_getElem_cons hlt] at hx; injection hx with h1 h2; exact ⟨by rw [← h1]; exact geg hlt, h2⟩
  refine (K.wk A hA).item i (sh cx.T W1 tk) _ E hlt s1 fun v h' tk' hp hs' hk => hgo A v _ E _ (K.typed _ _ hs') ?_
  obtain ⟨oI, _, eI, _⟩ := K.typed _ _ hs'
  obtain ⟨d, hd, hr⟩ := K.rep i v hp
  cases hd.symm.trans hy.1
  have N := Nx.one (t' := .hold) (by rw [t1]; rfl) hk rfl fun e => by rw [eI] at e; cases e
  have hz1 : Fz W0 ⟨W1.t.put I .hold, h'⟩ := fun b o e => N.fz b o (l.fz b o (hz b o e))
  refine hQ ⟨W1.t.put I .hold, h'⟩ tk' v ⟨_, N, fun x e => e ▸ K.junk⟩ (hr.mono hz1) (ih hy.2 hlt (Tags.put_self ..) hz1 (fun b hb => (c1 b hb).imp id fun ⟨o, e, t⟩ => ?_) hs')
  have ne : b ≠ I := fun q => by rw [q, t1] at t; cases t
  exact ⟨o, hk b o (fun m => ne (lsm m)) e, by rw [show (Ws.mk (W1.t.put I .hold) h').t b = W1.t b from Tags.put_ne ne]; exact t⟩
theorem WalkI.stand (K : WalkI cx W xs I fp P St) (hgo : ∀ A v Q E (s : Shared), (∃ o n, s.heap.get? I = some o ∧ o.cls = .type n ∧ ownedNames.contains n = false) → Q () s → go A v Q E s) :
  Stp W W ⟨W.t.put I .hold, W.h⟩ ∧ Stand cx.T cx.d cx.c cx.A.handled go (.ref I) W xs ⟨W.t.put I .hold, W.h⟩ := by
 obtain ⟨o, n, g, _⟩ := K.typed 0 _ K.start
 have N : Nx (· = I) W ⟨W.t.put I .hold, W.h⟩ := Nx.one (by rw [K.junk]; rfl) (fun _ _ _ e => e) rfl fun e => nomatch g.symm.trans e
 refine ⟨⟨_, N, fun x e => e ▸ K.junk⟩, K.go_on hgo (i := 0) List.drop_zero (Nat.zero_le _) (Tags.put_self ..) N.fz (fun b hb => (K.cover b hb).imp id fun ⟨o, e, t⟩ => ⟨o, e, ?_⟩) K.start⟩
 have ne : b ≠ I := fun q => by rw [q, K.junk] at t; cases t
 rw [show (Ws.mk (W.t.put I .hold) W.h).t b = W.t b from Tags.put_ne ne]; exact t
theorem go_plain {M : Model} {A : Around} {s : Shared} {tg : Expr} {v : Value} {Q : UP} (h : ∃ o n, s.heap.get? I = some o ∧ o.cls = .type n ∧ ownedNames.contains n = false) (hq : Q () s) :
  wpAny M A (letOwnedTupleGo tg (.ref I) v) Q E s := by
 obtain ⟨o, n, ho, hc, hn⟩ := h
 have key : wpAny M A (letOwnedTupleGo (.List [] default) (.ref I) v) Q E s := by
  cases v with
  | ref a =>
   refine wpAny_bind (wpAny_load ho ?_)
   rw [hc]
   cases o.data with
   | fields vs =>
    dsimp only
    rw [show (["enumerate", "zip", "dict_itemiterator", "dict_reverseitemiterator", "odict_iterator", "itertools.zip_longest", "itertools.pairwise"].contains n) = false from hn]
    exact wpAny_pure hq
   | _ => exact wpAny_pure hq
  | _ => exact wpAny_pure hq
 cases tg <;> first | exact wpAny_pure hq | exact key
end
noncomputable def goF (cx : Cx) (tg : Expr) (it : Value) : Go := fun A v Q E s => wpAny (model cx.T.prog cx.T.w) A (letOwnedTupleGo tg it v) Q E s
noncomputable def RW (cx : Cx) (tg : Expr) (W : Ws) (it : Value) (xs : List PyData) : Prop := ∃ t', Stp W W ⟨t', W.h⟩ ∧ Stand cx.T cx.d cx.c cx.A.handled (goF cx tg it) it W xs ⟨t', W.h⟩
noncomputable def SF (Γ : Nat → Fn) (cx : Cx) (kd : Nat) (c : CE) (e tg : Expr) : Prop := ∀ st W, Sim cx st W → ∀ tk Q E, Post cx (cx.d + 1) cx.c (RW cx tg) W Q E ((ev Γ c st).bind (itE kd)) →
 wpX cx (eval e cx.env) (fun x s₁ => wpX cx (pyIter x) Q E s₁) E (sh cx.T W tk)
section
variable {Γ : Nat → Fn} {cx : Cx} {Q : FP} {E : VP} {st st' : St} {W W' W0 : Ws} {b tk kd : Nat} {d : PyData} {v it : Value} {pos : Pos} {e tg : Expr} {a c : CE} {xs : List PyData} {many : Bool} {is : List Nat} {body : CS} {bd : List Stmt}
theorem Stp.le {a b : Nat} {c : Bool} (h : Stp W0 W W') (l : Le a b c W0 W) : Le a b c W0 W' := let ⟨X, N, hX⟩ := h; N.le (fun x q => .of (by rw [hX x q]; rfl)) l
theorem Stp.sim (h : Stp W0 W W') (S : Sim cx st W) : Sim cx st W' := let ⟨X, N, hX⟩ := h; N.sim S
theorem SI.sf (h : SI Γ cx cx.c kd c e) (hc : eff c = true → cx.c = true) (tg : Expr) : SF Γ cx kd c e tg := fun st W S tk Q E H => h hc st W S tk Q E (by
 cases hr : (ev Γ c st).bind (itE kd) with
 | ok x st' =>
  rw [hr] at H
  rintro W' tk' v l S' ⟨I, fp, P, St, rfl, K⟩
  exact H W' tk' _ l S' ⟨_, K.stand fun A v Q E s h hq => go_plain h hq⟩
 | exc k st' => rw [hr] at H; exact H
 | stuck => rw [hr] at H; exact H)
theorem Stand.later {T : Tp} {d : Nat} {c : Bool} {hd : Option Value} {go : Go} (K : Stand T d c hd go it W0 xs W) (l : Le d d c W W') : Stand T d c hd go it W0 xs W' := by
 cases xs with
 | nil => exact fun W1 tk A Q E hA l' => K W1 tk A Q E hA (l.trans l')
 | cons x xs => exact fun W1 tk A Q E hA l' => K W1 tk A Q E hA (l.trans l')
noncomputable def stepB (Γ : Nat → Fn) (many : Bool) (is : List Nat) (body : CS) : PyData → St → R Fl := fun x st => match bindT many is x st with | some st' => ex Γ body st' | none => .stuck
theorem for_loop {Er : VP} (h0 : cx.h = false) (C : cx.Ok cx.c) (Fu : cx.Full) (hm : mT cx.nm cx.env.scope.names many is tg = true) (hb : SSs Γ cx body bd) (S : Sim cx st W) (l : Le cx.d cx.d cx.c W0 W) (K : Stand cx.T cx.d cx.c cx.A.handled (goF cx tg it) it W0 xs W) (H : Post cx cx.d cx.c (RFl cx) W0 Q E (forL (stepB Γ many is body) xs st)) :
  codeAny (model cx.T.prog cx.T.w) cx.A (.forLoop tg it bd [] cx.env) (fun r s' => match r with | .ok f => Q f s' | .error e => Er e s') (sh cx.T W tk) := by
 refine codeAny_forLoop_any (fun n s => ∃ xs st W tk, n = xs.length ∧ s = sh cx.T W tk ∧ Sim cx st W ∧ Le cx.d cx.d cx.c W0 W ∧ Stand cx.T cx.d cx.c cx.A.handled (goF cx tg it) it W0 xs W ∧ Post cx cx.d cx.c (RFl cx) W0 Q E (forL (stepB Γ many is body) xs st)) ?_ xs.length ⟨xs, st, W, tk, rfl, rfl, S, l, K, H⟩
 rintro n s ⟨xs, st, W, tk, rfl, rfl, S, l, K, H⟩
 cases xs with
 | nil => exact K W tk cx.A _ _ rfl Le.refl fun W' tk' h => wpAny_execs_nil (next_ok H (h.le l) (h.sim S))
 | cons x xs =>
  refine wpAny_mono (K W tk cx.A (fun v s₁' => wpX cx (assign tg cx.env v) (fun _ s₂ => wpX cx (execs bd cx.env) (fun f s₃ => match f with
      | .next | .cont => ∃ m, m < (x :: xs).length ∧ ∃ xs st W tk, m = xs.length ∧ s₃ = sh cx.T W tk ∧ Sim cx st W ∧ Le cx.d cx.d cx.c W0 W ∧ Stand cx.T cx.d cx.c cx.A.handled (goF cx tg it) it W0 xs W ∧ Post cx cx.d cx.c (RFl cx) W0 Q E (forL (stepB Γ many is body) xs st)
      | .brk => Q .next s₃
      | .ret v => Q (.ret v) s₃) (notedBy (model cx.T.prog cx.T.w) cx.A cx.env fun e s' => Er e s') s₂) (notedBy (model cx.T.prog cx.T.w) cx.A cx.env fun e s' => Er e s') s₁') _ rfl Le.refl fun W' tk' v h r K' => ?_) (fun r s₁ h => ?_) fun _ _ h => h
  · have l' := h.le l
    have S' := h.sim S
    replace H : Post cx cx.d cx.c (RFl cx) W0 Q E (match (match bindT many is x st with | some st' => ex Γ body st' | none => .stuck) with | .ok .next st => forL (stepB Γ many is body) xs st | .ok (.ret f) st => .ok (.ret f) st | _ => .stuck) := H
    cases hbt : bindT many is x st with
    | none => rw [hbt] at H; exact H.elim
    | some st1 =>
     rw [hbt] at H
     refine assign_tg h0 C Fu hm hbt r S' fun W2 tk2 l2 S2 => hb st1 W2 S2 tk2 _ _ ?_
     dsimp only at H
     cases hr : ex Γ body st1 with
     | stuck => rw [hr] at H; exact H.elim
     | exc k st2 => rw [hr] at H; exact H.elim
     | ok fl st2 =>
      rw [hr] at H
      intro W3 tk3 f l3 S3 r3
      have l5 := l'.trans (l2.trans l3)
      cases fl with
      | next =>
       cases show f = .next from r3
       exact ⟨xs.length, Nat.lt_succ_self _, xs, st2, W3, tk3, rfl, rfl, S3, l5, K'.later (l2.trans l3), H⟩
      | ret g =>
       obtain ⟨v', rfl, r4⟩ := r3
       exact H W3 tk3 _ l5 S3 ⟨v', rfl, r4⟩
  · cases r with
    | none => exact h.elim
    | some v => exact h
theorem s_loop (h0 : cx.h = false) (C : cx.Ok cx.c) (Fu : cx.Full) (hm : mT cx.nm cx.env.scope.names many is tg = true) (hs : ∀ v, foldedSetIterable e cx.env v = pure v) (hi : SF Γ cx kd a e tg) (hb : SSs Γ cx body bd) : SS Γ cx (.loop many is kd a body) (.For tg e bd [] pos) := fun st W S tk Q E H => by
 refine wpAny_For (hi st W S tk _ E (H.bind (Nat.le_succ _) id fun xs st1 W1 tk1 it l1 S1 r1 H1 => ?_)) hs
 obtain ⟨t', h, K⟩ := r1
 exact for_loop (W := ⟨t', W1.h⟩) h0 C Fu hm hb (h.sim S1) (h.le Le.refl) K H1
end
structure EnumI (cx : Cx) (W : Ws) (xs : List PyData) (e it : Addr) (fp : List Addr) (P : Nat → Value → Prop) (St : Nat → Heap → Prop) : Prop where
 dr : ∀ A : Around, A.handled = cx.A.handled → Draws cx.T.prog cx.T.w A it fp xs.length P St
 rep : ∀ i v, P i v → ∃ d, xs[i]? = some d ∧ Rep W v d
 cover : ∀ b ∈ fp, b = it ∨ ∃ o, W.get b = some o ∧ (W.t b).lent cx.d cx.c = true
 hei : e ≠ it
 hef : e ∉ fp
 hif : it ∈ fp
 je : W.t e = .junk
 ji : W.t it = .junk
 start : (∃ old, IsEnum W.h e it 0 old) ∧ St 0 W.h
section
variable {Γ : Nat → Fn} {cx : Cx} {cb : Bool} {Q : VP} {E : VP} {st : St} {W W0 : Ws} {b tk k : Nat} {d : PyData} {v : Value} {p : Pos} {x : Expr} {elts : List Expr} {a c : CE} {xs ys : List PyData} {e it : Addr} {fp : List Addr} {P : Nat → Value → Prop} {St : Nat → Heap → Prop}
theorem two_mem {a b x : Addr} (h : x ∈ [a, b]) : x = a ∨ x = b := by simpa using h
theorem EnumI.go_on (K : EnumI cx W0 xs e it fp P St) {i : Nat} (hx : xs.drop i = ys) (hi : i ≤ xs.length) (hE : W.t e = .hold) (hI : W.t it = .hold) (hz : Fz W0 W) (hc : ∀ b ∈ fp, b = it ∨ ∃ o, W.get b = some o ∧ (W.t b).lent cx.d cx.c = true) (hs : (∃ old, IsEnum W.h e it i old) ∧ St i W.h) :
  Stand cx.T cx.d cx.c cx.A.handled (goF cx (.Tuple elts k p) (.ref e)) (.ref e) W0 (enumFrom i ys) W := by
 have wt := fun (A : Around) (hA : A.handled = cx.A.handled) => WalksT.enumerateD (A := A) (K.dr A.in1 hA) e K.hei K.hef K.hif
 have to1 : ∀ {W1 : Ws} {i : Nat} {W : Ws}, W.t e = .hold → W.t it = .hold → (∀ b ∈ fp, b = it ∨ ∃ o, W.get b = some o ∧ (W.t b).lent cx.d cx.c = true) → ((∃ old, IsEnum W.h e it i old) ∧ St i W.h) → ∀ A : Around, A.handled = cx.A.handled → Le cx.d cx.d cx.c W W1 →
   ((∃ old, IsEnum W1.h e it i old) ∧ St i W1.h) ∧ W1.t e = .hold ∧ W1.t it = .hold ∧ (∀ b ∈ fp, b = it ∨ ∃ o, W1.get b = some o ∧ (W1.t b).lent cx.d cx.c = true) := fun {W1 i W} hE hI hc hs A hA l => by
  obtain ⟨oI, eI⟩ := (K.dr A hA).live _ _ hs.2
  obtain ⟨_, eE⟩ := hs.1
  have fh : ∀ {b o}, W.t b = .hold → W.get b = some o → W1.get b = some o ∧ W1.t b = W.t b := fun {b o} h g => l.fix g (by rw [h]; rfl) (by rw [h]; rfl)
  refine ⟨(wt A hA).frame _ _ _ hs fun b hb o g => ?_, (fh hE eE).2.trans hE, (fh hI eI).2.trans hI, fun b hb => (hc b hb).imp id fun ⟨o, g, t⟩ => ?_⟩
  · rcases List.mem_cons.mp hb with rfl | hb
    · exact (fh hE g).1
    · rcases hc b hb with rfl | ⟨o', e', t⟩
      · exact (fh hI g).1
      · obtain ⟨k1, k2⟩ := lent_e (b := cx.d) t id; exact (l.fix g k1 k2).1
  · obtain ⟨k1, k2⟩ := lent_e (b := cx.d) t id
    obtain ⟨e1, t1⟩ := l.fix g k1 k2
    exact ⟨o, e1, by rw [t1]; exact t⟩
 have hX : ∀ b, b ∈ [e, it] → W0.t b = .junk := fun b hb => (two_mem hb).elim (fun q => q ▸ K.je) fun q => q ▸ K.ji
 induction ys generalizing i W with
 | nil =>
  have hi' : i = xs.length := Nat.le_antisymm hi (List.drop_eq_nil_iff.mp hx)
  subst hi'
  intro W1 tk A Q E hA l hQ
  obtain ⟨s1, tE, tI, _⟩ := to1 hE hI hc hs A hA l
  refine (wt A hA).done (sh cx.T W1 tk) Q E s1 fun h' tk' hk => hQ ⟨fun b => if b ∈ [e, it] then .junk else W1.t b, h'⟩ tk' ⟨(· ∈ [e, it]), ⟨hk, fun b => ?_, fun b q => (two_mem q).elim (fun q => by rw [q, tE]; rfl) fun q => by rw [q, tI]; rfl, fun dd b g => ?_⟩, hX⟩
  · by_cases q : b ∈ [e, it]
    · exact .inr ⟨.inl q, by rw [show Ws.t _ b = _ from if_pos q]; rfl⟩
    · exact .inl (if_neg q)
  · by_cases q : b ∈ [e, it]
    · exact if_pos q
    · refine (if_neg q).trans (dd b ?_)
      cases g' : W1.get b with
      | none => rfl
      | some o => rw [show Ws.get _ b = some o from hk b o q g'] at g; cases g
 | cons y ys ih =>
  have hlt : i < xs.length := by
   rcases Nat.lt_or_ge i xs.length with q | q
   · exact q
   · rw [List.drop_eq_nil_of_le q] at hx; cases hx
  intro W1 tk A Q E hA l hQ
  obtain ⟨s1, tE, tI, c1⟩ := to1 hE hI hc hs A hA l
  have hy : xs[i]? = some y ∧ xs.drop (i + 1) = ys := by rw [List.drop_eq_getElem_cons hlt] at hx; injection hx with h1 h2; exact ⟨by rw [← h1]; exact geg hlt, h2⟩
  refine (wt A hA).item i (sh cx.T W1 tk) _ E hlt s1 fun T vals h' tk' hp hT hTup hmid hk => (wt A hA).go elts k p i T _ _ E hmid fun h'' hs'' hk'' => ?_
  have hTw : T ∉ [e, it] := (wt A hA).apart i T _ hmid
  obtain ⟨t, v, hpv, rfl⟩ := hp
  obtain ⟨d, hd, hr⟩ := K.rep i v hpv
  cases hd.symm.trans hy.1
  have gT : W1.get T = none := dead_at W1.h hT
  have al : ∀ {b o}, W1.get b = some o → b ≠ T := fun g q => by rw [q, gT] at g; cases g
  have kp : ∀ b o, b ∉ [e, it] → W1.get b = some o → h''.get? b = some o := fun b o q g => hk'' b o q (hk b o q g)
  obtain ⟨oI, eI⟩ := (K.dr A hA).live _ _ hs''.2
  have N : Nx (· ∈ [e, it]) W1 ⟨W1.t.put T .fz, h''⟩ := by
   refine ⟨kp, fun b => ?_, fun b q => (two_mem q).elim (fun q => by rw [q, tE]; rfl) fun q => by rw [q, tI]; rfl, fun dd b g => ?_⟩
   · by_cases q : b = T
     · exact .inr ⟨.inr (q ▸ gT), by rw [q]; exact congrArg Tag.isInst (Tags.put_self ..)⟩
     · exact .inl (Tags.put_ne q)
   · obtain ⟨oT, eT, _⟩ := hTup
     have nT : b ≠ T := fun q => by rw [q] at g; cases (hk'' T oT hTw eT).symm.trans g
     refine (Tags.put_ne nT).trans (dd b ?_)
     cases g' : W1.get b with
     | none => rfl
     | some o =>
      by_cases q : b ∈ [e, it]
      · rcases two_mem q with rfl | rfl
        · obtain ⟨_, he⟩ := hs''.1; cases he.symm.trans g
        · cases eI.symm.trans g
      · rw [show Ws.get _ b = some o from kp b o q g'] at g; cases g
  have hz1 : Fz W0 ⟨W1.t.put T .fz, h''⟩ := fun b o e => N.fz b o (l.fz b o (hz b o e))
  obtain ⟨oE, eE⟩ := s1.1
  obtain ⟨oI1, eI1⟩ := (K.dr A hA).live _ _ s1.2
  refine hQ ⟨W1.t.put T .fz, h''⟩ tk' (.ref T) ⟨_, N, hX⟩ (Rep.tuple (let ⟨o, ho, r⟩ := hTup; ⟨o, hk'' T o hTw ho, r⟩) (Tags.put_self ..) (.cons .int (.cons (hr.mono hz1) .nil))) (ih hy.2 hlt ((Tags.put_ne (al eE)).trans tE) ((Tags.put_ne (al eI1)).trans tI) hz1 (fun b hb => (c1 b hb).imp id fun ⟨o, g, t⟩ => ?_) hs'')
  have ne : b ∉ [e, it] := fun q => by
   rcases two_mem q with q | q <;> rw [q] at t
   · rw [tE] at t; cases t
   · rw [tI] at t; cases t
  exact ⟨o, kp b o ne g, by rw [show Ws.t _ b = W1.t b from Tags.put_ne (al g)]; exact t⟩
theorem EnumI.rw (K : EnumI cx W xs e it fp P St) : RW cx (.Tuple elts k p) W (.ref e) (enumFrom 0 xs) := by
 obtain ⟨_, gE⟩ := K.start.1
 obtain ⟨oI, gI⟩ := (K.dr cx.A rfl).live _ _ K.start.2
 have N : Nx (· ∈ [e, it]) W ⟨(W.t.put e .hold).put it .hold, W.h⟩ := by
  refine ⟨fun _ _ _ g => g, fun b => ?_, fun b q => (two_mem q).elim (fun q => by rw [q, K.je]; rfl) fun q => by rw [q, K.ji]; rfl, fun dd b g => ?_⟩
  · by_cases q : b = it
    · exact .inr ⟨.inl (by simp [q]), by rw [q]; exact congrArg Tag.isInst (Tags.put_self ..)⟩
    · by_cases q' : b = e
      · exact .inr ⟨.inl (by simp [q']), by rw [q']; exact congrArg Tag.isInst ((Tags.put_ne K.hei).trans (Tags.put_self ..))⟩
      · exact .inl ((Tags.put_ne q).trans (Tags.put_ne q'))
  · have n1 : b ≠ it := fun q => by rw [q] at g; cases gI.symm.trans g
    have n2 : b ≠ e := fun q => by rw [q] at g; cases gE.symm.trans g
    exact (Tags.put_ne n1).trans ((Tags.put_ne n2).trans (dd b g))
 refine ⟨_, ⟨_, N, fun b hb => (two_mem hb).elim (fun q => q ▸ K.je) fun q => q ▸ K.ji⟩, K.go_on (i := 0) List.drop_zero (Nat.zero_le _) ((Tags.put_ne K.hei).trans (Tags.put_self ..)) (Tags.put_self ..) N.fz (fun b hb => (K.cover b hb).imp id fun ⟨o, g, t⟩ => ?_) K.start⟩
 obtain ⟨g', t'⟩ := N.at (by generalize W.t b = t0 at t; cases t0 <;> first | rfl | cases t) g
 exact ⟨o, g', by rw [t']; exact t⟩
theorem en_made {h' : Heap} (S : Sim cx st W) (H : Post cx b cb (RW cx (.Tuple elts k p)) W Q E (.ok (enumFrom 0 xs) st)) (he : IsEnum h' (W.h.objs.size + 1) W.h.objs.size 0 .none) (hk : ∀ b o, W.h.get? b = some o → h'.get? b = some o)
  (dr : ∀ A : Around, A.handled = cx.A.handled → Draws cx.T.prog cx.T.w A W.h.objs.size fp xs.length P St) (hr : ∀ i v, P i v → ∃ d, xs[i]? = some d ∧ Rep W v d) (hc : ∀ b ∈ fp, b = W.h.objs.size ∨ ∃ o, W.get b = some o ∧ (W.t b).lent cx.d cx.c = true) (hif : W.h.objs.size ∈ fp) (hs : St 0 h') :
  wpX cx (pyIter (.ref (W.h.objs.size + 1))) Q E (sh cx.T ⟨W.t, h'⟩ tk) := by
 obtain ⟨l, S'⟩ := S.grow (b := b) (cb := cb) hk
 have K : EnumI cx ⟨W.t, h'⟩ xs (W.h.objs.size + 1) W.h.objs.size fp P St := by
  refine ⟨dr, fun i v h => let ⟨d, h1, h2⟩ := hr i v h; ⟨d, h1, h2.mono l.fz⟩, fun b hb => (hc b hb).imp id fun ⟨o, g, t⟩ => ⟨o, hk b o g, t⟩, Nat.succ_ne_self _, fun hb => ?_, hif, S.ok.dead _ (dead_at W.h (Nat.le_succ _)), S.ok.dead _ (dead_at W.h (Nat.le_refl _)), ⟨⟨_, he⟩, hs⟩⟩
  rcases hc _ hb with q | ⟨o, g, _⟩
  · exact Nat.succ_ne_self _ q
  · exact Nat.lt_irrefl _ (Nat.lt_of_succ_lt (Heap.lt_size g))
 exact wpAny_pyIter_enum (s := sh cx.T ⟨W.t, h'⟩ tk) he (H _ tk _ l S' K.rw)
theorem en_list {a : Addr} {vs : Array Value} (hn : cx.A.handled = none) (S : Sim cx st W) (hl : W.h.IsList a vs) (ht : (W.t a).lent cx.d cx.c = true) (hr : RepAll W vs.toList xs) (H : Post cx b cb (RW cx (.Tuple elts k p)) W Q E (.ok (enumFrom 0 xs) st)) :
  wpX cx (call (.type "enumerate") [.ref a]) (fun r s => wpX cx (pyIter r) Q E s) E (sh cx.T W tk) := by
 obtain ⟨o, ho, hc, n, hd⟩ := id hl
 refine call_enumerate_list (s := sh cx.T W tk) hl fun h' he hit hsz hk => en_made (P := fun i v => vs[i]? = some v) (St := fun i h => h.IsListIter W.h.objs.size a i ∧ h.IsList a vs) S H he hk (fun A hA => by rw [← hr.size]; exact Draws.list (hA.trans hn) _ a (Nat.ne_of_lt (Heap.lt_size ho)) vs) (fun i v hv => hr.get' (by rw [Array.getElem?_toList]; exact hv)) (fun b hb => ?_) (List.mem_cons_self ..) ⟨hit, hl.at fun o e => hk _ o e⟩
 rcases List.mem_cons.mp hb with rfl | hb
 · exact .inl rfl
 · cases lsm hb; exact .inr ⟨o, ho, ht⟩
theorem en_str {q : Str} {t : Tok} (hn : cx.A.handled = none) (S : Sim cx st W) (H : Post cx b cb (RW cx (.Tuple elts k p)) W Q E (.ok (enumFrom 0 ((cs q).map sgn)) st)) :
  wpX cx (call (.type "enumerate") [.str q t]) (fun r s => wpX cx (pyIter r) Q E s) E (sh cx.T W tk) := by
 have hlen : q.cps.size = ((cs q).map sgn).length := by rw [lmp]; exact Array.length_toList.symm
 refine call_enumerate_str (s := sh cx.T W tk) fun h' he hit hsz hk => ?_
 cases hasc : q.cps.all (· < 128) with
 | true =>
  rw [show strIterType q = "str_ascii_iterator" by unfold strIterType; rw [hasc]; rfl] at hit
  exact en_made S H he hk (fun A hA => by rw [← hlen]; exact Draws.strAscii (hA.trans hn) _ q t) (fun i v h => sign_rep h) (fun b hb => .inl (lsm hb)) (List.mem_cons_self ..) hit
 | false =>
  rw [show strIterType q = "str_iterator" by unfold strIterType; rw [hasc]; rfl] at hit
  exact en_made S H he hk (fun A hA => by rw [← hlen]; exact Draws.strWide (hA.trans hn) _ q t) (fun i v h => sign_rep h) (fun b hb => .inl (lsm hb)) (List.mem_cons_self ..) hit
theorem f_enum {es : List Expr} (h0 : cx.h = false) (TO : cx.T.Ok) (C : cx.Ok cx.c) (hp : patI cx.env.scope.names 2 x = some es) (hf : eff a = true → cx.c = true) (ha : SL Γ cx cx.c a es) : SF Γ cx 2 a x (.Tuple elts k p) := fun st W S tk Q E H => by
 refine bi_call TO C S hp (fv := .type "enumerate") (by decide +kernel) (.inr ⟨"enumerate", rfl⟩) (ha hf st W S tk _ E (Post.bind' H fun y st1 W1 tk1 vs l1 S1 r1 H1 => ?_))
 unfold itE at H1
 cases hi : itF 2 st1.v y with
 | none => rw [hi] at H1; exact H1.elim
 | some xs =>
  rw [hi] at H1
  obtain ⟨zs, h1, rfl⟩ := msm (show ((one y).bind (itF1 itemsS st1.v)).map (enumFrom 0) = some xs from hi)
  obtain ⟨f, h2, h1⟩ := bsm h1
  cases one_eq h2
  obtain ⟨v, rfl, r⟩ := r1.one
  obtain ⟨t', l, S', h⟩ := it_what (cx.d + 1) cx.c S1 r h1
  rcases h with ⟨a, vs, rfl, hl, ht, hr, hz⟩ | ⟨d, hr, hd⟩
  · exact en_list (C.hand h0) (W := ⟨t', W1.h⟩) S' hl ht hr (H1.to l)
  · rcases or_some hd with h | h
    · obtain ⟨q, hq, h⟩ := bsm h
      obtain ⟨hz, rfl⟩ := gd_some h
      obtain ⟨_, rfl⟩ := hr.ss hq
      exact en_str (C.hand h0) (W := ⟨t', W1.h⟩) S' (H1.to l)
    · obtain ⟨q, hq, h⟩ := bsm h
      obtain ⟨hz, rfl⟩ := gd_some h
      obtain ⟨a, vs, rfl, hl, ht, hr⟩ := hr.ll hq
      exact en_list (C.hand h0) (W := ⟨t', W1.h⟩) S' hl (by rw [ht]; rfl) hr (H1.to l)
end
noncomputable def clFold (cells : List (Str × Addr)) : Kd → List (Str × Addr) → List (Str × Addr)
 | [], acc => acc
 | y :: r, acc => clFold cells r (if y.2 == .free then (match cells.lookup y.1 with | some c => (y.1, c) :: acc | none => acc) else acc)
section
variable {cells : List (Str × Addr)} {names : Kd} {acc : List (Str × Addr)} {y : Str} {c : Addr}
theorem clFold_mem (h : (y, c) ∈ clFold cells names acc) : (y, c) ∈ acc ∨ cells.lookup y = some c := by
 induction names generalizing acc with
 | nil => exact .inl h
 | cons z r ih =>
  rcases ih h with h | h
  · cases hz : z.2 == .free with
    | false => rw [hz] at h; exact .inl h
    | true =>
     rw [hz] at h
     cases hc : cells.lookup z.1 with
     | none => rw [hc] at h; exact .inl h
     | some c' =>
      rw [hc] at h
      rcases List.mem_cons.mp h with e | h
      · cases e; exact .inr hc
      · exact .inl h
  · exact .inr h
theorem clFold_acc {q : Str × Addr} (h : q ∈ acc) : q ∈ clFold cells names acc := by
 induction names generalizing acc with
 | nil => exact h
 | cons z r ih =>
  refine ih ?_
  cases z.2 == .free with
  | false => exact h
  | true =>
   cases cells.lookup z.1 with
   | none => exact h
   | some c' => exact .tail _ h
theorem clFold_has (h : (y, NameKind.free) ∈ names) (hc : cells.lookup y = some c) : (y, c) ∈ clFold cells names acc := by
 induction names generalizing acc with
 | nil => cases h
 | cons z r ih =>
  rcases List.mem_cons.mp h with e | h
  · subst e
    show (y, c) ∈ clFold cells r (match cells.lookup y with | some c => (y, c) :: acc | none => acc)
    rw [hc]; exact clFold_acc (.head _)
  · exact ih h
theorem lookup_of_mem {l : List (Str × Addr)} (h : (y, c) ∈ l) (hu : ∀ c', (y, c') ∈ l → c' = c) : l.lookup y = some c := by
 induction l with
 | nil => cases h
 | cons p r ih =>
  rw [List.lookup_cons]
  cases e : y == p.1 with
  | true =>
   have e := eq_of_beq e
   exact congrArg some (hu p.2 (by rw [e]; exact .head _))
  | false =>
   rcases List.mem_cons.mp h with q | q
   · rw [← q] at e; exact absurd rfl (ne_of_beq_false e)
   · exact ih q fun c' h' => hu c' (.tail _ h')
theorem clFold_lookup (h : (y, NameKind.free) ∈ names) (hc : cells.lookup y = some c) : (clFold cells names []).lookup y = some c :=
 lookup_of_mem (clFold_has h hc) fun c' h' => by
  rcases clFold_mem h' with q | q
  · cases q
  · cases hc.symm.trans q; rfl
theorem closure_loop {env : Env} (h : ∀ x ∈ names, x.2 = .free → ∃ c, env.cells.lookup x.1 = some c) :
  (forIn names acc fun (x : Str × NameKind) r => (match x with | (name, kind) => if (kind == .free) = true then do let a ← cellOf env name; pure (ForInStep.yield ((name, a) :: r)) else pure (ForInStep.yield r)) : Sem (List (Str × Addr))) = pure (clFold env.cells names acc) := by
 induction names generalizing acc with
 | nil => rfl
 | cons z r ih =>
  rw [List.forIn_cons]
  have ih := fun acc => ih (acc := acc) fun x hx => h x (.tail _ hx)
  obtain ⟨n, k⟩ := z
  cases hk : k == NameKind.free with
  | true =>
   obtain ⟨c, hc⟩ := h _ (.head _) (eq_of_beq hk)
   dsimp only at hc
   simp only [cellOf, hc, hk, if_true, pure_bind]
   refine (ih _).trans ?_
   show _ = pure (clFold env.cells r (if k == .free then (match env.cells.lookup n with | some c => (n, c) :: acc | none => acc) else acc))
   rw [hk, hc]; rfl
  | false =>
   simp only [hk, Bool.false_eq_true, if_false, pure_bind]
   refine (ih _).trans ?_
   show _ = pure (clFold env.cells r (if k == .free then (match env.cells.lookup n with | some c => (n, c) :: acc | none => acc) else acc))
   rw [hk]; rfl
theorem closure_is {scope : Scope} {env : Env} (h : ∀ x ∈ scope.names, x.2 = .free → ∃ c, env.cells.lookup x.1 = some c) : closureFor scope env = pure (clFold env.cells scope.names []) := by
 unfold closureFor
 have := closure_loop (env := env) (names := scope.names) (acc := []) h
 simp only [bind_pure]
 exact this
end
structure CompOk (cx : Cx) (scope : Scope) (x : Str) : Prop where
 kind : scope.kind = .function
 cell : ∀ y ∈ scope.names, y.2 ≠ .cell
 loc : ∀ y ∈ scope.names, y.2 = .local → scope.names.lookup y.1 = some .local
 free : ∀ y ∈ scope.names, y.2 = .free → cx.env.scope.names.lookup y.1 = some .cell
 hx : scope.names.lookup x = some .local
 mask : ∀ y ∈ maskN x cx.nm, (relabelK scope.names cx.env.scope.names).lookup y ≠ some .local
 nil : (relabelK scope.names cx.env.scope.names).lookup ("" : Str) = none
noncomputable def Cx.inner (cx : Cx) (scope : Scope) (x : Str) (Cc : Addr) : Cx :=
 { T := cx.T, A := cx.A, env := compEnvC scope (clFold cx.env.cells scope.names []) Cc cx.env, nm := maskN x cx.nm ++ [x], d := cx.d + 2, c := cx.c, full := false, h := cx.h }
theorem relabel_is {scope : Scope} {env : Env} (hk : env.scope.kind = .function) : (relabel scope env).names = relabelK scope.names env.scope.names := by
 unfold relabel relabelK
 simp only [hk, Env.kindOf]
 rfl
theorem relabel_cell {names kd : Kd} {y : Str} (hc : ∀ z ∈ names, z.2 ≠ .cell) (h : (relabelK names kd).lookup y = some .cell) : (y, NameKind.free) ∈ names := by
 have hm := mem_of_lookup h
 unfold relabelK at hm
 obtain ⟨⟨n, k⟩, h1, h2⟩ := List.mem_map.mp hm
 dsimp only at h2
 split at h2
 · rename_i q
   simp only [Bool.and_eq_true, beq_iff_eq] at q
   cases h2
   rw [← q.1.1]; exact h1
 · cases h2; exact absurd rfl (hc _ h1)
section
variable {cx : Cx} {st st' : St} {W W' : Ws} {x : Str} {scope : Scope} {Cc : Addr} {v u : Value} {d : PyData} {f : F} {t : Tag} {i : Nat} {m : Str → Option Value} {y : Str}
theorem inner_ok {cb : Bool} (C : cx.Ok cb) (CO : CompOk cx scope x) : (cx.inner scope x Cc).Ok cb := ⟨C.cb, CO.kind, C.glob, C.bltn, C.hand, C.units, C.depth⟩
theorem inner_names {cb : Bool} (C : cx.Ok cb) : (cx.inner scope x Cc).env.scope.names = relabelK scope.names cx.env.scope.names := relabel_is C.kind
theorem seen_of {o : Option F} (h : seen o = some f) : ∃ g, o = some g := by
 cases o with
 | none => cases h
 | some g => exact ⟨g, rfl⟩
theorem seen_tmp {o : Option F} (h : seen o = some f) : f.tmp = false := by
 cases o with
 | none => cases h
 | some g => cases g <;> first | (cases h; rfl) | cases h
theorem lent_up {d d' : Nat} {c : Bool} (hd : d ≤ d') (h : t.lent d c = true) : t.lent d' c = true := by
 cases t with
 | own e i => exact dtt (Nat.lt_of_lt_of_le (odt h) hd)
 | _ => exact h
theorem RepS.seen {cx' : Cx} {g : F} {t' : Tag} (hT : cx'.T = cx.T) (hd : cx.d < cx'.d) (hc : cx'.c = true → cx.c = true) (r : RepS cx W (.own cx.d (i + 1)) v g) (h : seen (some g) = some f) : RepS cx' W t' v f := by
 have lc : ∀ {t : Tag}, t.lent cx'.d cx.c = true → t.lent cx'.d cx'.c = true := fun {t} h => by
  cases t with
  | pgf k j => cases hq : cx'.c with
   | false => rfl
   | true => rw [hc hq] at h; cases h
  | _ => exact h
 cases g with
 | val d => cases h; exact r
 | own xs => cases h; obtain ⟨a, vs, e, ⟨n, q⟩, ht, hr⟩ := r; exact ⟨a, vs, e, ⟨_, q, rfl, n, rfl⟩, by rw [ht]; exact dtt hd, hr⟩
 | brw xs => cases h; obtain ⟨a, vs, e, q, ht, hr⟩ := r; exact ⟨a, vs, e, q, lc (lent_up (Nat.le_of_lt hd) ht), hr⟩
 | pg k => cases h; exact r
 | dct es => cases h
 | ex k => cases h
 | lnd j => cases h
theorem slot_inV (h : slot (inV st.v d) i = some f) : (i < st.v.length ∧ seen (slot st.v i) = some f) ∨ (i = st.v.length ∧ f = .val d) := by
 unfold slot inV at h
 have hl : (st.v.map seen).length = st.v.length := lmp ..
 rcases Nat.lt_trichotomy i st.v.length with q | q | q
 · refine .inl ⟨q, ?_⟩
   rw [List.getElem?_append_left (by rw [hl]; exact q), List.getElem?_map] at h
   unfold slot
   rw [geg q] at h ⊢
   exact h
 · refine .inr ⟨q, ?_⟩
   rw [List.getElem?_append_right (by rw [hl, q]; exact Nat.le_refl _), q, hl, Nat.sub_self] at h
   cases h; rfl
 · rw [List.getElem?_eq_none (by rw [lap, hl]; exact q)] at h
   cases h
theorem mask_at (hi : i < cx.nm.length) (h : (maskN x cx.nm ++ [x])[i]? = some y) : y ∈ maskN x cx.nm ∧ (cx.nm[i]? = some y ∨ y = ("" : Str)) := by
 have hml : (maskN x cx.nm).length = cx.nm.length := lmp ..
 rw [List.getElem?_append_left (by rw [hml]; exact hi)] at h
 refine ⟨mog h, ?_⟩
 unfold maskN at h
 rw [List.getElem?_map, geg hi] at h
 rw [geg hi]
 replace h : (if cx.nm[i] == x then ("" : Str) else cx.nm[i]) = y := Option.some.inj h
 cases e : cx.nm[i] == x with
 | true => rw [e] at h; exact .inr h.symm
 | false => rw [e] at h; exact .inl (congrArg some h)
theorem inner_frm {cb : Bool} (C : cx.Ok cb) (CO : CompOk cx scope x) (F : Frm cx st.v W) (hlen : st.v.length = cx.nm.length) (hn : W.h.Ns Cc m) (ht : W.t Cc = .loc (cx.d + 2)) (hm : m x = some v) (hr : Rep W v d) : Frm (cx.inner scope x Cc) (inV st.v d) W := by
 have kx : (cx.inner scope x Cc).env.kindOf x = some .local := lookup_relabel_local CO.hx
 refine ⟨⟨m, hn⟩, ht, fun y c hc => ?_, fun i f y h1 h2 h3 => ?_, let ⟨l', h1, h2⟩ := F.frs; ⟨l', h1, h2.keep (Nat.le_add_right _ 2) fun L d' o hd t g => ⟨t, o, g⟩⟩, F.hnd⟩
 · rcases clFold_mem hc with q | q
   · cases q
   · obtain ⟨e, d', t, l, _⟩ := F.cells y c (mem_of_lookup q)
     exact ⟨e, d', t, nlt l (Nat.le_add_right ..), fun q => nomatch q⟩
 · rcases slot_inV h1 with ⟨hi, hs⟩ | ⟨rfl, rfl⟩
   · obtain ⟨hmem, hny⟩ := mask_at (hlen ▸ hi) h2
     have hkd : (cx.inner scope x Cc).env.kindOf y = (relabelK scope.names cx.env.scope.names).lookup y := by
      show (relabel scope cx.env).names.lookup y = _
      rw [relabel_is C.kind]
     rcases h3 with h3 | h3
     · rw [hkd] at h3; exact absurd h3 (CO.mask y hmem)
     · rw [hkd] at h3
       have hfree := relabel_cell CO.cell h3
       have hout : cx.env.kindOf y = some .cell := CO.free _ hfree rfl
       rcases hny with hny | rfl
       · obtain ⟨g, hg⟩ := seen_of hs
         obtain ⟨u, hu, r⟩ := F.vals i g y hg hny (.inr hout)
         refine ⟨u, ?_, RepS.seen (cx := cx) (cx' := cx.inner scope x Cc) rfl (Nat.lt_add_of_pos_right (k := 2) (by decide)) id r (hg ▸ hs)⟩
         rcases hu with ⟨k, _⟩ | ⟨k, c, hc, hv'⟩
         · cases hout.symm.trans k
         · exact .inr ⟨by rw [hkd]; exact h3, c, clFold_lookup hfree hc, hv'⟩
       · rw [CO.nil] at h3; cases h3
   · have : y = x := by
      have h2' : (maskN x cx.nm ++ [x])[st.v.length]? = some y := h2
      rw [List.getElem?_append_right (by rw [hlen]; exact Nat.le_of_eq (lmp ..)), hlen, show (maskN x cx.nm).length = cx.nm.length from lmp .., Nat.sub_self] at h2'
      cases h2'; rfl
     subst this
     exact ⟨v, .inl ⟨kx, m, hn, hm⟩, hr⟩
theorem inner_back {c : Bool} {st1 : St} (S : Sim cx st W) (l : Le (cx.d + 2) (cx.d + 3) c W W') (hc : c = true → cx.c = true) (S' : Sim (cx.inner scope x Cc) st' W') (h1 : st1.v = st.v) (h2 : st1.p = st'.p) : Sim cx st1 W' :=
 ⟨h2 ▸ S'.ok, h1 ▸ S.fr.le l (Nat.lt_add_of_pos_right (by decide)) (Nat.lt_add_of_pos_right (by decide)) hc⟩
end
theorem R.bind_ok {α β : Type} {r : R α} {f : α → St → R β} {a : β} {st : St} (h : r.bind f = .ok a st) : ∃ x st1, r = .ok x st1 ∧ f x st1 = .ok a st := by
 cases r with
 | ok x st1 => exact ⟨x, st1, rfl, h⟩
 | exc k st1 => cases h
 | stuck => cases h
noncomputable def stepC (Γ : Nat → Fn) (elt cond : CE) (v : Slots) : PyData → List Slots → R (List PyData) := fun d p =>
 (cndE (cond.ctorIdx == 0) (ev Γ cond ⟨inV v d, p, 0⟩) ⟨inV v d, p, 0⟩).bind fun b st' => if b then (ev Γ elt ⟨inV v d, st'.p, 0⟩).bind eltE else .ok [] st'
noncomputable def SCd (Γ : Nat → Fn) (cx : Cx) (cb : Bool) (c : CE) (ifs : List Expr) : Prop := (c.ctorIdx = 0 ∧ ifs = []) ∨ (c.ctorIdx ≠ 0 ∧ ∃ e, ifs = [e] ∧ SB Γ cx cb c e)
structure CL (cx : Cx) (cb : Bool) (D Cc : Addr) (W2 W : Ws) (st : St) (ds : List PyData) (ys : Array Value) : Prop where
 sim : Sim cx st W
 le : Le cx.d (cx.d + 1) cb W2 W
 lst : W.h.PlainList D ys
 dt : W.t D = .own (cx.d + 1) 0
 rep : RepAll W ys.toList ds
 ns : ∃ m, W.h.Ns Cc m
 ct : W.t Cc = .loc (cx.d + 2)
structure InOk (Γ : Nat → Fn) (cx : Cx) (cb : Bool) (scope : Scope) (x : Str) (elt cond : CE) (ex : Expr) (ifs : List Expr) : Prop where
 el : ∀ Cc, SL Γ (cx.inner scope x Cc) cb elt [ex]
 cn : ∀ Cc, SCd Γ (cx.inner scope x Cc) cb cond ifs
 fe : eff elt = true → cb = true
 fc : eff cond = true → cb = true
section
variable {Γ : Nat → Fn} {cx : Cx} {cb : Bool} {E : VP} {st st' : St} {W W' W2 : Ws} {tk n : Nat} {d : PyData} {v u : Value} {pos px : Pos} {ex iter : Expr} {ifs : List Expr} {elt cond : CE} {xs ys out ds : List PyData} {vs : Array Value} {D Cc I : Addr} {x : Str} {scope : Scope} {vv : Slots} {p pout : List Slots} {b : Bool}
theorem stepC_ok (h : stepC Γ elt cond vv d p = .ok ys st') : ∃ b st1, cndE (cond.ctorIdx == 0) (ev Γ cond ⟨inV vv d, p, 0⟩) ⟨inV vv d, p, 0⟩ = .ok b st1 ∧
  ((b = false ∧ ys = [] ∧ st' = st1) ∨ (b = true ∧ ∃ fs y, ev Γ elt ⟨inV vv d, st1.p, 0⟩ = .ok fs st' ∧ oneV fs = some y ∧ ys = [y])) := by
 obtain ⟨b, st1, h1, h2⟩ := R.bind_ok h
 refine ⟨b, st1, h1, ?_⟩
 cases b with
 | false => cases h2; exact .inl ⟨rfl, rfl, rfl⟩
 | true =>
  obtain ⟨fs, st2, h3, h4⟩ := R.bind_ok (show (ev Γ elt ⟨inV vv d, st1.p, 0⟩).bind eltE = .ok ys st' from h2)
  unfold eltE at h4
  cases ho : oneV fs with
  | none => rw [ho] at h4; cases h4
  | some y => rw [ho] at h4; cases h4; exact .inr ⟨rfl, fs, y, h3, ho, rfl⟩
theorem cond_wp {Q : Bool → Shared → Prop} (h : SCd Γ cx cb cond ifs) (hf : eff cond = true → cb = true) (S : Sim cx st W) (hev : cndE (cond.ctorIdx == 0) (ev Γ cond st) st = .ok b st') (hq : ∀ W' tk', Le cx.d (cx.d + 1) cb W W' → Sim cx st' W' → Q b (sh cx.T W' tk')) :
  wpX cx (forIn ifs true fun c r => if r = true then do let ok ← isTrue c cx.env (eval c cx.env); pure (ForInStep.yield ok) else pure (ForInStep.yield r)) Q E (sh cx.T W tk) := by
 rcases h with ⟨h, rfl⟩ | ⟨h, e, rfl, h2⟩
 · rw [h] at hev
   cases hev
   exact wpAny_pure (hq W tk Le.refl S)
 · rw [show (cond.ctorIdx == 0) = false from bfi fun q => h (eq_of_beq q)] at hev
   rw [List.forIn_cons]
   refine wpAny_bind (wpAny_bind (h2 hf st W S tk _ E ?_))
   rw [show toB (ev Γ cond st) = .ok b st' from hev]
   intro W' tk' t l S' r
   cases show t = b from r
   exact wpAny_pure (wpAny_pure (hq W' tk' l S'))
theorem mapR_cons {f : PyData → List Slots → R (List PyData)} {z : PyData} {q : List PyData × List Slots} (h : mapR f (z :: xs) p = some q) : ∃ ys st' r, f z p = .ok ys st' ∧ mapR f xs st'.p = some r ∧ q = (ys ++ r.1, r.2) := by
 replace h : (match f z p with | .ok ys st => (mapR f xs st.p).map fun q => (ys ++ q.1, q.2) | _ => none) = some q := h
 cases h1 : f z p with
 | ok ys st' =>
  rw [h1] at h
  obtain ⟨r, h2, rfl⟩ := msm h
  exact ⟨ys, st', r, rfl, h2, rfl⟩
 | exc k st' => rw [h1] at h; cases h
 | stuck => rw [h1] at h; cases h
theorem CL.but {x : Addr} {ds' : List PyData} {ys' : Array Value} (L : CL cx cb D Cc W2 W st ds vs) (hcb : cb = true → cx.c = true) (B : But x W W') (hx : W.t x = .own (cx.d + 1) 0 ∨ W.t x = .loc (cx.d + 2)) (ht : W'.t x = W.t x) (ha : ∃ o, W'.get x = some o ∧ Nf o) (hl : W'.h.PlainList D ys') (hr : RepAll W' ys'.toList ds') (hn : ∃ m, W'.h.Ns Cc m) :
  CL cx cb D Cc W2 W' st ds' ys' ∧ Le cx.d (cx.d + 1) cb W W' := by
 have ni : NI W' x := ⟨fun k e => (by rw [ht] at e; rcases hx with q | q <;> rw [q] at e <;> cases e), fun d o _ e => by obtain ⟨o', g, n⟩ := ha; cases g.symm.trans e; exact n⟩
 have fr : ∀ a b, a ≤ cx.d + 1 → b ≤ cx.d + 2 → Fr a b cb W x := fun a b ha hb => .of (by rcases hx with q | q <;> rw [q]; exact dtt ha; exact dtt hb)
 have l := B.le (fr cx.d (cx.d + 1) (Nat.le_succ _) (Nat.le_succ _)) ni
 have tg : ∀ {b t}, W.t b = t → W'.t b = t := fun {b t} q => by
  by_cases e : b = x
  · rw [e, ht, ← e]; exact q
  · exact (B.tg b e).trans q
 exact ⟨⟨⟨L.sim.ok.but B (by rcases hx with q | q <;> rw [q] <;> rfl) (fun e => let ⟨o, g, _⟩ := ha; nomatch g.symm.trans e) ni, L.sim.fr.le (B.le (fr (cx.d + 1) (cx.d + 1) (Nat.le_refl _) (Nat.le_succ _)) ni) (Nat.lt_succ_self _) (Nat.lt_succ_self _) hcb⟩, L.le.trans l, hl, tg L.dt, hr, hn, tg L.ct⟩, l⟩
theorem loc_ne_own {d : Nat} (h : W.t D = .own d 0) (h' : W.t Cc = .loc (d + 1)) : D ≠ Cc := fun q => by rw [q, h'] at h; cases h
theorem CL.stp (L : CL cx cb D Cc W2 W st ds vs) (h : Stp W2 W W') : CL cx cb D Cc W2 W' st ds vs := by
 obtain ⟨X, N, hX⟩ := id h
 obtain ⟨nn, g⟩ := L.lst
 obtain ⟨m, o, es, ep, g', r⟩ := L.ns
 have hd := N.at (by rw [L.dt]; rfl) g
 have hc := N.at (by rw [L.ct]; rfl) g'
 exact ⟨h.sim L.sim, h.le L.le, ⟨nn, hd.1⟩, hd.2.trans L.dt, L.rep.mono N.fz, ⟨m, o, es, ep, hc.1, r⟩, hc.2.trans L.ct⟩
theorem CL.inner {st2 : St} (L : CL cx cb D Cc W2 W ⟨vv, p, n⟩ ds vs) (hcb : cb = true → cx.c = true) (l : Le (cx.d + 2) (cx.d + 3) cb W W') (N : Sim (cx.inner scope x Cc) st2 W') : CL cx cb D Cc W2 W' ⟨vv, st2.p, n⟩ ds vs ∧ Le cx.d (cx.d + 1) cb W W' := by
 obtain ⟨nn, g⟩ := L.lst
 obtain ⟨m, hm⟩ := L.ns
 have l' : Le cx.d (cx.d + 1) cb W W' := l.mono (Nat.le_add_right _ 2) (Nat.le_add_right (cx.d + 1) 2) id
 have hd := l.fix g (by rw [L.dt]; exact dff (Nat.not_le.mpr (Nat.lt_succ_self _))) (by rw [L.dt]; rfl)
 have kc : (W.t Cc).ch (cx.d + 2) (cx.d + 3) cb = false := by rw [L.ct]; exact dff (Nat.not_le.mpr (Nat.lt_succ_self _))
 refine ⟨⟨inner_back L.sim l hcb N rfl rfl, L.le.trans l', ⟨nn, hd.1⟩, hd.2.trans L.dt, L.rep.mono l.fz, ⟨m, l.ns kc hm⟩, ?_⟩, l'⟩
 obtain ⟨o, _, _, g', _⟩ := hm
 exact (l.loct g' kc).trans L.ct
noncomputable def goC : Go := fun _ _ Q _ s => Q () s
theorem Stand.next {T : Tp} {d : Nat} {c : Bool} {it : Value} {W0 : Ws} {z : PyData} {A : Around} {R : Option Value → Shared → Prop} {hd : Option Value} (K : Stand T d c hd goC it W0 (z :: xs) W) (hA : A.handled = hd) (h : ∀ W' tk' v, Stp W0 W W' → Rep W' v z → Stand T d c hd goC it W0 xs W' → R (some v) (sh T W' tk')) :
  wpAny (model T.prog T.w) A (pyNext it) R E (sh T W tk) := wpAny_mono (K W tk A (fun v s => R (some v) s) E hA Le.refl h) (fun r s h => by
 cases r with
 | none => exact h.elim
 | some v => exact h) fun _ _ h => h
theorem comp_loop {Rr : Result → Shared → Prop} (C : cx.Ok cb) (CO : CompOk cx scope x) (IO : InOk Γ cx cb scope x elt cond ex ifs) (hlen : vv.length = cx.nm.length) (K : Stand cx.T cx.d cx.c cx.A.handled goC (.ref I) W2 xs W) (L : CL cx cb D Cc W2 W ⟨vv, p, n⟩ [] #[]) (hz : xs.length ≤ sizeLine) (hm : mapR (stepC Γ elt cond vv) xs p = some (out, pout))
  (hR : ∀ W' tk' ys, CL cx cb D Cc W2 W' ⟨vv, pout, n⟩ out ys → Rr (.ok .next) (sh cx.T W' tk')) :
  codeAny (model cx.T.prog cx.T.w) cx.A (.compLoop (.ListComp ex [⟨.Name x px, iter, ifs, 0⟩] scope pos) 0 (.ref I) (.ref D) (compEnvC scope (clFold cx.env.cells scope.names []) Cc cx.env)) Rr (sh cx.T W tk) := by
 have kx : (compEnvC scope (clFold cx.env.cells scope.names []) Cc cx.env).kindOf x = some .local := lookup_relabel_local CO.hx
 have hp : ((compEnvC scope (clFold cx.env.cells scope.names []) Cc cx.env).scope.kind == .class || ((compEnvC scope (clFold cx.env.cells scope.names []) Cc cx.env).scope.kind == .module && (compEnvC scope (clFold cx.env.cells scope.names []) Cc cx.env).locals != (compEnvC scope (clFold cx.env.cells scope.names []) Cc cx.env).globals)) = false := by
  show (scope.kind == .class || (scope.kind == .module && _)) = false
  rw [CO.kind]; rfl
 refine codeAny_compLoop_tests (fun k s => ∃ xs ds p W tk ys rest, k = xs.length ∧ s = sh cx.T W tk ∧ Stand cx.T cx.d cx.c cx.A.handled goC (.ref I) W2 xs W ∧ CL cx cb D Cc W2 W ⟨vv, p, n⟩ ds ys ∧ ds.length + xs.length ≤ sizeLine ∧ mapR (stepC Γ elt cond vv) xs p = some rest ∧ out = ds ++ rest.1 ∧ pout = rest.2) ?_ xs.length ⟨xs, [], p, W, tk, #[], _, rfl, rfl, K, L, by rw [List.length_nil, Nat.zero_add]; exact hz, hm, rfl, rfl⟩
 rintro k s ⟨xs, ds, p, W, tk, ys, rest, rfl, rfl, K, L, hz, hm, rfl, rfl⟩
 cases xs with
 | nil =>
  cases hm
  refine K W tk cx.A _ _ rfl Le.refl fun W' tk' h => hR W' tk' ys ?_
  rw [List.append_nil]
  exact L.stp h
 | cons z xs =>
  obtain ⟨y₁, st1, r, h1, h2, rfl⟩ := mapR_cons hm
  obtain ⟨b, st2, hb, h1⟩ := stepC_ok h1
  refine K.next rfl fun W' tk' v h rv K' => ?_
  show wpAny _ _ _ _ _ _
  have L1 := L.stp h
  obtain ⟨m, hn⟩ := L1.ns
  refine wpAny_assign_Name (wpAny_storeName_local (s := sh cx.T W' tk') kx hn (fun h₂ hn₂ hs₂ => ?_) hp)
  have B : But Cc W' ⟨W'.t, h₂⟩ := .keep fun b o n e => (hs₂.2 b n).trans e
  have nD : D ≠ Cc := loc_ne_own L1.dt L1.ct
  have hz2 := B.fz fun e => by rw [L1.ct] at e; cases e
  obtain ⟨L2, l2⟩ := L1.but (ds' := ds) (ys' := ys) C.cb B (.inr L1.ct) rfl (let ⟨o, _, _, g, hd, _⟩ := hn₂; ⟨o, g, fun vs e => by cases hd.symm.trans e⟩) (plain_at L1.lst fun o e => B.gt _ o nD e) (L1.rep.mono hz2) ⟨_, hn₂⟩
  have N2 : Sim (cx.inner scope x Cc) ⟨inV vv z, p, 0⟩ ⟨W'.t, h₂⟩ := ⟨L2.sim.ok, inner_frm C CO L2.sim.fr hlen hn₂ L2.ct (if_pos rfl) (rv.mono hz2)⟩
  refine cond_wp (cx := cx.inner scope x Cc) (IO.cn Cc) IO.fc N2 hb fun W3 tk3 l3 N3 => ?_
  have fz3 := l3.fz
  have go3 : CL cx cb D Cc W2 W3 ⟨vv, st2.p, n⟩ ds ys ∧ Le cx.d (cx.d + 1) cb ⟨W'.t, h₂⟩ W3 := L2.inner C.cb l3 N3
  rcases h1 with ⟨rfl, rfl, rfl⟩ | ⟨rfl, fs, y, he, ho, rfl⟩
  · exact ⟨xs.length, Nat.lt_succ_self _, xs, ds, _, W3, tk3, ys, r, rfl, rfl, K'.later ((l2.trans go3.2).mono (Nat.le_refl _) (Nat.le_succ _) C.cb), go3.1, nlt (Nat.add_le_add_left (Nat.le_succ _) _) hz, h2, rfl, rfl⟩
  · have L3 := go3.1
    have kc : (Ws.mk W'.t h₂).t Cc = .loc (cx.d + 2) := L2.ct
    have kc : ((Ws.mk W'.t h₂).t Cc).ch (cx.d + 2) (cx.d + 3) cb = false := by rw [kc]; exact dff (Nat.not_le.mpr (Nat.lt_succ_self _))
    have hn3 := l3.ns kc hn₂
    have N3' : Sim (cx.inner scope x Cc) ⟨inV vv z, st2.p, 0⟩ W3 := ⟨L3.sim.ok, inner_frm C CO L3.sim.fr hlen hn3 L3.ct (if_pos rfl) ((rv.mono hz2).mono fz3)⟩
    refine IO.el Cc IO.fe _ W3 N3' tk3 (tw1 fun v s => wpX cx (call (.builtin "list.append") [.ref D, v]) _ _ s) _ ?_
    rw [he]
    intro W4 tk4 us l4 N4 r4
    match us, r4 with
    | [], _ => trivial
    | _ :: _ :: _, _ => trivial
    | [u], r4 =>
    obtain ⟨L4, l4'⟩ := L3.inner C.cb l4 N4
    have ry := oneV_rep r4 ho
    have hsz : ys.size ≤ sizeLine := by rw [L4.rep.size]; exact nlt (Nat.le_add_right ..) hz
    refine wpAny_list_append_plain (s := sh cx.T W4 tk4) L4.lst (fun h₅ hl₅ hs₅ => ?_) hsz
    have B5 : But D W4 ⟨W4.t, h₅⟩ := .keep fun b o n e => (hs₅.2 b n).trans e
    have hz5 := B5.fz fun e => by rw [L4.dt] at e; cases e
    obtain ⟨m4, o4, e4, p4, g4, r4'⟩ := L4.ns
    obtain ⟨L5, l5⟩ := L4.but (ds' := ds ++ [y]) (ys' := ys.push u) C.cb B5 (.inl L4.dt) rfl (let ⟨n, g⟩ := hl₅; ⟨_, g, fun vs e => by cases e⟩) hl₅ (by rw [Array.toList_push]; exact (L4.rep.mono hz5).append (.cons (ry.mono hz5) .nil)) ⟨m4, o4, e4, p4, B5.gt _ _ nD.symm g4, r4'⟩
    exact ⟨xs.length, Nat.lt_succ_self _, xs, ds ++ [y], _, _, tk4, _, r, rfl, rfl, K'.later ((l2.trans (go3.2.trans (l4'.trans l5))).mono (Nat.le_refl _) (Nat.le_succ _) C.cb), L5, by rw [lap]; exact nlt (Nat.le_of_eq (by show ds.length + 1 + xs.length = ds.length + (xs.length + 1); lia)) hz, h2, by rw [List.append_assoc], rfl⟩
end
section
variable {Γ : Nat → Fn} {cx : Cx} {cb : Bool} {E : VP} {st : St} {W W' : Ws} {tk n nn kd i : Nat} {d : PyData} {v : Value} {pos pos' apos px : Pos} {ex iter : Expr} {ifs : List Expr} {src elt cond : CE} {xs ys out : List PyData} {vs : Array Value} {D Cc I : Addr} {x : Str} {scope : Scope} {vv : Slots} {p pout : List Slots} {b : Bool} {fp : List Addr} {P : Nat → Value → Prop} {St : Nat → Heap → Prop}
theorem R.bind_assoc {α β γ : Type} {r : R α} {f : α → Mine.Internal.St → R β} {g : β → Mine.Internal.St → R γ} : (r.bind f).bind g = r.bind fun x st => (f x st).bind g := by cases r <;> rfl
theorem R.bind_pure {α : Type} (r : R α) : r.bind (fun x st => .ok x st) = r := by cases r <;> rfl
theorem comp_block {RR : Value → Addr → Result → Shared → Prop} (C : cx.Ok cb) (CO : CompOk cx scope x) (IO : InOk Γ cx cb scope x elt cond ex ifs) (hlen : vv.length = cx.nm.length) (K : WalkI cx W xs I fp P St) (S : Sim cx ⟨vv, p, n⟩ W) (hm : mapR (stepC Γ elt cond vv) xs p = some (out, pout))
  (hR : ∀ D Cc W' tk' ys, W.get Cc = none → CL cx cb D Cc W W' ⟨vv, pout, n⟩ out ys → RR (.ref D) Cc (.ok .next) (sh cx.T W' tk')) :
  wpX cx (newList []) (fun acc s₃ => wpX cx (newFunctionEnv scope cx.env.globals (clFold cx.env.cells scope.names []) [] cx.env.qual none .none (some cx.env)) (fun cenv s₄ =>
   codeAny (model cx.T.prog cx.T.w) cx.A (.compStart (.ListComp ex [⟨.Name x px, iter, ifs, 0⟩] scope pos) 0 (.ref I) acc { cenv with scope := relabel scope cx.env }) (RR acc cenv.locals) s₄) E s₃) E (sh cx.T W tk) := by
 refine wpAny_newObj_type (wpAny_newFunctionEnv CO.cell (fun y hy => nomatch hy) (fun h₁ hns₁ hsb₁ => ?_) CO.kind)
 obtain ⟨hst, K0⟩ := K.stand (go := goC) fun A v Q E s _ hq => hq
 obtain ⟨l1, S1, z1⟩ := (hst.sim S).new (b := cx.d + 1) (cb := cb) (o := { cls := .type "list", dict := none, data := .seq ([] : List Value).toArray }) (.own (cx.d + 1) 0) rfl rfl
 generalize hH : (sh cx.T W tk).heap.push { cls := .type "list", dict := none, data := .seq ([] : List Value).toArray } = H2 at hns₁ hsb₁ ⊢
 have gD : H2.get? W.h.objs.size = some { cls := .type "list", dict := none, data := .seq ([] : List Value).toArray } := hH ▸ Heap.get?_push_size W.h rfl
 have hz : H2.objs.size = W.h.objs.size + 1 := by rw [← hH, Heap.size_push]
 have nD : W.h.objs.size ≠ H2.objs.size := by rw [hz]; exact Nat.ne_of_lt (Nat.lt_succ_self _)
 have gC : H2.get? H2.objs.size = none := dead_at H2 (Nat.le_refl _)
 have old : ∀ b o, W.get b = some o → H2.get? b = some o := fun b o e => hH ▸ Heap.get?_push_of_some _ e
 have kp : ∀ b o, b ≠ H2.objs.size → H2.get? b = some o → h₁.get? b = some o := fun b o n e => hsb₁.extBut b o n (Heap.get?_push_of_some _ e)
 let Wa : Ws := ⟨(W.t.put I .hold).put W.h.objs.size (.own (cx.d + 1) 0), H2⟩
 have S1 : Sim cx ⟨vv, p, n⟩ Wa := by have := S1; rw [show W.h.push _ = H2 from hH] at this; exact this
 have l1 : Le cx.d (cx.d + 1) cb ⟨W.t.put I .hold, W.h⟩ Wa := by have := l1; rw [show W.h.push _ = H2 from hH] at this; exact this
 have B : But H2.objs.size Wa ⟨Wa.t.put H2.objs.size (.loc (cx.d + 2)), h₁⟩ := .same kp _
 have hj : Wa.t H2.objs.size = .junk := S1.ok.dead _ gC
 obtain ⟨oC, esC, epC, gC1, rC⟩ := id hns₁
 have ni : NI ⟨Wa.t.put H2.objs.size (.loc (cx.d + 2)), h₁⟩ H2.objs.size := ⟨fun k e => (by cases (Tags.put_self ..).symm.trans e), fun d o _ e => by cases gC1.symm.trans e; exact fun vs q => by cases rC.1.symm.trans q⟩
 have l2 : Le cx.d (cx.d + 1) cb Wa _ := B.le (.dead gC) ni
 have S2 := S1.but B (by rw [hj]; rfl) (by rw [hj]; rfl) (fun i => by rw [hj]; exact Tag.noConfusion) (fun e => nomatch gC1.symm.trans e) ni
 have L : CL cx cb W.h.objs.size H2.objs.size W ⟨Wa.t.put H2.objs.size (.loc (cx.d + 2)), h₁⟩ ⟨vv, p, n⟩ [] #[] :=
  ⟨S2, (hst.le Le.refl).trans (l1.trans l2), ⟨_, kp _ _ nD gD⟩, (Tags.put_ne nD).trans (Tags.put_self ..), .nil, ⟨_, hns₁⟩, Tags.put_self ..⟩
 have loop : codeAny (model cx.T.prog cx.T.w) cx.A (.compLoop (.ListComp ex [⟨.Name x px, iter, ifs, 0⟩] scope pos) 0 (.ref I) (.ref W.h.objs.size) (compEnvC scope (clFold cx.env.cells scope.names []) H2.objs.size cx.env)) (RR (.ref W.h.objs.size) H2.objs.size) (sh cx.T ⟨Wa.t.put H2.objs.size (.loc (cx.d + 2)), h₁⟩ tk) :=
  comp_loop C CO IO hlen (K0.later ((l1.trans l2).mono (Nat.le_refl _) (Nat.le_succ _) C.cb)) L K.size hm fun W' tk' ys L' => hR _ _ W' tk' ys (dead_at W.h (by rw [hz]; exact Nat.le_succ _)) L'
 have K1 := K.wk cx.A rfl
 exact codeAny_compStart_list loop (K1.self 0 _ _ _ (K1.frame _ _ _ K.start fun b _ o e => kp b o (fun q => by rw [q] at e; cases (old _ o e).symm.trans gC) (old b o e)) loop)
theorem compE_some {δ γ : Type} {Rl : Ws → γ → δ → Prop} {Q : γ → Shared → Prop} {bb : Nat} {step : PyData → List Slots → R (List PyData)} {f : List F → Mine.Internal.St → R δ} (H : Post cx bb cb Rl W Q E ((compE n step xs st).bind f)) : ∃ out pout, mapR step xs st.p = some (out, pout) ∧ st.v.length = n ∧ Post cx bb cb Rl W Q E (f [.own out] { st with p := pout }) := by
 unfold compE at H
 cases hm : mapR step xs st.p with
 | none => rw [hm] at H; exact H.elim
 | some q =>
  rw [hm] at H
  cases hz : okLen xs.length && st.v.length == n with
  | false => dsimp only at H; rw [hz] at H; exact H.elim
  | true => dsimp only at H; rw [hz] at H; exact ⟨q.1, q.2, rfl, eq_of_beq (and2 hz).2, H⟩
theorem CL.fin {ys : Array Value} {t' : Tag} {h' : Heap} (L : CL cx cb D Cc W W' st out ys) (hcb : cb = true → cx.c = true) (kp : ∀ b o, b ≠ Cc → W'.get b = some o → h'.get? b = some o) (ht : t'.jh = true) (ha : h'.get? Cc = none → t' = .junk) :
  Le cx.d (cx.d + 1) cb W ⟨(W'.t.put Cc t').put D (.own cx.d 0), h'⟩ ∧ Sim cx st ⟨(W'.t.put Cc t').put D (.own cx.d 0), h'⟩ ∧ RepA cx ⟨(W'.t.put Cc t').put D (.own cx.d 0), h'⟩ (.ref D) (.own out) ∧ D ≠ Cc := by
 have nD : D ≠ Cc := loc_ne_own L.dt L.ct
 have hi : t'.isInst = false := by cases t' <;> first | rfl | cases ht
 have B : But Cc W' ⟨W'.t.put Cc t', h'⟩ := .same kp _
 have fr : ∀ a b, b ≤ cx.d + 2 → Fr a b cb W' Cc := fun a b hb => .of (by rw [L.ct]; exact dtt hb)
 have l1 := B.le (fr cx.d (cx.d + 1) (Nat.le_succ _)) (put_ni hi)
 have S1 : Sim cx st ⟨W'.t.put Cc t', h'⟩ := ⟨L.sim.ok.but B (by rw [L.ct]; rfl) (fun e => (Tags.put_self ..).trans (ha e)) (put_ni hi), L.sim.fr.le (B.le (fr (cx.d + 1) (cx.d + 1) (Nat.le_succ _)) (put_ni hi)) (Nat.lt_succ_self _) (Nat.lt_succ_self _) hcb⟩
 obtain ⟨nn, g⟩ := L.lst
 have g1 := kp D _ nD g
 have q : (W'.t.put Cc t') D = .own (cx.d + 1) 0 := (Tags.put_ne nD).trans L.dt
 have B2 := But.tag ⟨W'.t.put Cc t', h'⟩ D (.own cx.d 0)
 have z1 := B.fz fun e => by rw [L.ct] at e; cases e
 have z2 := B2.fz fun e => by rw [show Ws.t _ D = _ from q] at e; cases e
 refine ⟨L.le.trans (l1.trans (B2.le (.of (by rw [show Ws.t _ D = _ from q]; exact dtt (Nat.le_succ _))) (put_ni rfl))), S1.but B2 (by rw [show Ws.t _ D = _ from q]; exact dtt (Nat.le_succ _)) (by rw [show Ws.t _ D = _ from q]; rfl) (fun i e => ?_) (fun e => nomatch g1.symm.trans e) (put_ni rfl), ⟨D, ys, rfl, ⟨nn, g1⟩, Tags.put_self .., (L.rep.mono z1).mono z2⟩, nD⟩
 exact nomatch (Tag.own.inj (q.symm.trans e)).2
theorem or3 {a b c : Bool} {P : Prop} (h : (a || b || c) = true) (h1 : a = true → P) (h2 : b = true → P) (h3 : c = true → P) : P := by
 cases a with
 | true => exact h1 rfl
 | false => cases b with
  | true => exact h2 rfl
  | false => exact h3 h
theorem comp_free (Fu : cx.Full) (CO : CompOk cx scope x) : closureFor scope cx.env = pure (clFold cx.env.cells scope.names []) := closure_is fun y hy hf => Fu.has y.1 (CO.free y hy hf)
theorem s_comp (C : cx.Ok cb) (Fu : cx.Full) (CO : CompOk cx scope x) (IO : InOk Γ cx cb scope x elt cond ex ifs) (hnl : nn = cx.nm.length) (hi : SI Γ cx cb kd src iter) (hs : ∀ v, foldedSetIterable iter cx.env v = pure v) (hfs : eff src = true → cb = true) :
  SL Γ cx cb (.comp nn kd src elt cond) [.ListComp ex [⟨.Name x px, iter, ifs, 0⟩] scope pos] := fun hf st W S tk T E H => by
 show wpAny _ _ _ _ _ _
 rw [eval_ListComp]
 refine wpAny_comprehension_free (use := none) rfl hs (comp_free Fu CO) CO.kind CO.loc (hi hfs st W S tk _ E (Post.bind' H fun xs st1 W1 tk1 v l1 S1 r1 H1 => ?_))
 obtain ⟨I, fp, P, St, rfl, K⟩ := r1
 rw [← R.bind_pure (compE nn _ xs st1)] at H1
 obtain ⟨out, pout, hm, hlen, H1⟩ := compE_some (step := stepC Γ elt cond st1.v) H1
 obtain ⟨vv, p, n⟩ := st1
 refine comp_block (RR := fun acc Cc => compPost (model cx.T.prog cx.T.w) cx.A E none (fun v s => T [v] s) acc Cc) C CO IO (hlen.trans hnl) K S1 hm fun D Cc W' tk' ys hC L => ?_
 obtain ⟨m, hn⟩ := L.ns
 refine ⟨m, hn, fun h' hs' => ?_⟩
 obtain ⟨l2, S2, r2, _⟩ := L.fin (t' := .junk) C.cb (fun b o n e => (hs'.2 b n).trans e) rfl fun _ => rfl
 exact one_ok (W' := ⟨(W'.t.put Cc .junk).put D (.own cx.d 0), h'⟩) H1 l2 S2 r2
theorem s_assign_comp {nm : Str} (C : cx.Ok cx.c) (Fu : cx.Full) (h : isLoc cx.nm cx.env.scope.names i nm = true) (CO : CompOk cx scope x) (IO : InOk Γ cx cx.c scope x elt cond ex ifs) (hnl : nn = cx.nm.length) (hi : SI Γ cx cx.c kd src iter) (hs : ∀ v, foldedSetIterable iter cx.env v = pure v) (hfs : eff src = true → cx.c = true) :
  SS Γ cx (.assign (.loc i) (.comp nn kd src elt cond)) (.Assign [.Name nm pos'] (.ListComp ex [⟨.Name x px, iter, ifs, 0⟩] scope apos) pos) := by
 obtain ⟨b, hb⟩ : ∃ b, swapsWith (.ListComp ex [⟨.Name x px, iter, ifs, 0⟩] scope apos) (some (.Name nm pos')) pos.line cx.env = pure b := ⟨_, rfl⟩
 cases b with
 | false => exact s_assign' C Fu h hb (fun q => or3 q hfs IO.fe IO.fc) (s_comp C Fu CO IO hnl hi hs hfs)
 | true =>
  intro st W S tk Q E H
  rw [exec_Assign_Name_used _ _ _ _ hb]
  refine wpAny_bind (wpAny_standAt (wpAny_bind ?_))
  show wpAny _ cx.A (do let _ ← comprehension (.ListComp ex [⟨.Name x px, iter, ifs, 0⟩] scope apos) scope cx.env _ (newList []) false (eval iter cx.env) (some (assign (.Name nm pos') cx.env))) _ _ (sh cx.T W tk)
  refine wpAny_bind (wpAny_mono (wpAny_comprehension_free (use := some (assign (.Name nm pos') cx.env)) (Q := fun _ s' => Q .next s') rfl hs (comp_free Fu CO) CO.kind CO.loc (hi hfs st W S tk _ E ?_)) (fun _ s' hq => wpAny_pure (wpAny_pure hq)) fun _ _ e => e)
  have H' : Post cx cx.d cx.c (RFl cx) W Q E (((ev Γ src st).bind (itE kd)).bind fun xs st => (compE nn (stepC Γ elt cond st.v) xs st).bind fun x st => asgE (.loc i) x st) := by
   rw [← R.bind_assoc]; exact H
  refine H'.bind (Nat.le_succ _) id fun xs st1 W1 tk1 v l1 S1 r1 H1 => ?_
  obtain ⟨I, fp, P, St, rfl, K⟩ := r1
  obtain ⟨out, pout, hm, hlen, H1⟩ := compE_some H1
  obtain ⟨vv, p, n⟩ := st1
  refine comp_block (RR := fun acc Cc => compPost (model cx.T.prog cx.T.w) cx.A E (some (assign (.Name nm pos') cx.env)) (fun _ s' => Q .next s') acc Cc) C CO IO (hlen.trans hnl) K S1 hm fun D Cc W' tk' ys hC L => ?_
  obtain ⟨m, hn⟩ := L.ns
  obtain ⟨oC, e1, e2, gC, rC⟩ := id hn
  obtain ⟨l2, S2, r2, nD⟩ := L.fin (t' := .hold) (h' := W'.h) C.cb (fun b o _ e => e) rfl fun e => nomatch gC.symm.trans e
  obtain ⟨st2, hs2, H2⟩ := nextO_some H1
  obtain ⟨hlt, rfl⟩ := gd_some hs2
  show wpAny _ cx.A (assign (.Name nm pos') cx.env (.ref D)) _ _ _
  have tC : (Ws.mk ((W'.t.put Cc .hold).put D (.own cx.d 0)) W'.h).t Cc = .hold := (Tags.put_ne nD.symm).trans (Tags.put_self ..)
  refine wpAny_assign_Name (S2.store (cb := cx.c) (f := .own out) (W := ⟨(W'.t.put Cc .hold).put D (.own cx.d 0), W'.h⟩) Fu C.kind r2 rfl (acc_of h).1 (odt hlt) fun W3 tk3 l3 S3 => ?_)
  obtain ⟨g3, t3⟩ := l3.fix (x := Cc) gC (by rw [tC]; rfl) (by rw [tC]; rfl)
  refine ⟨m, ⟨oC, e1, e2, g3, rC⟩, fun h' hs' => ?_⟩
  have B : But Cc W3 ⟨W3.t.put Cc .junk, h'⟩ := .same (fun b o n e => (hs'.2 b n).trans e) _
  have t3 := t3.trans tC
  exact next_ok (W' := ⟨W3.t.put Cc .junk, h'⟩) H2 (((l2.mono (Nat.le_refl _) (Nat.le_succ _) id).trans l3).but B (.dead hC) (put_ni rfl)) (S3.but B (by rw [t3]; rfl) (by rw [t3]; rfl) (fun i => by rw [t3]; exact Tag.noConfusion) (fun _ => Tags.put_self ..) (put_ni rfl))
end
theorem nd1 {α : Type} (x : α) : [x].Nodup := List.nodup_cons.mpr ⟨List.not_mem_nil, List.nodup_nil⟩
structure OO (W : Ws) (d : Nat) (D : Addr) (bs : List Addr) (xss : List (List PyData)) : Prop where
 lst : W.h.PlainList D (bs.map Value.ref).toArray
 tg : ∀ b ∈ D :: bs, W.t b = .oo d
 nd : (D :: bs).Nodup
 len : bs.length = xss.length
 row : ∀ (i : Nat) (b : Addr) (xs : List PyData), bs[i]? = some b → xss[i]? = some xs → ∃ ws, W.h.PlainList b ws ∧ RepAll W ws.toList xs
section
variable {W W' : Ws} {d a e : Nat} {c : Bool} {D x : Addr} {bs : List Addr} {xss : List (List PyData)} {X : Addr → Prop}
theorem OO.live (O : OO W d D bs xss) {b : Addr} (hb : b ∈ D :: bs) : ∃ o, W.get b = some o := by
 rcases List.mem_cons.mp hb with rfl | hb
 · obtain ⟨n, g⟩ := O.lst; exact ⟨_, g⟩
 · obtain ⟨i, hi, rfl⟩ := List.getElem_of_mem hb
   obtain ⟨ws, ⟨n, g⟩, _⟩ := O.row i _ _ (geg hi) (geg (O.len ▸ hi))
   exact ⟨_, g⟩
theorem OO.keep (O : OO W d D bs xss) (hz : Fz W W') (hk : ∀ a o, W.t a = .oo d → W.get a = some o → W'.get a = some o ∧ W'.t a = .oo d) : OO W' d D bs xss := by
 refine ⟨let ⟨n, g⟩ := O.lst; ⟨n, (hk D _ (O.tg D (.head _)) g).1⟩, fun b hb => ?_, O.nd, O.len, fun i b xs h1 h2 => ?_⟩
 · obtain ⟨o, g⟩ := O.live hb; exact (hk b o (O.tg b hb) g).2
 · obtain ⟨ws, ⟨n, g⟩, r⟩ := O.row i b xs h1 h2
   exact ⟨ws, ⟨n, (hk b _ (O.tg b (.tail _ (mog h1))) g).1⟩, r.mono hz⟩
theorem OO.le (O : OO W d D bs xss) (l : Le a e c W W') (h : d < e) : OO W' d D bs xss := O.keep l.fz fun b o t g => let q := l.fix g (by rw [t]; exact dff (Nat.not_le.mpr h)) (by rw [t]; rfl); ⟨q.1, q.2.trans t⟩
theorem OO.nx (O : OO W d D bs xss) (N : Nx X W W') : OO W' d D bs xss := O.keep N.fz fun b o t g => let q := N.at (by rw [t]; rfl) g; ⟨q.1, q.2.trans t⟩
theorem OO.but (O : OO W d D bs xss) (B : But x W W') (hx : W.t x ≠ .oo d) (hz : W.t x ≠ .fz) : OO W' d D bs xss := O.keep (B.fz hz) fun b o t g => have n : b ≠ x := fun q => hx (q ▸ t); ⟨B.gt b o n g, (B.tg b n).trans t⟩
theorem OO.by {t : Tag} (O : OO W d D bs xss) (B : But x W W') (hx : W.t x = t) (h : t ≠ .oo d ∧ t ≠ .fz) : OO W' d D bs xss := O.but B (hx ▸ h.1) (hx ▸ h.2)
theorem oo_free {d d' : Nat} {c : Bool} (h : W.t x = .oo d) : (W.t x).free d' c = true ∧ (W.t x).off = true ∧ (∀ e i, W.t x ≠ .own e i) ∧ W.t x ≠ .fz := by rw [h]; exact ⟨rfl, rfl, fun _ _ => Tag.noConfusion, Tag.noConfusion⟩
theorem oo_ch {d a : Nat} {c : Bool} (h : W.t x = .oo d) : Fr a d c W x := .of (by rw [h]; exact dtt (Nat.le_refl d))
theorem Sim.ooBut {cx : Cx} {st : St} {cb : Bool} {h' : Heap} (S : Sim cx st W) (hx : W.t x = .oo cx.d) (sb : ∀ b o, b ≠ x → W.get b = some o → h'.get? b = some o) (ha : ∃ o, h'.get? x = some o) : Le cx.d cx.d cb W ⟨W.t, h'⟩ ∧ Sim cx st ⟨W.t, h'⟩ ∧ But x W ⟨W.t, h'⟩ := by
 have B : But x W ⟨W.t, h'⟩ := .keep sb
 obtain ⟨f1, f2, f3, _⟩ := oo_free (d' := cx.d) (c := cx.c) hx
 have ni : NI ⟨W.t, h'⟩ x := ni_of (by rw [show Ws.t _ x = _ from hx]; rfl)
 exact ⟨B.le (oo_ch hx) ni, S.but B f1 f2 (fun i => f3 _ _) (fun e => let ⟨o, g⟩ := ha; nomatch g.symm.trans e) ni, B⟩
theorem OO.app {h' : Heap} {i : Nat} {b : Addr} {xs : List PyData} {ws : Array Value} {u : Value} {y : PyData} (O : OO W d D bs xss) (hi : bs[i]? = some b) (hx : xss[i]? = some xs) (hr : RepAll W ws.toList xs) (hl : h'.PlainList b (ws.push u)) (B : But b W ⟨W.t, h'⟩) (hv : Rep W u y) : OO ⟨W.t, h'⟩ d D bs (xss.set i (xs ++ [y])) := by
 have hb : b ∈ bs := mog hi
 have hz := B.fz (oo_free (d' := 0) (c := true) (O.tg b (.tail _ hb))).2.2.2
 have nd := List.nodup_cons.mp O.nd
 refine ⟨plain_at O.lst fun o e => B.gt _ o (fun q => nd.1 (q ▸ hb)) e, O.tg, O.nd, by rw [List.length_set]; exact O.len, fun j b' ys h1 h2 => ?_⟩
 by_cases q : i = j
 · subst q
   cases hi.symm.trans h1
   obtain ⟨hlt, _⟩ := gsm hx
   rw [List.getElem?_set_self hlt] at h2
   cases h2
   exact ⟨_, hl, by rw [Array.toList_push]; exact (hr.mono hz).append (.cons (hv.mono hz) .nil)⟩
 · rw [List.getElem?_set_ne q] at h2
   obtain ⟨ws', hp, hr'⟩ := O.row j b' ys h1 h2
   obtain ⟨l1, e1⟩ := gsm hi
   obtain ⟨l2, e2⟩ := gsm h1
   exact ⟨ws', plain_at hp fun o e => B.gt _ o (fun z => q ((List.getElem_inj nd.2).mp (e1.trans (z.symm.trans e2.symm)))) e, hr'.mono hz⟩
theorem OO.grow {h' : Heap} (O : OO W d D bs xss) (hn : W.h.PlainList x #[]) (hx : W.t x = .oo d) (hnew : x ∉ D :: bs) (hl : h'.PlainList D ((bs.map Value.ref).toArray.push (.ref x))) (B : But D W ⟨W.t, h'⟩) : OO ⟨W.t, h'⟩ d D (bs ++ [x]) (xss ++ [[]]) := by
 have hz := B.fz (oo_free (d' := 0) (c := true) (O.tg D (.head _))).2.2.2
 have nd := List.nodup_cons.mp O.nd
 have nx : x ≠ D := fun q => hnew (q ▸ .head _)
 refine ⟨by rw [List.map_append, show ((bs.map Value.ref) ++ [x].map Value.ref).toArray = (bs.map Value.ref).toArray.push (.ref x) by simp]; exact hl, fun b hb => ?_, List.nodup_cons.mpr ⟨fun q => ?_, ?_⟩, by rw [lap, lap, O.len]; rfl, fun j b ys h1 h2 => ?_⟩
 · rcases List.mem_cons.mp hb with rfl | hb
   · exact O.tg b (.head _)
   · rcases List.mem_append.mp hb with hb | hb
     · exact O.tg b (.tail _ hb)
     · cases lsm hb; exact hx
 · rcases List.mem_append.mp q with q | q
   · exact nd.1 q
   · exact nx (lsm q).symm
 · refine List.nodup_append.mpr ⟨nd.2, nd1 x, fun p hp q hq e => hnew ?_⟩
   cases lsm hq
   exact .tail _ (e ▸ hp)
 · rcases Nat.lt_or_ge j bs.length with q | q
   · rw [List.getElem?_append_left q] at h1
     rw [List.getElem?_append_left (O.len ▸ q)] at h2
     obtain ⟨ws, hp, hr⟩ := O.row j b ys h1 h2
     exact ⟨ws, plain_at hp fun o e => B.gt _ o (fun z => nd.1 (z ▸ mog h1)) e, hr.mono hz⟩
   · rw [List.getElem?_append_right q] at h1
     rw [List.getElem?_append_right (O.len ▸ q), ← O.len] at h2
     cases hj : j - bs.length with
     | zero => rw [hj] at h1 h2; cases h1; cases h2; exact ⟨#[], plain_at hn fun o e => B.gt _ o nx e, .nil⟩
     | succ n => rw [hj] at h1; cases h1
theorem Sim.fzs {cx : Cx} {st : St} {cb : Bool} (S : Sim cx st W) (l : List Addr) (hl : ∀ b ∈ l, W.t b = .oo cx.d ∧ ∃ o, W.get b = some o) : ∃ t', (∀ b ∈ l, t' b = .fz) ∧ (∀ b, b ∉ l → t' b = W.t b) ∧ Sim cx st ⟨t', W.h⟩ ∧ Le cx.d cx.d cb W ⟨t', W.h⟩ := by
 induction l with
 | nil => exact ⟨W.t, nofun, fun _ _ => rfl, S, Le.refl⟩
 | cons a l ih =>
  obtain ⟨t1, h1, h2, S1, l1⟩ := ih fun b hb => hl b (.tail _ hb)
  by_cases q : a ∈ l
  · refine ⟨t1, fun b hb => ?_, fun b hb => h2 b fun z => hb (.tail _ z), S1, l1⟩
    rcases List.mem_cons.mp hb with rfl | hb
    · exact h1 b q
    · exact h1 b hb
  · obtain ⟨ta, o, g⟩ := hl a (.head _)
    have ta : (Ws.mk t1 W.h).t a = .oo cx.d := (h2 a q).trans ta
    have B := But.tag ⟨t1, W.h⟩ a .fz
    obtain ⟨f1, f2, f3, _⟩ := oo_free (d' := cx.d) (c := cx.c) ta
    refine ⟨t1.put a .fz, fun b hb => ?_, fun b hb => ?_, S1.but B f1 f2 (fun i => f3 _ _) (fun e => nomatch g.symm.trans e) (put_ni rfl), l1.trans (B.le (oo_ch ta) (put_ni rfl))⟩
    · by_cases z : b = a
      · rw [z]; exact Tags.put_self ..
      · exact (Tags.put_ne z).trans (h1 b ((List.mem_cons.mp hb).resolve_left z))
    · exact (Tags.put_ne fun z => hb (by rw [z]; exact .head _)).trans (h2 b fun z => hb (.tail _ z))
theorem RepAll.rows (h : bs.length = xss.length) (r : ∀ (i : Nat) (b : Addr) (xs : List PyData), bs[i]? = some b → xss[i]? = some xs → Rep W (.ref b) (.list xs)) : RepAll W (bs.map Value.ref) (xss.map PyData.list) := by
 induction bs generalizing xss with
 | nil => cases xss with
  | nil => exact .nil
  | cons _ _ => cases h
 | cons b bs ih => cases xss with
  | nil => cases h
  | cons xs xss => exact .cons (r 0 b xs rfl rfl) (ih (Nat.succ.inj h) fun i b' ys h1 h2 => r (i + 1) b' ys h1 h2)
theorem OO.froze {cx : Cx} {st : St} {cb : Bool} (O : OO W cx.d D bs xss) (S : Sim cx st W) : ∃ t', Sim cx st ⟨t', W.h⟩ ∧ Le cx.d cx.d cb W ⟨t', W.h⟩ ∧ Rep ⟨t', W.h⟩ (.ref D) (.list (xss.map .list)) := by
 obtain ⟨t', h1, h2, S1, l1⟩ := S.fzs (cb := cb) (D :: bs) fun b hb => ⟨O.tg b hb, O.live hb⟩
 refine ⟨t', S1, l1, Rep.list (vs := (bs.map Value.ref).toArray) (Heap.PlainList.isList O.lst) (h1 D (.head _)) (.rows O.len fun i b xs q1 q2 => ?_)⟩
 obtain ⟨ws, hp, hr⟩ := O.row i b xs q1 q2
 exact Rep.list (Heap.PlainList.isList hp) (h1 b (.tail _ (mog q1))) (hr.mono l1.fz)
theorem Nx.holds {cx : Cx} {vs : Slots} {y : Str} {u : Value} (N : Nx X W W') (F : Frm cx vs W) (q : Holds cx.env W.h y u) : Holds cx.env W'.h y u :=
 q.keep (fun m ⟨o, es, ep, g, r⟩ => ⟨o, es, ep, (N.at (by rw [F.nst]; rfl) g).1, r⟩) fun y e v hy ⟨o, g, r⟩ => ⟨o, (let ⟨_, d', t, _⟩ := F.cells y e hy; N.at (by rw [t]; rfl) g).1, r⟩
theorem But.holds {cx : Cx} {vs : Slots} {y : Str} {u : Value} (B : But x W W') (F : Frm cx vs W) (hx : (W.t x).isLoc = false) (q : Holds cx.env W.h y u) : Holds cx.env W'.h y u :=
 have ne : ∀ {b d}, W.t b = .loc d → b ≠ x := fun t e => by rw [← e, t] at hx; cases hx
 q.keep (fun m ⟨o, es, ep, g, r⟩ => ⟨o, es, ep, B.gt _ o (ne F.nst) g, r⟩) fun y e v hy ⟨o, g, r⟩ => ⟨o, (let ⟨_, d', t, _⟩ := F.cells y e hy; B.gt e o (ne t) g), r⟩
end
structure CLO (cx : Cx) (D Cc : Addr) (W2 W : Ws) (st : St) (bs : List Addr) : Prop where
 sim : Sim cx st W
 le : Le cx.d cx.d cx.c W2 W
 oo : OO W cx.d D bs (List.replicate bs.length [])
 ns : ∃ m, W.h.Ns Cc m
 ct : W.t Cc = .loc (cx.d + 2)
section
variable {Γ : Nat → Fn} {cx : Cx} {E : VP} {st st' : St} {W W' W2 : Ws} {tk i j : Nat} {v : Value} {pos lp px : Pos} {iter : Expr} {xs : List PyData} {D Cc I : Addr} {x : Str} {scope : Scope} {bs : List Addr} {fp : List Addr} {P : Nat → Value → Prop} {Sx : Nat → Heap → Prop}
noncomputable abbrev lcO (x : Str) (iter : Expr) (scope : Scope) (lp px pos : Pos) : Expr := .ListComp (.List [] lp) [⟨.Name x px, iter, [], 0⟩] scope pos
noncomputable abbrev cEO (cx : Cx) (scope : Scope) (Cc : Addr) : Env := compEnvC scope (clFold cx.env.cells scope.names []) Cc cx.env
theorem compO_loop {Rr : Result → Shared → Prop} (C : cx.Ok cx.c) (CO : CompOk cx scope x) (K : Stand cx.T cx.d cx.c cx.A.handled goC (.ref I) W2 xs W) (L : CLO cx D Cc W2 W st bs) (hz : bs.length + xs.length ≤ sizeLine)
  (hR : ∀ W' tk' cs, cs.length = bs.length + xs.length → CLO cx D Cc W2 W' st cs → Rr (.ok .next) (sh cx.T W' tk')) :
  codeAny (model cx.T.prog cx.T.w) cx.A (.compLoop (lcO x iter scope lp px pos) 0 (.ref I) (.ref D) (cEO cx scope Cc)) Rr (sh cx.T W tk) := by
 have kx : (cEO cx scope Cc).kindOf x = some .local := lookup_relabel_local CO.hx
 have hp : ((cEO cx scope Cc).scope.kind == .class || ((cEO cx scope Cc).scope.kind == .module && (cEO cx scope Cc).locals != (cEO cx scope Cc).globals)) = false := by
  show (scope.kind == .class || (scope.kind == .module && _)) = false
  rw [CO.kind]; rfl
 refine codeAny_compLoop_tests (fun k s => ∃ ys cs W tk, k = ys.length ∧ s = sh cx.T W tk ∧ Stand cx.T cx.d cx.c cx.A.handled goC (.ref I) W2 ys W ∧ CLO cx D Cc W2 W st cs ∧ cs.length + ys.length = bs.length + xs.length) ?_ xs.length ⟨xs, bs, W, tk, rfl, rfl, K, L, rfl⟩
 rintro k s ⟨ys, cs, W, tk, rfl, rfl, K, L, hn⟩
 cases ys with
 | nil =>
  refine K W tk cx.A _ _ rfl Le.refl fun W' tk' h => hR W' tk' cs hn ?_
  obtain ⟨X, N, hX⟩ := id h
  obtain ⟨m, o, es, ep, g', r⟩ := L.ns
  have hc := N.at (by rw [L.ct]; rfl) g'
  exact ⟨h.sim L.sim, h.le L.le, L.oo.nx N, ⟨m, o, es, ep, hc.1, r⟩, hc.2.trans L.ct⟩
 | cons z ys =>
  refine K.next rfl fun W' tk' v h rv K' => ?_
  show wpAny _ _ _ _ _ _
  obtain ⟨X, N, hX⟩ := id h
  obtain ⟨m, o, es, ep, g', r⟩ := L.ns
  have hc := N.at (by rw [L.ct]; rfl) g'
  have S1 := h.sim L.sim
  have ct1 := hc.2.trans L.ct
  refine wpAny_assign_Name (wpAny_storeName_local (s := sh cx.T W' tk') kx ⟨o, es, ep, hc.1, r⟩ (fun h₂ hn₂ hs₂ => ?_) hp)
  have B : But Cc W' ⟨W'.t, h₂⟩ := .keep fun b o n e => (hs₂.2 b n).trans e
  have ni : NI ⟨W'.t, h₂⟩ Cc := ⟨fun k e => (by cases ct1.symm.trans e), fun d o _ e => by obtain ⟨o', _, _, g, hd, _⟩ := hn₂; cases g.symm.trans e; exact fun vs q => by cases hd.symm.trans q⟩
  have fr : ∀ a b, b ≤ cx.d + 2 → Fr a b cx.c W' Cc := fun a b hb => .of (by rw [ct1]; exact dtt hb)
  have S2 : Sim cx st ⟨W'.t, h₂⟩ := ⟨S1.ok.but B (by rw [ct1]; rfl) (fun e => let ⟨o', _, _, g, _⟩ := hn₂; nomatch g.symm.trans e) ni, S1.fr.le (B.le (fr (cx.d + 1) (cx.d + 1) (Nat.le_succ _)) ni) (Nat.lt_succ_self _) (Nat.lt_succ_self _) id⟩
  have l2 : Le cx.d cx.d cx.c W' ⟨W'.t, h₂⟩ := B.le (fr _ _ (Nat.le_add_right _ 2)) ni
  have O2 := (L.oo.nx N).by B ct1 ⟨Tag.noConfusion, Tag.noConfusion⟩
  refine wpAny_pure (empty_display ?_)
  obtain ⟨l3, S3, z3⟩ := S2.new (b := cx.d) (cb := cx.c) (o := { cls := .type "list", data := .seq #[] }) (.oo cx.d) rfl rfl
  have dd := dead_at h₂ (Nat.le_refl h₂.objs.size)
  have O3 : OO ⟨W'.t.put h₂.objs.size (.oo cx.d), h₂.push { cls := .type "list", data := .seq #[] }⟩ cx.d D cs (List.replicate cs.length []) := O2.keep z3 fun b o t g => have n : b ≠ h₂.objs.size := fun q => (by rw [q] at g; exact nomatch dd.symm.trans g); ⟨Heap.get?_push_of_some _ g, (Tags.put_ne n).trans t⟩
  have nC : Cc ≠ h₂.objs.size := fun q => by obtain ⟨o', _, _, g, _⟩ := hn₂; rw [q] at g; exact nomatch dd.symm.trans g
  refine wpAny_list_append_plain (s := sh cx.T ⟨W'.t.put h₂.objs.size (.oo cx.d), h₂.push { cls := .type "list", data := .seq #[] }⟩ _) O3.lst (fun h₅ hl₅ hs₅ => ?_) (by rw [List.size_toArray, lmp]; exact nlt (by rw [← hn]; exact Nat.le_add_right ..) hz)
  obtain ⟨l5, S5, B5⟩ := S3.ooBut (cb := cx.c) (O3.tg D (.head _)) (fun b o n e => (hs₅.2 b n).trans e) (let ⟨_, g⟩ := hl₅; ⟨_, g⟩)
  have lt := l2.trans (l3.trans l5)
  refine ⟨ys.length, Nat.lt_succ_self _, ys, cs ++ [h₂.objs.size], _, _, rfl, rfl, K'.later lt, ⟨S5, (h.le L.le).trans lt, ?_, ?_, ?_⟩, ?_⟩
  · rw [lap, show [h₂.objs.size].length = 1 from rfl, List.replicate_succ']
    exact O3.grow ⟨_, Heap.get?_push_size _ rfl⟩ (Tags.put_self ..) (fun q => by obtain ⟨o, g⟩ := O2.live q; exact nomatch dd.symm.trans g) hl₅ B5
  · obtain ⟨o', e', p', g, r'⟩ := hn₂
    have nD : Cc ≠ D := fun q => by rw [← q] at hl₅; cases (ct1.symm.trans ((Tags.put_ne nC).symm.trans (q ▸ O3.tg D (.head _))))
    exact ⟨_, o', e', p', B5.gt _ _ nD (Heap.get?_push_of_some _ g), r'⟩
  · exact (Tags.put_ne nC).trans ct1
  · rw [lap, ← hn]; show cs.length + 1 + ys.length = cs.length + (ys.length + 1); lia
theorem compO_block {RR : Value → Addr → Result → Shared → Prop} (C : cx.Ok cx.c) (CO : CompOk cx scope x) (K : WalkI cx W xs I fp P Sx) (S : Sim cx st W)
  (hR : ∀ D Cc W' tk' bs, W.get Cc = none → bs.length = xs.length → CLO cx D Cc W W' st bs → RR (.ref D) Cc (.ok .next) (sh cx.T W' tk')) :
  wpX cx (newList []) (fun acc s₃ => wpX cx (newFunctionEnv scope cx.env.globals (clFold cx.env.cells scope.names []) [] cx.env.qual none .none (some cx.env)) (fun cenv s₄ =>
   codeAny (model cx.T.prog cx.T.w) cx.A (.compStart (lcO x iter scope lp px pos) 0 (.ref I) acc { cenv with scope := relabel scope cx.env }) (RR acc cenv.locals) s₄) E s₃) E (sh cx.T W tk) := by
 refine wpAny_newObj_type (wpAny_newFunctionEnv CO.cell (fun y hy => nomatch hy) (fun h₁ hns₁ hsb₁ => ?_) CO.kind)
 obtain ⟨hst, K0⟩ := K.stand (go := goC) fun A v Q E s _ hq => hq
 obtain ⟨l1, S1, z1⟩ := (hst.sim S).new (b := cx.d) (cb := cx.c) (o := { cls := .type "list", dict := none, data := .seq ([] : List Value).toArray }) (.oo cx.d) rfl rfl
 generalize hH : (sh cx.T W tk).heap.push { cls := .type "list", dict := none, data := .seq ([] : List Value).toArray } = H2 at hns₁ hsb₁ ⊢
 have gD : H2.get? W.h.objs.size = some { cls := .type "list", dict := none, data := .seq ([] : List Value).toArray } := hH ▸ Heap.get?_push_size W.h rfl
 have hz : H2.objs.size = W.h.objs.size + 1 := by rw [← hH, Heap.size_push]
 have nD : W.h.objs.size ≠ H2.objs.size := by rw [hz]; exact Nat.ne_of_lt (Nat.lt_succ_self _)
 have gC : H2.get? H2.objs.size = none := dead_at H2 (Nat.le_refl _)
 have old : ∀ b o, W.get b = some o → H2.get? b = some o := fun b o e => hH ▸ Heap.get?_push_of_some _ e
 have kp : ∀ b o, b ≠ H2.objs.size → H2.get? b = some o → h₁.get? b = some o := fun b o n e => hsb₁.extBut b o n (Heap.get?_push_of_some _ e)
 let Wa : Ws := ⟨(W.t.put I .hold).put W.h.objs.size (.oo cx.d), H2⟩
 have S1 : Sim cx st Wa := by have := S1; rw [show W.h.push _ = H2 from hH] at this; exact this
 have l1 : Le cx.d cx.d cx.c ⟨W.t.put I .hold, W.h⟩ Wa := by have := l1; rw [show W.h.push _ = H2 from hH] at this; exact this
 have B : But H2.objs.size Wa ⟨Wa.t.put H2.objs.size (.loc (cx.d + 2)), h₁⟩ := .same kp _
 have hj : Wa.t H2.objs.size = .junk := S1.ok.dead _ gC
 obtain ⟨oC, esC, epC, gC1, rC⟩ := id hns₁
 have ni : NI ⟨Wa.t.put H2.objs.size (.loc (cx.d + 2)), h₁⟩ H2.objs.size := ⟨fun k e => (by cases (Tags.put_self ..).symm.trans e), fun d o _ e => by cases gC1.symm.trans e; exact fun vs q => by cases rC.1.symm.trans q⟩
 have l2 : Le cx.d cx.d cx.c Wa _ := B.le (.dead gC) ni
 have S2 := S1.but B (by rw [hj]; rfl) (by rw [hj]; rfl) (fun i => by rw [hj]; exact Tag.noConfusion) (fun e => nomatch gC1.symm.trans e) ni
 have tD : (Wa.t.put H2.objs.size (.loc (cx.d + 2))) W.h.objs.size = .oo cx.d := (Tags.put_ne nD).trans (Tags.put_self ..)
 have L : CLO cx W.h.objs.size H2.objs.size W ⟨Wa.t.put H2.objs.size (.loc (cx.d + 2)), h₁⟩ st [] :=
  ⟨S2, (hst.le Le.refl).trans (l1.trans l2), ⟨⟨_, kp _ _ nD gD⟩, fun b hb => by cases lsm hb; exact tD, nd1 _, rfl, fun i b xs h _ => nomatch h⟩, ⟨_, hns₁⟩, Tags.put_self ..⟩
 have loop : codeAny (model cx.T.prog cx.T.w) cx.A (.compLoop (lcO x iter scope lp px pos) 0 (.ref I) (.ref W.h.objs.size) (cEO cx scope H2.objs.size)) (RR (.ref W.h.objs.size) H2.objs.size) (sh cx.T ⟨Wa.t.put H2.objs.size (.loc (cx.d + 2)), h₁⟩ tk) :=
  compO_loop C CO (K0.later (l1.trans l2)) L (by rw [List.length_nil, Nat.zero_add]; exact K.size) fun W' tk' ys hy L' => hR _ _ W' tk' ys (dead_at W.h (by rw [hz]; exact Nat.le_succ _)) (by rw [hy, List.length_nil, Nat.zero_add]) L'
 have K1 := K.wk cx.A rfl
 exact codeAny_compStart_list loop (K1.self 0 _ _ _ (K1.frame _ _ _ K.start fun b _ o e => kp b o (fun q => by rw [q] at e; cases (old _ o e).symm.trans gC) (old b o e)) loop)
theorem CLO.fin {t' : Tag} {h' : Heap} (L : CLO cx D Cc W W' st bs) (kp : ∀ b o, b ≠ Cc → W'.get b = some o → h'.get? b = some o) (ht : t'.jh = true) (ha : h'.get? Cc = none → t' = .junk) :
  Le cx.d cx.d cx.c W ⟨W'.t.put Cc t', h'⟩ ∧ Sim cx st ⟨W'.t.put Cc t', h'⟩ ∧ OO ⟨W'.t.put Cc t', h'⟩ cx.d D bs (List.replicate bs.length []) := by
 have hi : t'.isInst = false := by cases t' <;> first | rfl | cases ht
 have B : But Cc W' ⟨W'.t.put Cc t', h'⟩ := .same kp _
 have fr : ∀ a b, b ≤ cx.d + 2 → Fr a b cx.c W' Cc := fun a b hb => .of (by rw [L.ct]; exact dtt hb)
 exact ⟨L.le.trans (B.le (fr _ _ (Nat.le_add_right _ 2)) (put_ni hi)), ⟨L.sim.ok.but B (by rw [L.ct]; rfl) (fun e => (Tags.put_self ..).trans (ha e)) (put_ni hi), L.sim.fr.le (B.le (fr (cx.d + 1) (cx.d + 1) (Nat.le_succ _)) (put_ni hi)) (Nat.lt_succ_self _) (Nat.lt_succ_self _) id⟩, L.oo.by B L.ct ⟨Tag.noConfusion, Tag.noConfusion⟩⟩
theorem s_assignO {Q : FP} {nm : Str} {pos' apos : Pos} {many : CE} {K : List PyData → St → R Fl} (C : cx.Ok cx.c) (Fu : cx.Full) (h : isLoc cx.nm cx.env.scope.names i nm = true) (CO : CompOk cx scope x) (hi : SI Γ cx cx.c 1 many iter) (hs : ∀ v, foldedSetIterable iter cx.env v = pure v) (hfs : eff many = true → cx.c = true)
  (S : Sim cx st W) (H : Post cx cx.d cx.c (RFl cx) W Q E (((ev Γ many st).bind (itE 1)).bind K)) (hK : ∀ zs st1, i < st1.v.length ∨ K zs st1 = .stuck) {QQ : FP}
  (k : ∀ zs st1 W' tk' D bs, i < st1.v.length → Sim cx { st1 with v := st1.v.set i none } W' → Holds cx.env W'.h nm (.ref D) → OO W' cx.d D bs (List.replicate zs.length []) → Post cx cx.d cx.c (RFl cx) W' Q E (K zs st1) → QQ .next (sh cx.T W' tk')) :
  wpX cx (exec (.Assign [.Name nm pos'] (lcO x iter scope lp px apos) pos) cx.env) QQ E (sh cx.T W tk) := by
 obtain ⟨b, hb⟩ : ∃ b, swapsWith (lcO x iter scope lp px apos) (some (.Name nm pos')) pos.line cx.env = pure b := ⟨_, rfl⟩
 cases b with
 | false =>
  refine wpAny_Assign_Name ?_ hb
  rw [eval_ListComp]
  refine wpAny_comprehension_free (use := none) rfl hs (comp_free Fu CO) CO.kind CO.loc (hi hfs st W S tk _ E (H.bind (Nat.le_succ _) id fun zs st1 W1 tk1 v l1 S1 r1 H1 => ?_))
  obtain ⟨I, fp, P, Sx, rfl, K0⟩ := r1
  rcases hK zs st1 with hlt | hlt
  case inr => rw [hlt] at H1; exact H1.elim
  refine compO_block (RR := fun acc Cc => compPost (model cx.T.prog cx.T.w) cx.A E none (fun v s => wpX cx (storeName cx.env nm v) (fun _ s => QQ .next s) E s) acc Cc) C CO K0 S1 fun D Cc W' tk' bs hC hlen L => ?_
  obtain ⟨m, hn⟩ := L.ns
  refine ⟨m, hn, fun h' hs' => ?_⟩
  obtain ⟨l2, S2, O2⟩ := L.fin (t' := .junk) (fun b o n e => (hs'.2 b n).trans e) rfl fun _ => rfl
  refine Sim.storeG (cb := cx.c) (W := ⟨W'.t.put Cc .junk, h'⟩) (fo := none) Fu C.kind S2 (fun f e => nomatch e) (acc_of h).1 hlt fun W3 tk3 y hy By l3 S3 hv _ => ?_
  rw [hlen] at O2
  exact k zs st1 W3 tk3 D bs hlt S3 hv (O2.by By hy ⟨Tag.noConfusion, Tag.noConfusion⟩) (H1.to (l2.trans l3))
 | true =>
  rw [exec_Assign_Name_used _ _ _ _ hb]
  refine wpAny_bind (wpAny_standAt (wpAny_bind ?_))
  show wpAny _ cx.A (do let _ ← comprehension (lcO x iter scope lp px apos) scope cx.env _ (newList []) false (eval iter cx.env) (some (assign (.Name nm pos') cx.env))) _ _ (sh cx.T W tk)
  refine wpAny_bind (wpAny_mono (wpAny_comprehension_free (use := some (assign (.Name nm pos') cx.env)) (Q := fun _ s' => QQ .next s') rfl hs (comp_free Fu CO) CO.kind CO.loc (hi hfs st W S tk _ E ?_)) (fun _ s' hq => wpAny_pure (wpAny_pure hq)) fun _ _ e => e)
  refine H.bind (Nat.le_succ _) id fun zs st1 W1 tk1 v l1 S1 r1 H1 => ?_
  obtain ⟨I, fp, P, Sx, rfl, K0⟩ := r1
  rcases hK zs st1 with hlt | hlt
  case inr => rw [hlt] at H1; exact H1.elim
  refine compO_block (RR := fun acc Cc => compPost (model cx.T.prog cx.T.w) cx.A E (some (assign (.Name nm pos') cx.env)) (fun _ s' => QQ .next s') acc Cc) C CO K0 S1 fun D Cc W' tk' bs hC hlen L => ?_
  obtain ⟨m, hn⟩ := L.ns
  obtain ⟨oC, e1, e2, gC, rC⟩ := id hn
  obtain ⟨l2, S2, O2⟩ := L.fin (t' := .hold) (h' := W'.h) (fun b o _ e => e) rfl fun e => nomatch gC.symm.trans e
  rw [hlen] at O2
  have tC : (Ws.mk (W'.t.put Cc .hold) W'.h).t Cc = .hold := Tags.put_self ..
  refine wpAny_assign_Name (Sim.storeG (cb := cx.c) (W := ⟨W'.t.put Cc .hold, W'.h⟩) (fo := none) Fu C.kind S2 (fun f e => nomatch e) (acc_of h).1 hlt fun W3 tk3 y hy By l3 S3 hv _ => ?_)
  have O3 := O2.by By hy ⟨Tag.noConfusion, Tag.noConfusion⟩
  obtain ⟨g3, t3⟩ := l3.fix (x := Cc) gC (by rw [tC]; rfl) (by rw [tC]; rfl)
  refine ⟨m, ⟨oC, e1, e2, g3, rC⟩, fun h' hs' => ?_⟩
  have B : But Cc W3 ⟨W3.t.put Cc .junk, h'⟩ := .same (fun b o n e => (hs'.2 b n).trans e) _
  have t3 := t3.trans tC
  exact k zs st1 ⟨W3.t.put Cc .junk, h'⟩ _ D bs hlt (S3.but B (by rw [t3]; rfl) (by rw [t3]; rfl) (fun i => by rw [t3]; exact Tag.noConfusion) (fun _ => Tags.put_self ..) (put_ni rfl)) (B.holds S3.fr (by rw [t3]; rfl) hv) (O3.by B t3 ⟨Tag.noConfusion, Tag.noConfusion⟩) (H1.to ((l2.trans l3).but B (.dead hC) (put_ni rfl)))
theorem rowE_ok {c k e : CE} {y : PyData} {xss r : List (List PyData)} (h : rowE Γ j c k e y xss st = .ok r st') : j < st.v.length ∧ ∃ b st1, toB (ev Γ c { st with v := st.v.set j (some (.val y)) }) = .ok b st1 ∧
  ((b = false ∧ r = xss ∧ st' = st1) ∨ (b = true ∧ ∃ ks st2 n es, ev Γ k st1 = .ok ks st2 ∧ rowIx xss.length ks = some n ∧ ev Γ e st2 = .ok es st' ∧ rowAdd xss n es = some r)) := by
 unfold rowE at h
 cases hj : decide (j < st.v.length) with
 | false => rw [hj] at h; cases h
 | true =>
  rw [hj] at h
  obtain ⟨b, st1, h1, h2⟩ := R.bind_ok h
  refine ⟨odt hj, b, st1, h1, ?_⟩
  cases b with
  | false => cases h2; exact .inl ⟨rfl, rfl, rfl⟩
  | true =>
   obtain ⟨ks, st2, h3, h4⟩ := R.bind_ok (show (ev Γ k st1).bind _ = .ok r st' from h2)
   cases hn : rowIx xss.length ks with
   | none => rw [hn] at h4; cases h4
   | some n =>
    rw [hn] at h4
    obtain ⟨es, st3, h5, h6⟩ := R.bind_ok (show (ev Γ e st2).bind _ = .ok r st' from h4)
    cases ha : rowAdd xss n es with
    | none => rw [ha] at h6; cases h6
    | some r' => rw [ha] at h6; cases h6; exact .inr ⟨rfl, ks, st2, n, es, h3, hn, h5, ha⟩
structure RowsOk (Γ : Nat → Fn) (cx : Cx) (c k e : CE) (t kx ax : Expr) (apos cpos : Pos) : Prop where
 hc : SB Γ cx cx.c c t
 hfc : eff c = true → cx.c = true
 hk : SL Γ cx cx.c k [kx]
 hfk : eff k = true → cx.c = true
 he : SL Γ cx cx.c e [ax]
 hfe : eff e = true → cx.c = true
 hpk : plainX kx = true
 hpe : plainX ax = true
 hline : (apos.endLine == cpos.line) = true
noncomputable abbrev rowsB (nm : Str) (t kx ax : Expr) (yp sp apos cpos ep ip : Pos) : List Stmt := [.If t [.Expr (.Call (.Attribute (.Subscript (.Name nm yp) kx sp) "append" apos) [ax] [] cpos) ep] [] ip]
theorem rows_body {Q : FP} {c k e : CE} {y : PyData} {xss r : List (List PyData)} {nm : Str} {t kx ax : Expr} {yp sp apos cpos ep ip : Pos} (C : cx.Ok cx.c) (hn : isLoc cx.nm cx.env.scope.names i nm = true)
  (RO : RowsOk Γ cx c k e t kx ax apos cpos)
  (hj : j < st.v.length) (S : Sim cx { st with v := st.v.set j (some (.val y)) } W) (Hy : Holds cx.env W.h nm (.ref D)) (O : OO W cx.d D bs xss) (hr : rowE Γ j c k e y xss st = .ok r st')
  (hq : ∀ W' tk', Le cx.d cx.d cx.c W W' → Sim cx st' W' → Holds cx.env W'.h nm (.ref D) → OO W' cx.d D bs r → Q .next (sh cx.T W' tk')) :
  wpX cx (execs (rowsB nm t kx ax yp sp apos cpos ep ip) cx.env) Q E (sh cx.T W tk) := by
 obtain ⟨hc, hfc, hk, hfk, he, hfe, hpk, hpe, hline⟩ := RO
 obtain ⟨_, b, st1, h1, hr⟩ := rowE_ok hr
 refine wpAny_execs_cons (wpAny_If (hc hfc _ W S tk _ E ?_))
 rw [h1]
 intro W1 tk1 bv l1 S1 r1
 cases show bv = b from r1
 have l1' := l1.mono (a' := cx.d) (b' := cx.d) (c' := cx.c) (Nat.le_refl _) (Nat.le_succ _) id
 have Hy1 := S.fr.holds l1 (Nat.lt_succ_self _) Hy
 have O1 := O.le l1 (Nat.lt_succ_self _)
 rcases hr with ⟨rfl, rfl, rfl⟩ | ⟨rfl, ks, st2, n, es, h2, hix, h3, had⟩
 · exact wpAny_execs_nil (wpAny_execs_nil (hq W1 tk1 l1' S1 Hy1 O1))
 · refine wpAny_execs_cons (wpAny_Expr ?_ (inter C) rfl)
   refine Call_method1 rfl (star_cons hpe) hline (Subscript_ (load_name (s := sh cx.T W1 tk1) C.kind Hy1 (acc_of hn).2 ?_))
   refine hk hfk st1 W1 S1 tk1 (tw1 fun u s => wpX cx (subscriptTail (.Name nm yp) kx (.ref D) u) _ E s) E ?_
   rw [h2]
   intro W2 tk2 us l2 S2 r2
   match us, r2 with
   | [], _ => trivial
   | _ :: _ :: _, _ => trivial
   | [u], r2 =>
   have l2' := l2.mono (a' := cx.d) (b' := cx.d) (c' := cx.c) (Nat.le_refl _) (Nat.le_succ _) id
   have Hy2 := S1.fr.holds l2 (Nat.lt_succ_self _) Hy1
   have O2 := O1.le l2 (Nat.lt_succ_self _)
   obtain ⟨dk, g1, hix⟩ := bsm hix
   obtain ⟨ik, g2, hix⟩ := bsm hix
   obtain ⟨hz, hat⟩ := gdb hix
   obtain ⟨uu, rfl⟩ := (oneV_rep r2 g1).ii g2
   obtain ⟨da, g3, had⟩ := bsm had
   obtain ⟨xs, g4, had⟩ := bsm had
   obtain ⟨hzx, rfl⟩ := gd_some had
   have hlt : n < bs.length := by rw [O2.len]; exact (gsm g4).1
   obtain ⟨bn, hbn⟩ : ∃ bn, bs[n]? = some bn := ⟨_, geg hlt⟩
   have hsz : (bs.map Value.ref).toArray.size = xss.length := by rw [List.size_toArray, lmp]; exact O2.len
   refine tail_any (s := sh cx.T W2 tk2) (Heap.PlainList.isList O2.lst).typeIs slot_list_getitem.lookup (getItem_list_at (x := .ref bn) (Heap.PlainList.isList O2.lst) (by rw [hsz]; exact hat) (by rw [hsz]; exact hz) (by rw [List.getElem?_toArray, List.getElem?_map, hbn]; rfl) ?_) (notSlice_sub hpk _ _)
   obtain ⟨ws, ⟨nn, gb⟩, hrb⟩ := O2.row n bn xs hbn g4
   refine ⟨"list", _, PySem.F.plainAttrs_list, PySem.F.slot_list_append, PySem.F.type_list_append, ⟨_, gb, rfl⟩, (fun a e => by cases e; exact ⟨_, gb, rfl⟩), ?_⟩
   have hA : wpX cx (eval ax cx.env) (fun v s => ∃ W3 tk3, s = sh cx.T W3 tk3 ∧ Le cx.d (cx.d + 1) cx.c W2 W3 ∧ Sim cx st' W3 ∧ Rep W3 v da) E (sh cx.T W2 tk2) := by
    refine he hfe st2 W2 S2 tk2 (tw1 fun v s => ∃ W3 tk3, s = sh cx.T W3 tk3 ∧ Le cx.d (cx.d + 1) cx.c W2 W3 ∧ Sim cx st' W3 ∧ Rep W3 v da) E ?_
    rw [h3]
    intro W3 tk3 us3 l3 S3 r3
    match us3, r3 with
    | [], _ => trivial
    | _ :: _ :: _, _ => trivial
    | [w], r3 => exact ⟨W3, tk3, rfl, l3, S3, oneV_rep r3 g3⟩
   refine callWith_builtin rfl (evalArgs_plain (spliced_cons (wpAny_mono hA (fun w s hw => ?_) fun _ _ h => h)))
   obtain ⟨W3, tk3, rfl, l3, S3, rw3⟩ := hw
   refine spliced_nil ?_
   have l3' := l3.mono (a' := cx.d) (b' := cx.d) (c' := cx.c) (Nat.le_refl _) (Nat.le_succ _) id
   have Hy3 := S2.fr.holds l3 (Nat.lt_succ_self _) Hy2
   have O3 := O2.le l3 (Nat.lt_succ_self _)
   obtain ⟨ws3, hp3, hr3⟩ := O3.row n bn xs hbn g4
   have tb := O3.tg bn (.tail _ (mog hbn))
   refine wpAny_list_append_plain (s := sh cx.T W3 tk3) hp3 (fun h' hpl' sb => ?_) (by rw [hr3.size]; exact okLen_le hzx)
   obtain ⟨l4, S4, B4⟩ := S3.ooBut (cb := cx.c) tb (fun b o n e => (sb.2 b n).trans e) (let ⟨_, g⟩ := hpl'; ⟨_, g⟩)
   exact wpAny_execs_nil (wpAny_execs_nil (hq _ _ (l1'.trans (l2'.trans (l3'.trans l4))) S4 (B4.holds S3.fr (by rw [tb]; rfl) Hy3) (O3.app hbn g4 hr3 hpl' B4 rw3)))
theorem rows_loop {Q : FP} {Er : VP} {c k e : CE} {xss xf : List (List PyData)} {nm nz : Str} {t kx ax : Expr} {it : Value} {zp yp sp apos cpos ep ip : Pos} (C : cx.Ok cx.c) (Fu : cx.Full) (hn : isLoc cx.nm cx.env.scope.names i nm = true) (hz : isLoc cx.nm cx.env.scope.names j nz = true) (hnz : nm ≠ nz)
  (RO : RowsOk Γ cx c k e t kx ax apos cpos)
  (S : Sim cx st W) (l : Le cx.d cx.d cx.c W2 W) (K : Stand cx.T cx.d cx.c cx.A.handled (goF cx (.Name nz zp) it) it W2 xs W) (Hy : Holds cx.env W.h nm (.ref D)) (O : OO W cx.d D bs xss) (hr : rowL (rowE Γ j c k e) xs xss st = .ok xf st')
  (hq : ∀ W' tk', Le cx.d cx.d cx.c W2 W' → Sim cx st' W' → Holds cx.env W'.h nm (.ref D) → OO W' cx.d D bs xf → Q .next (sh cx.T W' tk')) :
  codeAny (model cx.T.prog cx.T.w) cx.A (.forLoop (.Name nz zp) it (rowsB nm t kx ax yp sp apos cpos ep ip) [] cx.env) (fun r s' => match r with | .ok f => Q f s' | .error e => Er e s') (sh cx.T W tk) := by
 refine codeAny_forLoop_any (fun n s => ∃ ys yss st W tk, n = ys.length ∧ s = sh cx.T W tk ∧ Sim cx st W ∧ Le cx.d cx.d cx.c W2 W ∧ Stand cx.T cx.d cx.c cx.A.handled (goF cx (.Name nz zp) it) it W2 ys W ∧ Holds cx.env W.h nm (.ref D) ∧ OO W cx.d D bs yss ∧ rowL (rowE Γ j c k e) ys yss st = .ok xf st') ?_ xs.length ⟨xs, xss, st, W, tk, rfl, rfl, S, l, K, Hy, O, hr⟩
 rintro n s ⟨ys, yss, st, W, tk, rfl, rfl, S, l, K, Hy, O, hr⟩
 cases ys with
 | nil =>
  cases hr
  exact K W tk cx.A _ _ rfl Le.refl fun W' tk' h => wpAny_execs_nil (let ⟨X, N, _⟩ := id h; hq W' tk' (h.le l) (h.sim S) (N.holds S.fr Hy) (O.nx N))
 | cons y ys =>
  refine wpAny_mono (K W tk cx.A (fun v s₁' => wpX cx (assign (.Name nz zp) cx.env v) (fun _ s₂ => wpX cx (execs (rowsB nm t kx ax yp sp apos cpos ep ip) cx.env) (fun f s₃ => match f with
      | .next | .cont => ∃ m, m < (y :: ys).length ∧ ∃ ys yss st W tk, m = ys.length ∧ s₃ = sh cx.T W tk ∧ Sim cx st W ∧ Le cx.d cx.d cx.c W2 W ∧ Stand cx.T cx.d cx.c cx.A.handled (goF cx (.Name nz zp) it) it W2 ys W ∧ Holds cx.env W.h nm (.ref D) ∧ OO W cx.d D bs yss ∧ rowL (rowE Γ j c k e) ys yss st = .ok xf st'
      | .brk => Q .next s₃
      | .ret v => Q (.ret v) s₃) (notedBy (model cx.T.prog cx.T.w) cx.A cx.env fun e s' => Er e s') s₂) (notedBy (model cx.T.prog cx.T.w) cx.A cx.env fun e s' => Er e s') s₁') _ rfl Le.refl fun W' tk' v h r K' => ?_) (fun r s₁ h => ?_) fun _ _ h => h
  · replace hr : (match rowE Γ j c k e y yss st with | .ok r st => rowL (rowE Γ j c k e) ys r st | _ => .stuck) = .ok xf st' := hr
    cases h1 : rowE Γ j c k e y yss st with
    | stuck => rw [h1] at hr; cases hr
    | exc q st1 => rw [h1] at hr; cases hr
    | ok r1 st1 =>
     rw [h1] at hr
     obtain ⟨X, N, hX⟩ := id h
     have hj := (rowE_ok h1).1
     have S' := h.sim S
     refine wpAny_assign_Name (Sim.storeG (cb := cx.c) (fo := some (.val y)) Fu C.kind S' (fun f e => by cases e; exact r) (acc_of hz).1 hj fun W3 tk3 x' hx By l3 S3 _ hoth => ?_)
     refine rows_body C hn RO hj S3 (hoth nm _ hnz (N.holds S.fr Hy)) ((O.nx N).by By hx ⟨Tag.noConfusion, Tag.noConfusion⟩) h1 fun W4 tk4 l4 S4 Hy4 O4 => ?_
     have l5 := l3.trans l4
     exact ⟨ys.length, Nat.lt_succ_self _, ys, r1, st1, W4, tk4, rfl, rfl, S4, (h.le l).trans l5, K'.later l5, Hy4, O4, hr⟩
  · cases r with
    | none => exact h.elim
    | some v => exact h
theorem s_rows {many src c k e : CE} {nm nz : Str} {tr t kx ax : Expr} {p1 p2 apc zp yp sp apos cpos ep ip fp rp yp' : Pos} (h0 : cx.h = false) (C : cx.Ok cx.c) (Fu : cx.Full) (hn : isLoc cx.nm cx.env.scope.names i nm = true) (hz : isLoc cx.nm cx.env.scope.names j nz = true) (hnz : nm ≠ nz)
  (CO : CompOk cx scope x) (hi : SI Γ cx cx.c 1 many iter) (hs : ∀ v, foldedSetIterable iter cx.env v = pure v) (hfs : eff many = true → cx.c = true) (ht : SI Γ cx cx.c 0 src tr) (hst : ∀ v, foldedSetIterable tr cx.env v = pure v) (hft : eff src = true → cx.c = true)
  (RO : RowsOk Γ cx c k e t kx ax apos cpos) :
  SSs Γ cx (.rows i j many src c k e) [.Assign [.Name nm p1] (lcO x iter scope lp px apc) p2, .For (.Name nz zp) tr (rowsB nm t kx ax yp sp apos cpos ep ip) [] fp, .Return (some (.Name nm yp')) rp] := fun st W S tk Q E H => by
 refine wpAny_execs_cons (s_assignO C Fu hn CO hi hs hfs S H (fun zs st1 => ?_) fun zs st1 W1 tk1 D bs hlt S1 Hy O H1 => ?_)
 · by_cases q : i < st1.v.length
   · exact .inl q
   · exact .inr (by unfold rowsE; rw [dff q]; rfl)
 · unfold rowsE at H1
   rw [dtt hlt] at H1
   refine wpAny_execs_cons (wpAny_For (ht.sf hft (.Name nz zp) _ W1 S1 tk1 _ E (Post.bind (Nat.le_succ _) id (show Post cx cx.d cx.c (RFl cx) W1 Q E (((ev Γ src { st1 with v := st1.v.set i none }).bind (itE 0)).bind _) from H1) fun xs st2 W2 tk2 it l2 S2 r2 H2 => ?_)) hst)
   obtain ⟨t', h, K⟩ := r2
   obtain ⟨X, N, hX⟩ := id h
   have Hy2 := S1.fr.holds l2 (Nat.lt_succ_self _) Hy
   have O2 := O.le l2 (Nat.lt_succ_self _)
   cases hr : rowL (rowE Γ j c k e) xs (List.replicate zs.length []) st2 with
   | stuck => rw [hr] at H2; exact H2.elim
   | exc q st3 => rw [hr] at H2; exact H2.elim
   | ok xf st3 =>
    rw [hr] at H2
    refine rows_loop (W := ⟨t', W2.h⟩) C Fu hn hz hnz RO (h.sim S2) (h.le Le.refl) K (N.holds S2.fr Hy2) (O2.nx N) hr fun W3 tk3 l3 S3 Hy3 O3 => ?_
    refine wpAny_execs_cons (wpAny_Return_some (load_name (s := sh cx.T W3 tk3) C.kind Hy3 (acc_of hn).2 ?_))
    obtain ⟨t4, S4, l4, r4⟩ := O3.froze (cb := cx.c) S3
    exact H2 ⟨t4, W3.h⟩ tk3 _ (l3.trans l4) S4 ⟨_, rfl, r4, rfl⟩
end
structure Slt (W W' : Ws) : Prop where
 tg : W'.t = W.t
 kp : ∀ b o, W.get b = some o → W.t b ≠ .junk → ∃ sl, W'.get b = some { o with slots := sl } ∧ ((W.t b).isLoc = false → sl = o.slots)
section
variable {T : Tp} {W W' : Ws} {a b k : Nat} {c : Bool} {cx : Cx} {st : St} {p : List Slots} {vs : Slots} {e : Addr} {Q : UP} {E : VP} {tk : Nat}
theorem Slt.at (s : Slt W W') {x : Addr} {o : Obj} (h : W.t x ≠ .junk) (hl : (W.t x).isLoc = false) (g : W.get x = some o) : W'.get x = some o ∧ W'.t x = W.t x := by
 obtain ⟨sl, e, f⟩ := s.kp x o g h
 rw [f hl] at e
 exact ⟨e, congrFun s.tg x⟩
theorem Slt.at' (s : Slt W W') {x : Addr} {o : Obj} {t : Tag} (ht : W.t x = t) (h : t ≠ .junk) (hl : t.isLoc = false) (g : W.get x = some o) : W'.get x = some o ∧ W'.t x = t := by
 have := s.at (by rw [ht]; exact h) (by rw [ht]; exact hl) g
 exact ⟨this.1, this.2.trans ht⟩
theorem Slt.fz (s : Slt W W') : Fz W W' := fun x o h => by
 obtain ⟨t, e⟩ := z_in h
 have := s.at' t Tag.noConfusion rfl e
 exact z_of this.2 this.1
theorem Slt.le (s : Slt W W') : Le a b c W W' := ⟨fun x o g k => by
 have h : W.t x ≠ .junk := fun q => by rw [q] at k; cases k
 exact ⟨congrFun s.tg x, s.kp x o g h⟩, fun _ x k h => by rw [s.tg] at h; exact h⟩
theorem Slt.ok (s : Slt W W') (K : Wok T c p W) : Wok T c p W' := by
 refine ⟨fun b e => ?_, fun b o e => ?_, fun k fl e => ?_, fun x y k h h' => K.uq x y k (by rw [s.tg] at h; exact h) (by rw [s.tg] at h'; exact h'), fun hc x k h => K.cnt hc x k (by rw [s.tg] at h; exact h), fun b o d t e => ?_⟩
 · rw [s.tg]
   cases g : W.get b with
   | none => exact K.dead b g
   | some o =>
    cases q : W.t b with
    | junk => rfl
    | _ => obtain ⟨sl, e', _⟩ := s.kp b o g (by rw [q]; exact Tag.noConfusion); cases e'.symm.trans e
 · obtain ⟨e1, t1⟩ := K.top b o e
   exact s.at' t1 Tag.noConfusion rfl e1
 · obtain ⟨q, P⟩ := K.pgs k fl e
   exact ⟨q, P.keep s.fz fun a o h g => s.at (fun q => by rw [q] at h; cases h) (by generalize W.t a = t at h; cases t <;> first | rfl | cases h) g⟩
 · rw [s.tg] at t
   cases g : W.get b with
   | none => cases (K.dead b g).symm.trans t
   | some o' =>
    obtain ⟨sl, e', _⟩ := s.kp b o' g (by rw [t]; exact Tag.noConfusion)
    cases e'.symm.trans e
    exact K.lf b o' d t g
theorem Slt.fr (s : Slt W W') (F : Frm cx vs W) : Frm cx vs W' := by
 have hl : ∀ x o d, W.t x = .loc d → W.get x = some o → ∃ sl, W'.get x = some { o with slots := sl } := fun x o d t g => let ⟨sl, e, _⟩ := s.kp x o g (by rw [t]; exact Tag.noConfusion); ⟨sl, e⟩
 have hns : ∀ m, W.h.Ns cx.env.locals m → W'.h.Ns cx.env.locals m := fun m ⟨o, es, ep, g, r⟩ => let ⟨sl, e⟩ := hl _ o _ F.nst g; ⟨_, es, ep, e, r⟩
 have hce : ∀ y e v, (y, e) ∈ cx.env.cells → W.h.IsCell e v → W'.h.IsCell e v := fun y e v hy ⟨o, g, r⟩ => let ⟨_, d', t, _⟩ := F.cells y e hy; let ⟨sl, e'⟩ := hl _ o _ t g; ⟨_, e', r⟩
 obtain ⟨m, hm⟩ := F.ns
 refine ⟨⟨m, hns m hm⟩, by rw [s.tg]; exact F.nst, fun y e hy => ?_, fun i f y h1 h2 h3 => ?_, let ⟨l', h1, h2⟩ := F.frs; ⟨l', h1, h2.keep (Nat.le_refl _) fun L d' o hd t g => ⟨by rw [s.tg]; exact t, let ⟨sl, e⟩ := hl L o _ t g; ⟨_, e⟩⟩⟩, fun q => (F.hnd q).mono s.fz⟩
 · obtain ⟨⟨v, g⟩, d', q, q'⟩ := F.cells y e hy
   exact ⟨⟨v, hce y e v hy g⟩, d', by rw [s.tg]; exact q, q'⟩
 · obtain ⟨u, hu, r⟩ := F.vals i f y h1 h2 h3
   refine ⟨u, hu.keep hns hce, r.keep s.fz (fun _ a o q g => s.at' q Tag.noConfusion rfl g) (fun a o q g => s.at (fun e => by rw [e] at q; cases q) ?_ g) fun a o k q g => s.at' q Tag.noConfusion rfl g⟩
   generalize W.t a = t at q; cases t <;> first | rfl | cases q
theorem Slt.sim (s : Slt W W') (S : Sim cx st W) : Sim cx st W' := ⟨s.ok S.ok, s.fr S.fr⟩
theorem slt_of {B h' : Heap} (lf : ∀ b o d, W.t b = .loc d → W.get b = some o → Nf o) (hB : ∀ b o, W.get b = some o → (W.t b).isLoc = false → W.t b ≠ .junk → B.get? b = some o) (hs : B.StaysIn h') (hu : W.h.UpToSlots h') : Slt W ⟨W.t, h'⟩ := by
 refine ⟨rfl, fun b o g n => ?_⟩
 cases hl : (W.t b).isLoc with
 | false => exact ⟨o.slots, hs b o (hB b o g hl n), fun _ => rfl⟩
 | true =>
  obtain ⟨d, t⟩ : ∃ d, W.t b = .loc d := by
   generalize W.t b = t at hl
   cases t with
   | loc d => exact ⟨d, rfl⟩
   | _ => cases hl
  obtain ⟨sl, e⟩ := hu b o g (lf b o d t g)
  exact ⟨sl, e, fun q => nomatch q⟩
section
variable {M : Model} {A : Around} {s : Shared} {B : Heap} {env : Env} {l : List Env} {L : Addr} {cls head : Value} {oe : Obj} {vs : Array Value} {hadNext : Bool}
theorem air_entry (hA : A.frames = some (env :: l)) (hf : env.frame = some L) (st : B.StaysIn s.heap) (no : B.get? e = none) (fr : s.heap.FunFrames B (env :: l)) (he : s.heap.get? e = some oe) (hd : oe.data = .fields vs) (h2 : vs[2]? = some .none)
  (hQ : ∀ h', Air B (env :: l) e oe.cls h' → s.heap.UpToSlots h' → Q () { s with heap := h' }) :
  wpAny M A (do let a ← frameOf env; let pl ← entryPlaceOf L hadNext; let b ← EntryCells.newEntry head a .none (rawInt L) .none pl; setField (.ref e) 1 b) (fun _ s' => wpAny M A (setFlight (.ref e) none) Q E s') E s := by
 have nfr : e ∉ (env :: l).filterMap (·.frame) := fun hm => let ⟨_, o, ho, hnf⟩ := fr.mem hm; hnf vs (by cases he.symm.trans ho; exact hd)
 have sz : 2 < vs.size := (Array.getElem?_eq_some_iff.mp h2).1
 have sz1 : 1 < vs.size := Nat.lt_of_succ_lt sz
 refine wpAny_bind (wpAny_frameOf_fun hA fr hf fun h₁ q => wpAny_bind (wpAny_entryPlaceOf fun pl hpl => ?_))
 unfold EntryCells.newEntry newFields
 refine wpAny_bind (wpAny_newObj_type ?_ (hpl.sizeOk5 _ _ _ _ _))
 generalize hw : ([head, .ref L, .none, rawInt L, .none] ++ (if pl.isEmpty then List.replicate 6 Value.none else pl)).toArray = ws
 have wsz : 3 < ws.size := by rw [← hw]; simp only [List.size_toArray, lap, List.length_cons, List.length_nil]; lia
 have e1 : h₁.get? e = some oe := (q.2.1 e nfr).trans he
 have st1 : B.StaysIn h₁ := fun b o hb => (q.2.1 b fun hm => by cases (fr.mem hm).1.symm.trans hb).trans (st b o hb)
 have nT : h₁.objs.size ≠ e := Nat.ne_of_gt (Heap.lt_size e1)
 have e2 := Heap.get?_push_of_some { cls := .type "traceback", dict := none, data := .fields ws } e1
 have d3 := Obj.data_mapFields hd (·.setIfInBounds 1 (Value.ref h₁.objs.size))
 have e3 := Heap.get?_update_self (Obj.mapFields (·.setIfInBounds 1 (Value.ref h₁.objs.size))) e2 (Obj.isFreed_of_fields d3)
 have T3 := (Heap.get?_update_other (h₁.push { cls := .type "traceback", dict := none, data := .fields ws }) (Obj.mapFields (·.setIfInBounds 1 (Value.ref h₁.objs.size))) nT.symm).trans (Heap.get?_push_size h₁ rfl)
 refine wpAny_setField e2 hd sz1 ?_
 unfold setFlight
 refine wpAny_bind (wpAny_field e3 d3 (x := .ref h₁.objs.size) (by simp [sz1]) ?_)
 rw [if_pos (show (Value.ref h₁.objs.size != Value.none) = true from rfl)]
 refine wpAny_setField T3 rfl wsz (hQ _ ?_ ?_)
 case' refine_1 => skip
 all_goals
  have keep : ∀ b o, b ≠ e → h₁.get? b = some o → ((((h₁.push { cls := .type "traceback", dict := none, data := .fields ws }).update e (Obj.mapFields (·.setIfInBounds 1 (Value.ref h₁.objs.size)))).update h₁.objs.size
    (Obj.mapFields (·.setIfInBounds 3 ((none : Option Addr).elim Value.none fun f => rawInt f)))).get? b) = some o := fun b o ne g => by
   rw [Heap.get?_update_other _ _ (Nat.ne_of_gt (Heap.lt_size g)), Heap.get?_update_other _ _ ne.symm]
   exact Heap.get?_push_of_some _ g
  have nr : ∀ b o, s.heap.get? b = some o → (∀ vs, o.data ≠ .fields vs) → b ≠ e := fun b o g nf q => nf vs (by subst q; cases he.symm.trans g; exact hd)
  have up : s.heap.UpToSlots _ := fun b o g nf => let ⟨sl, g1⟩ := q.2.2 b o g; ⟨sl, keep b _ (nr b o g nf) g1⟩
 · exact ⟨fun b o hb => keep b o (fun q => by subst q; cases no.symm.trans hb) (st1 b o hb), no, fr.of_keeps fun b o g nf => let ⟨sl, g1⟩ := up b o g nf; ⟨_, g1, rfl⟩, _, _, (Heap.get?_update_other _ _ nT).trans e3, Obj.cls_mapFields _ _, d3, by rw [Array.getElem?_setIfInBounds_ne (by decide)]; exact h2,
    .inr ⟨h₁.objs.size, _, _, by simp [sz1], st1.fresh, nT, Heap.get?_update_self _ T3 (Obj.isFreed_of_fields (Obj.data_mapFields rfl _)), Obj.data_mapFields rfl _, by simp [wsz]⟩⟩
 · exact up
theorem air_note (hA : A.frames = some (env :: l)) (hf : env.frame = some L) (F : Air B (env :: l) e cls s.heap) (hQ : ∀ h', Air B (env :: l) e cls h' → s.heap.UpToSlots h' → Q () { s with heap := h' }) :
  wpAny M A (noteFrame (.ref e) env) (fun _ s' => wpAny M A (setFlight (.ref e) none) Q E s') E s := by
 obtain ⟨st, no, fr, oe, vs, he, rfl, hd, h2, h1⟩ := F
 unfold noteFrame
 simp only [hf]
 rcases h1 with h1 | ⟨T, oT, ts, h1, hB, hTe, hT, hdT, h3⟩
 · refine wpAny_bind (wpAny_field he hd h1 ?_)
   rw [if_neg (by decide)]
   exact air_entry hA hf st no fr he hd h2 hQ
 · refine wpAny_bind (wpAny_field he hd h1 ?_)
   rw [if_pos (show (Value.ref T != Value.none) = true from rfl)]
   refine wpAny_bind (wpAny_field hT hdT h3 ?_)
   rw [if_neg (show ¬ ((Value.none == rawInt L) = true) from nofun)]
   refine wpAny_bind (wpAny_setField hT hdT (Array.getElem?_eq_some_iff.mp h3).1 ?_)
   have oth : ∀ b o, b ≠ T → s.heap.get? b = some o → (s.heap.update T (Obj.mapFields (·.setIfInBounds 3 Value.none))).get? b = some o := fun b o hb g => (Heap.get?_update_other _ _ hb.symm).trans g
   have nr : ∀ b o, s.heap.get? b = some o → (∀ vs, o.data ≠ .fields vs) → b ≠ T := fun b o g nf q => nf ts (by subst q; cases hT.symm.trans g; exact hdT)
   exact air_entry hA hf (fun b o hb => oth b o (fun q => by subst q; cases hB.symm.trans hb) (st b o hb)) no (fr.of_keeps fun b o g nf => ⟨o, oth b o (nr b o g nf) g, rfl⟩) (oth e oe hTe.symm he) hd h2
    fun h' a u => hQ h' a fun b o g nf => u b o (oth b o (nr b o g nf) g) nf
theorem air_go (F : Air B l e cls s.heap) (hQ : ∀ h', Air B l e cls h' → s.heap.UpToSlots h' → Q () { s with heap := h' }) : wpAny M A (setFlight (.ref e) none) Q E s := by
 obtain ⟨st, no, fr, oe, vs, he, hc, hd, h2, h1⟩ := id F
 unfold setFlight
 rcases h1 with h1 | ⟨T, oT, ts, h1, hB, hTe, hT, hdT, h3⟩
 · refine wpAny_bind (wpAny_field he hd h1 ?_)
   rw [if_neg (by decide)]
   exact wpAny_pure (hQ s.heap F (.refl _))
 · refine wpAny_bind (wpAny_field he hd h1 ?_)
   rw [if_pos (show (Value.ref T != Value.none) = true from rfl)]
   have sz := (Array.getElem?_eq_some_iff.mp h3).1
   have oth : ∀ b o, b ≠ T → s.heap.get? b = some o → (s.heap.update T (Obj.mapFields (·.setIfInBounds 3 ((none : Option Addr).elim Value.none fun f => rawInt f)))).get? b = some o := fun b o hb g => (Heap.get?_update_other _ _ hb.symm).trans g
   have nr : ∀ b o, s.heap.get? b = some o → (∀ vs, o.data ≠ .fields vs) → b ≠ T := fun b o g nf q => nf ts (by subst q; cases hT.symm.trans g; exact hdT)
   exact wpAny_setField hT hdT sz (hQ _ ⟨fun b o hb => oth b o (fun q => by subst q; cases hB.symm.trans hb) (st b o hb), no, fr.of_keeps fun b o g nf => ⟨o, oth b o (nr b o g nf) g, rfl⟩, oe, vs, oth e oe hTe.symm he, hc, hd, h2,
    .inr ⟨T, _, _, h1, hB, hTe, Heap.get?_update_self _ hT (Obj.isFreed_of_fields (Obj.data_mapFields hdT _)), Obj.data_mapFields hdT _, by simp [sz]⟩⟩ fun b o g nf => ⟨o.slots, oth b o (nr b o g nf) g⟩)
end
theorem Fly.leave {M : Model} {l : List Env} {env : Env} {L : Addr} {cx' : Cx} (F : Fly cx k e W) (lf : ∀ b o d, W.t b = .loc d → W.get b = some o → Nf o) (hd : ∀ b, W.get b = none → W.t b = .junk) (hA : cx.A.frames = some (env :: l)) (hf : env.frame = some L) (hT : cx'.T = cx.T) (hA' : cx'.A.frames = some l)
  (hQ : ∀ h', Slt W ⟨W.t, h'⟩ → Fly cx' k e ⟨W.t, h'⟩ → Q () (sh cx.T ⟨W.t, h'⟩ tk)) : wpAny M cx.A (leaving env (.ref e)) Q E (sh cx.T W tk) := by
 obtain ⟨B, l0, h1, hB, h2⟩ := F
 cases h1.symm.trans hA
 refine wpAny_bind (air_note (s := sh cx.T W tk) hA hf h2 fun h' f u => ?_)
 have s := slt_of lf hB f.st u
 refine hQ h' s ⟨B, l, hA', fun b o g hl n => ?_, f.st, f.no, let ⟨_, _, q⟩ := f.fr; q, by rw [hT]; exact f.ob⟩
 cases g' : W.get b with
 | none => exact absurd (hd b g') n
 | some o' => cases (s.at n hl g').1.symm.trans g; exact hB b o g' hl n
end
structure FnDef where
 kind : Nat
 name : Str
 ps : List Str
 vs : List Str
 body : CS
structure FnAt (T : Tp) (d : FnDef) (f : Addr) (o : Obj) (fd : FuncData) (body : List Stmt) : Prop where
 at_ : T.s.heap.get? f = some o
 data : o.data = .func fd
 code : T.s.heap.CodeRec fd.code fd.qualname
 bd : fd.body = .stmts body
 clo : fd.closure = []
 gl : fd.globals = mainGlobals
 bl : fd.builtins = builtinsNs
 co : fd.scope.isCoroutine = false
 gen : fd.scope.isGenerator = false
 kind : fd.scope.kind = .function
 bind : ∀ vs, vs.length = d.ps.length → bindArgs fd ⟨vs, []⟩ = pure (d.ps.zip vs)
 par : ∀ p ∈ d.ps, fd.scope.names.lookup p = some .local ∨ fd.scope.names.lookup p = some .cell
 nodup : (d.ps ++ d.vs).Nodup
 cells : ((cellsFrom 0 fd.scope.names []).map (·.1)).Nodup
noncomputable def Cx.up (cx : Cx) (c : Bool) : Cx := { cx with d := cx.d + 1, c := c }
noncomputable def ArgR (cx : Cx) (W : Ws) : List Value → List F → Prop
 | [], [] => True
 | v :: vs, f :: fs => (f.tmp = false ∧ RepS cx W .junk v f) ∧ ArgR cx W vs fs
 | _, _ => False
noncomputable def OutP (cx : Cx) (c : Bool) (W : Ws) (R : Result → Shared → Prop) : Out → Prop
 | .ret g p => ∀ W' tk v, Le (cx.d + 1) (cx.d + 1) c W W' → Wok cx.T c p W' → RepA (cx.up c) W' v g → g.isRet = true → R (.ok (.ret v)) (sh cx.T W' tk)
 | .exc k p => ∀ W' tk e, Le (cx.d + 1) (cx.d + 1) c W W' → Wok cx.T c p W' → Fly cx k e W' → R (.error (.ref e)) (sh cx.T W' tk)
 | .stuck => False
noncomputable def FnOk (cx : Cx) (c : Bool) (f : Addr) (φ : Fn) : Prop := ∀ W tk vs fs p R, Wok cx.T c p W → (∃ l, cx.A.frames = some l ∧ Frs W cx.d l) → ArgR (cx.up c) W vs fs → OutP cx c W R (φ p fs) →
 codeAny (model cx.T.prog cx.T.w) cx.A (.call (.ref f) ⟨vs, []⟩) R (sh cx.T W tk)
noncomputable def Cx.callee (cx : Cx) (c : Bool) (d : FnDef) (env : Env) : Cx := { T := cx.T, A := cx.A.deeper env, env := env, nm := d.ps ++ d.vs, d := cx.d + 1, c := c, full := true, h := false }
section
variable {names : Kd} {x y : Str} {c : Addr} {n m : Nat} {acc acc' : List (Str × Addr)} {kindOf : Str → Option NameKind} {ps : List Str} {vs : List Value} {mm : Str → Option Value} {v : Value} {i : Nat}
theorem cellsFrom_fst (h : acc.map (·.1) = acc'.map (·.1)) : (cellsFrom n names acc).map (·.1) = (cellsFrom m names acc').map (·.1) := by
 induction names generalizing n m acc acc' with
 | nil => exact h
 | cons z r ih =>
  obtain ⟨y, k⟩ := z
  unfold cellsFrom
  split
  · exact ih (congrArg (y :: ·) h)
  · exact ih h
theorem cells_mem (h : names.lookup x = some .cell ∨ ∃ c, (x, c) ∈ acc) : ∃ c, (x, c) ∈ cellsFrom n names acc := by
 induction names generalizing n acc with
 | nil => exact h.elim (fun e => nomatch e) id
 | cons z r ih =>
  obtain ⟨y, k⟩ := z
  unfold cellsFrom
  have step : ((y, k) :: r).lookup x = some .cell → (x = y ∧ k = .cell) ∨ r.lookup x = some .cell := fun e => by
   rw [List.lookup_cons] at e
   cases hb : x == y with
   | true => rw [hb] at e; exact .inl ⟨eq_of_beq hb, Option.some.inj e⟩
   | false => rw [hb] at e; exact .inr e
  split
  · refine ih ?_
    rcases h with h | ⟨c, h⟩
    · rcases step h with ⟨rfl, _⟩ | h
      · exact .inr ⟨n, .head _⟩
      · exact .inl h
    · exact .inr ⟨c, .tail _ h⟩
  · rename_i hk
    refine ih ?_
    rcases h with h | h
    · rcases step h with ⟨_, rfl⟩ | h
      · exact absurd rfl hk
      · exact .inl h
    · exact .inr h
theorem lookup_nodup {l : List (Str × Addr)} (hn : (l.map (·.1)).Nodup) (h : (y, c) ∈ l) : l.lookup y = some c := by
 induction l with
 | nil => cases h
 | cons p r ih =>
  rw [List.map_cons, List.nodup_cons] at hn
  rw [List.lookup_cons]
  rcases List.mem_cons.mp h with e | h'
  · rw [← e, beq_self_eq_true]
  · have : (y == p.1) = false := bfi fun e => hn.1 (by rw [← eq_of_beq e]; exact List.mem_map.mpr ⟨_, h', rfl⟩)
    rw [this]
    exact ih hn.2 h'
theorem bindL_other (h : y ∉ ps) : bindL kindOf (ps.zip vs) mm y = mm y := by
 induction ps generalizing vs mm with
 | nil => rfl
 | cons p ps ih =>
  cases vs with
  | nil => rfl
  | cons v vs =>
   rw [List.zip_cons_cons, bindL, ih fun e => h (.tail _ e)]
   split
   · exact if_neg fun (e : y = p) => h (e ▸ .head _)
   · rfl
theorem bindC_other (h : y ∉ ps) : bindC kindOf (ps.zip vs) mm y = mm y := by
 induction ps generalizing vs mm with
 | nil => rfl
 | cons p ps ih =>
  cases vs with
  | nil => rfl
  | cons v vs =>
   rw [List.zip_cons_cons, bindC, ih fun e => h (.tail _ e)]
   split
   · rfl
   · exact if_neg fun (e : y = p) => h (e ▸ .head _)
theorem bindL_at (hn : ps.Nodup) (h1 : ps[i]? = some y) (h2 : vs[i]? = some v) (hk : kindOf y = some .local) : bindL kindOf (ps.zip vs) mm y = some v := by
 induction ps generalizing vs mm i with
 | nil => cases h1
 | cons p ps ih =>
  cases vs with
  | nil => cases h2
  | cons v' vs =>
   rw [List.zip_cons_cons, bindL]
   cases i with
   | zero =>
    cases h1; cases h2
    rw [bindL_other (List.nodup_cons.mp hn).1, if_pos hk, if_pos rfl]
   | succ i => exact ih (List.nodup_cons.mp hn).2 h1 h2
theorem bindC_at (hn : ps.Nodup) (h1 : ps[i]? = some y) (h2 : vs[i]? = some v) (hk : kindOf y = some .cell) : bindC kindOf (ps.zip vs) mm y = some v := by
 induction ps generalizing vs mm i with
 | nil => cases h1
 | cons p ps ih =>
  cases vs with
  | nil => cases h2
  | cons v' vs =>
   rw [List.zip_cons_cons, bindC]
   cases i with
   | zero =>
    cases h1; cases h2
    rw [bindC_other (List.nodup_cons.mp hn).1, if_neg (by rw [hk]; decide), if_pos rfl]
   | succ i => exact ih (List.nodup_cons.mp hn).2 h1 h2
end
section
variable {cx : Cx} {cb : Bool} {W : Ws} {d : FnDef} {f : Addr} {o : Obj} {fs : List F} {vs : List Value} {v : Value} {g : F} {i : Nat}
theorem ArgR.get (h : ArgR cx W vs fs) (e : fs[i]? = some g) : ∃ v, vs[i]? = some v ∧ g.tmp = false ∧ RepS cx W .junk v g := by
 induction fs generalizing vs i with
 | nil => cases e
 | cons f fs ih =>
  cases vs with
  | nil => exact h.elim
  | cons v vs =>
   cases i with
   | zero => cases e; exact ⟨v, rfl, h.1⟩
   | succ i => exact let ⟨u, q⟩ := ih (vs := vs) (i := i) h.2 e; ⟨u, q⟩
theorem ArgR.length (h : ArgR cx W vs fs) : vs.length = fs.length := by
 induction fs generalizing vs with
 | nil => cases vs with
  | nil => rfl
  | cons _ _ => exact h.elim
 | cons f fs ih => cases vs with
  | nil => exact h.elim
  | cons v vs => exact congrArg (· + 1) (ih h.2)
theorem slot_start {nv : Nat} (h : slot (fs.map some ++ List.replicate nv none) i = some g) : fs[i]? = some g := by
 unfold slot at h
 rcases Nat.lt_or_ge i fs.length with q | q
 · rw [List.getElem?_append_left (by rw [lmp]; exact q), List.getElem?_map, geg q] at h
   rw [geg q]; exact h
 · rw [List.getElem?_append_right (by rw [lmp]; exact q)] at h
   cases e : (List.replicate nv (none : Option F))[i - (fs.map some).length]? with
   | none => rw [e] at h; cases h
   | some x =>
    rw [e] at h
    rw [(List.mem_replicate.mp (mog e)).2] at h; cases h
theorem enter_ok {env : Env} {h₁ : Heap} {p : List Slots} {mL mC : Str → Option Value} (K : Wok cx.T cb p W) (F : ∃ l, cx.A.frames = some l ∧ Frs W cx.d l) (hA : ArgR (cx.up cb) W vs fs) (hl : fs.length = d.ps.length) (hnd : (d.ps ++ d.vs).Nodup)
  (hf : env.frame = some env.locals) (hk : env.scope.kind = .function) (hcn : (env.cells.map (·.1)).Nodup) (hhas : ∀ y, env.kindOf y = some .cell → ∃ c, env.cells.lookup y = some c)
  (kp : ∀ b o, W.get b = some o → h₁.get? b = some o) (hL : W.h.objs.size ≤ env.locals) (hns : h₁.Ns env.locals mL) (hab : ∀ y c, (y, c) ∈ env.cells → env.locals < c) (hce : ∀ y c, env.cells.lookup y = some c → h₁.IsCell c (mC y))
  (hmL : ∀ (i : Nat) y v, d.ps[i]? = some y → vs[i]? = some v → env.kindOf y = some .local → mL y = some v) (hmC : ∀ (i : Nat) y v, d.ps[i]? = some y → vs[i]? = some v → env.kindOf y = some .cell → mC y = some v) :
  ∃ t', Le (cx.d + 1) (cx.d + 1) cb W ⟨t', h₁⟩ ∧ Sim (cx.callee cb d env) ⟨fs.map some ++ List.replicate d.vs.length none, p, 0⟩ ⟨t', h₁⟩ := by
 let X : Addr → Prop := fun b => b = env.locals ∨ ∃ y, (y, b) ∈ env.cells
 classical
 let t' : Tags := fun b => if X b then .loc (cx.d + 1) else W.t b
 have new : ∀ b, X b → W.get b = none := fun b hb => dead_at W.h (by
  rcases hb with rfl | ⟨y, hy⟩
  · exact hL
  · exact nlt hL (Nat.le_of_lt (hab y b hy)))
 have tX : ∀ {b}, X b → t' b = .loc (cx.d + 1) := fun h => if_pos h
 have tN : ∀ {b}, ¬ X b → t' b = W.t b := fun h => if_neg h
 have tA : ∀ {b o}, W.get b = some o → t' b = W.t b := fun {b o} g => tN fun q => by rw [new b q] at g; cases g
 have al : ∀ {b}, X b → ∃ o, h₁.get? b = some o ∧ Nf o := fun {b} hb => by
  rcases hb with rfl | ⟨y, hy⟩
  · obtain ⟨o, _, _, g, hd, _⟩ := hns; exact ⟨o, g, fun vs e => by cases hd.symm.trans e⟩
  · obtain ⟨o, g, hd⟩ := hce y b (lookup_nodup hcn hy); exact ⟨o, g, fun vs e => by cases hd.symm.trans e⟩
 have at' : ∀ {b o}, W.get b = some o → (Ws.mk t' h₁).get b = some o ∧ (Ws.mk t' h₁).t b = W.t b := fun g => ⟨kp _ _ g, tA g⟩
 have hz : Fz W ⟨t', h₁⟩ := fun b o h => by
  obtain ⟨t, g⟩ := z_in h
  exact z_of ((tA g).trans t) (kp b o g)
 have back : ∀ {b k}, t' b = .inst k → W.t b = .inst k := fun {b k} e => by
  by_cases q : X b
  · cases (tX q).symm.trans e
  · exact (tN q).symm.trans e
 have ok : Wok cx.T cb p ⟨t', h₁⟩ := by
  refine ⟨fun b e => ?_, fun b o e => ?_, fun k fl e => ?_, fun x y k h h' => K.uq x y k (back h) (back h'), fun hc x k h => K.cnt hc x k (back h), fun b o d t e => ?_⟩
  · have n : ¬ X b := fun q => by obtain ⟨o, g, _⟩ := al q; cases g.symm.trans e
    refine (tN n).trans (K.dead b ?_)
    cases g : W.get b with
    | none => rfl
    | some o => cases (kp b o g).symm.trans e
  · obtain ⟨e1, t1⟩ := K.top b o e
    exact ⟨kp b o e1, (tA e1).trans t1⟩
  · obtain ⟨q, P⟩ := K.pgs k fl e
    exact ⟨q, P.keep hz fun a o _ g => at' g⟩
  · by_cases q : X b
    · obtain ⟨o', g, n⟩ := al q; cases g.symm.trans e; exact n
    · have t := (tN q).symm.trans t
      cases g : W.get b with
      | none => cases (K.dead b g).symm.trans t
      | some o' => cases (kp b o' g).symm.trans e; exact K.lf b o d t g
 refine ⟨t', ⟨fun x o g _ => ⟨tA g, o.slots, kp x o g, fun _ => rfl⟩, fun _ x k e => back e⟩, ok, ⟨⟨mL, hns⟩, tX (.inl rfl), fun y c hy => ⟨⟨_, hce y c (lookup_nodup hcn hy)⟩, _, tX (.inr ⟨y, hy⟩), Nat.le_refl _, fun _ => rfl⟩, fun i g y h1 h2 h3 => ?_, ?_, fun q => nomatch q⟩⟩
 · have h1 := slot_start h1
   obtain ⟨v, hv, ht, hr⟩ := hA.get h1
   have hi : i < d.ps.length := hl ▸ (gsm h1).1
   have h2' : d.ps[i]? = some y := by
    have : (d.ps ++ d.vs)[i]? = some y := h2
    rwa [List.getElem?_append_left hi] at this
   have hr' : RepS (cx.up cb) ⟨t', h₁⟩ .junk v g := hr.keep hz (fun e => by rw [ht] at e; cases e) (fun a o _ g => at' g) fun a o k q g => ⟨(at' g).1, (at' g).2.trans q⟩
   refine ⟨v, ?_, RepS.tag (cx := cx.callee cb d env) hr' ht⟩
   rcases h3 with h3 | h3
   · exact .inl ⟨h3, _, hns, hmL i y v h2' hv h3⟩
   · obtain ⟨c, hc⟩ := hhas y h3
     exact .inr ⟨h3, c, hc, by have := hce y c hc; rwa [hmC i y v h2' hv h3] at this⟩
 · obtain ⟨l, hl1, hl2⟩ := F
   refine ⟨env :: l, by show cx.A.frames.map (env :: ·) = _; rw [hl1]; rfl, fun e he => ?_⟩
   rcases List.mem_cons.mp he with rfl | he
   · obtain ⟨o, _, _, g, _⟩ := hns
     exact ⟨(by rw [hk]; exact fun q => (nomatch q)), _, _, o, hf, tX (.inl rfl), Nat.le_refl _, g⟩
   · exact Frs.keep (Nat.le_succ _) (fun L d' o _ t g => ⟨(tA g).trans t, o, kp _ _ g⟩) hl2 e he
end
noncomputable abbrev Tab := List (Nat × FnDef)
noncomputable def Gam (P : Tab) : Nat → Nat → Fn
 | 0, _ => fun _ _ => .stuck
 | n + 1, k => match P.lookup k with
  | some d => runDef (Gam P n) d.ps.length d.vs.length d.body
  | none => fun _ _ => .stuck
theorem gam_s {P : Tab} {n k : Nat} {d : FnDef} (h : P.lookup k = some d) : Gam P (n + 1) k = runDef (Gam P n) d.ps.length d.vs.length d.body := by
 show (match P.lookup k with | some d => _ | none => _) = _
 rw [h]
structure Room (n : Nat) (A : Around) : Prop where
 hand : A.handled = none
 units : A.units + 10 * n + 210 < cLine
 depth : A.depth + 4 * n + 24 < recursionLimit
section
variable {cx : Cx} {cb : Bool} {W W' : Ws} {d : FnDef} {f : Addr} {o : Obj} {fd : FuncData} {body : List Stmt} {Γ : Nat → Fn} {fs : List F} {vs : List Value} {v : Value} {g : F} {i n : Nat}
theorem def_ok (TO : cx.T.Ok) (FA : FnAt cx.T d f o fd body) (hR : Room n cx.A) (hb : ∀ env, env.scope = fd.scope → (cx.callee cb d env).Ok cb → (cx.callee cb d env).Full → SSs Γ (cx.callee cb d env) d.body body) : FnOk cx cb f (runDef Γ d.ps.length d.vs.length d.body) := fun W tk vs fs p R K F hA H => by
 unfold runDef at H
 by_cases hl : fs.length = d.ps.length
 case neg => rw [if_neg hl] at H; exact H.elim
 rw [if_pos hl] at H
 have kp : ∀ b o, cx.T.s.heap.get? b = some o → W.h.get? b = some o := fun b o e => (K.top b o e).1
 have hk : ∀ x ∈ d.ps.zip vs, fd.scope.names.lookup x.1 = some .local ∨ (fd.scope.names.lookup x.1 = some .cell ∧ ((cellsFrom (W.h.objs.size + 1) fd.scope.names []).lookup x.1).isSome = true) := fun x hx =>
  (FA.par x.1 (List.of_mem_zip hx).1).imp id fun q => ⟨q, by
   obtain ⟨c, hc⟩ := cells_mem (n := W.h.objs.size + 1) (acc := []) (.inl q)
   rw [lookup_nodup (by rw [cellsFrom_fst (m := 0) (acc' := []) rfl]; exact FA.cells) hc]; rfl⟩
 refine codeAny_call_cells (s := sh cx.T W tk) (Nat.lt_of_le_of_lt (nlt (Nat.le_add_right _ (4 * n)) (Nat.le_add_right _ 24)) hR.depth) (kp _ _ FA.at_) FA.data (TO.lim.keeps kp) (FA.code.keeps kp) FA.bd (FA.bind vs (hA.length.trans hl)) FA.clo hk (fun s₁ X => ?_) FA.co FA.gen FA.kind
 generalize hE : callEnvC fd (sh cx.T W tk).heap.objs.size f = env at X ⊢
 obtain ⟨h₁, tk₁, rfl, hk₁⟩ := X.done
 have eC : env.cells = cellsFrom (W.h.objs.size + 1) fd.scope.names [] := by rw [← hE]; rfl
 have eS : env.scope = fd.scope := by rw [← hE]; rfl
 have hcn : (env.cells.map (·.1)).Nodup := by rw [eC, cellsFrom_fst (m := 0) (acc' := []) rfl]; exact FA.cells
 have hps : d.ps.Nodup := (List.nodup_append.mp FA.nodup).1
 have hhas : ∀ y, env.kindOf y = some .cell → ∃ c, env.cells.lookup y = some c := fun y hy => by
  have hy : fd.scope.names.lookup y = some .cell := eS ▸ (show env.scope.names.lookup y = some .cell from hy)
  obtain ⟨c, hc⟩ := cells_mem (n := W.h.objs.size + 1) (acc := []) (.inl hy)
  exact ⟨c, lookup_nodup hcn (eC ▸ hc)⟩
 obtain ⟨t', l1, S1⟩ := enter_ok (d := d) (env := env) K F hA hl FA.nodup (by rw [← hE]; rfl) (by rw [eS]; exact FA.kind) hcn hhas hk₁ X.toInCall.fresh X.toInCall.ns X.above X.cell (fun i y v h1 h2 h3 => bindL_at hps h1 h2 h3) (fun i y v h1 h2 h3 => bindC_at hps h1 h2 h3)
 have Cok : (cx.callee cb d env).Ok cb := ⟨id, by show env.scope.kind = _; rw [eS]; exact FA.kind, by rw [← hE]; exact FA.gl, by rw [← hE]; exact FA.bl, fun _ => hR.hand, Nat.lt_of_le_of_lt (by show cx.A.units + 3 + 200 ≤ cx.A.units + 10 * n + 210; lia) hR.units, Nat.lt_of_le_of_lt (by show cx.A.depth + 1 + 20 ≤ cx.A.depth + 4 * n + 24; lia) hR.depth⟩
 have Fu : (cx.callee cb d env).Full := ⟨rfl, fun y z c h1 h2 => name_of_addr X.apart h1 h2, fun i j y h1 h2 => by
  obtain ⟨l1, e1⟩ := gsm h1
  obtain ⟨l2, e2⟩ := gsm h2
  exact (List.getElem_inj FA.nodup).mp (e1.trans e2.symm), hhas, let ⟨l, h, _⟩ := F; ⟨l, by show cx.A.frames.map (env :: ·) = _; rw [h]; rfl⟩, by rw [← hE]; rfl⟩
 refine hb env eS Cok Fu _ ⟨t', h₁⟩ S1 tk₁ _ _ ?_
 obtain ⟨l, hl1, hl2⟩ := F
 cases hex : ex Γ d.body ⟨fs.map some ++ List.replicate d.vs.length none, p, 0⟩ with
 | stuck => rw [hex] at H; exact H.elim
 | exc k st' =>
  rw [hex] at H
  intro W' tk' e l' S' fl
  refine Fly.leave (cx := cx.callee cb d env) (cx' := cx) (l := l) fl S'.ok.lf S'.ok.dead (by show cx.A.frames.map (env :: ·) = _; rw [hl1]; rfl) (by rw [← hE]; rfl) rfl hl1 fun h' s fl' => ?_
  exact H ⟨W'.t, h'⟩ tk' e (l1.trans (l'.trans s.le)) (s.ok S'.ok) fl'
 | ok fl st' =>
  rw [hex] at H
  intro W' tk' w l' S' r
  cases fl with
  | next =>
   cases show w = .next from r
   exact H W' tk' .none (l1.trans l') S'.ok (show Rep W' .none .none from .none) rfl
  | ret g =>
   obtain ⟨v, rfl, r, hg⟩ := r
   refine H W' tk' v (l1.trans l') S'.ok ?_ hg
   cases g with
   | val d => exact r
   | own xs => exact r
   | _ => cases hg
end
noncomputable def RT (T : List Value → Shared → Prop) (E : VP) (r : Result) (s : Shared) : Prop := match r with
 | .ok (.ret v) => T [v] s
 | .ok _ => False
 | .error e => E e s
section
variable {cx : Cx} {cb : Bool} {T : List Value → Shared → Prop} {E : VP} {st : St} {W W' : Ws} {b tk k : Nat} {v : Value} {f g : F} {e : Expr} {a : CE} {p : Pl} {fs as : List F} {vs : List Value} {fa : Addr} {φ : Fn} {pure : Bool}
theorem Sim.took (b : Nat) (cb c : Bool) (S : Sim cx st W) (r : RepA (cx.up c) W v g) (hg : g.isRet = true) : ∃ t', Le cx.d b cb W ⟨t', W.h⟩ ∧ Sim cx st ⟨t', W.h⟩ ∧ RepA cx ⟨t', W.h⟩ v g := by
 cases g with
 | val d => exact ⟨W.t, Le.refl, S, r⟩
 | own xs =>
  obtain ⟨a, vs, rfl, ⟨n, g⟩, q, r⟩ := r
  have B := But.tag W a (.own cx.d 0)
  have q : W.t a = .own (cx.d + 1) 0 := q
  have hz : Fz W _ := B.fz (by rw [q]; exact Tag.noConfusion)
  exact ⟨_, B.le (.of (by rw [q]; exact dtt (Nat.le_succ _))) (put_ni rfl), S.but B (by rw [q]; exact dtt (Nat.le_succ _)) (by rw [q]; rfl) (fun i e => nomatch (Tag.own.inj (q.symm.trans e)).2) (fun e => nomatch (g.symm.trans e)) (put_ni rfl),
   a, vs, rfl, ⟨n, g⟩, Tags.put_self .., r.mono hz⟩
 | _ => cases hg
theorem args_rep {c : Bool} (hc : c = true → cx.c = true) (S : Sim cx st W) (r : RepL cx W vs fs) (h : args st.v fs = some as) : ArgR (cx.up c) W vs as := by
 induction fs generalizing vs as with
 | nil => cases vs with
  | nil => cases h; trivial
  | cons _ _ => exact r.elim
 | cons f fs ih =>
  cases vs with
  | nil => exact r.elim
  | cons v vs =>
   cases f with
   | val d =>
    obtain ⟨l, hl, rfl⟩ := msm h
    exact ⟨⟨rfl, r.1⟩, ih r.2 hl⟩
   | pg k =>
    obtain ⟨l, hl, rfl⟩ := msm h
    exact ⟨⟨rfl, r.1⟩, ih r.2 hl⟩
   | lnd i =>
    obtain ⟨g, hg, h⟩ := bsm h
    obtain ⟨l, hl, rfl⟩ := msm h
    obtain ⟨y, h1, h2, h3⟩ := r.1
    obtain ⟨g', hg'⟩ := seen_of hg
    obtain ⟨u, hu, q⟩ := S.fr.vals i g' y hg' h1 h2
    cases h3.uniq hu
    exact ⟨⟨seen_tmp hg, RepS.seen (cx := cx) (cx' := cx.up c) rfl (Nat.lt_succ_self _) hc q (hg' ▸ hg)⟩, ih r.2 hl⟩
   | _ => exact nos h
theorem call_core {c : Bool} (hc : c = true → cx.c = true) (hcb : c = true → cb = true) (hcc : pure = !c) (K : FnOk cx c fa φ) (S : Sim cx st W) (hA : ArgR (cx.up c) W vs as) (H : Post cx (cx.d + 1) cb (RepL cx) W T E (outE pure (φ (pgsOf pure st) as) st)) :
  codeAny (model cx.T.prog cx.T.w) cx.A (.call (.ref fa) ⟨vs, []⟩) (RT T E) (sh cx.T W tk) := by
 have key : ∀ {p W'}, Le (cx.d + 1) (cx.d + 1) c W W' → Wok cx.T c p W' → Le cx.d (cx.d + 1) cb W W' ∧ Sim cx (if pure then st else { st with p := p }) W' := fun {p W'} l K' => by
  refine ⟨l.mono (Nat.le_succ _) (Nat.le_refl _) hcb, ?_⟩
  have fr := S.fr.le l (Nat.lt_succ_self _) (Nat.lt_succ_self _) hc
  cases c with
  | false => cases hcc; exact ⟨S.ok.le l K', fr⟩
  | true => cases hcc; exact ⟨by rw [hc rfl]; exact K', fr⟩
 refine K W tk vs as (pgsOf pure st) (RT T E) ?_ S.fr.frs hA ?_
 · cases c with
   | false => cases hcc; exact ⟨S.ok.dead, S.ok.top, fun k fl e => (nomatch e), S.ok.uq, fun q => (nomatch q), S.ok.lf⟩
   | true => cases hcc; have := S.ok; rw [hc rfl] at this; exact this
 · cases hr : φ (pgsOf pure st) as with
   | stuck => rw [hr] at H; exact H.elim
   | exc k p =>
    rw [hr] at H
    intro W' tk' e l K' fl
    obtain ⟨l', S'⟩ := key l K'
    exact H W' tk' e l' S' fl
   | ret g p =>
    rw [hr] at H
    intro W' tk' v l K' r hg
    obtain ⟨l', S'⟩ := key l K'
    obtain ⟨t', l2, S2, r2⟩ := S'.took (cx.d + 1) cb c r hg
    exact one_ok (W' := ⟨t', W'.h⟩) H (l'.trans l2) S2 r2
end
end Mine.Internal
end
section
namespace Mine.Internal
open PySem.W (findIn clsIn plainOver takerIn InstAt typeIn findObj lookIn handedIn)
structure FnIs (cx : Cx) (c : Bool) (fa : Addr) (φ : Fn) : Prop where
 at_ : ∃ o fd, cx.T.s.heap.get? fa = some o ∧ o.data = .func fd
 ok : FnOk cx c fa φ
section
variable {prog : Program} {w : World} {A : Around} {E : VP} {s : Shared} {env : Env}
theorem Call_own {o : Expr} {name : Str} {apos pos : Pos} {args : List Expr} {Q : VP}
  (hbase : attributeBase o name env (eval o env) = eval o env)
  (hfew : ((backTo pos (starEach args env)).all (fun x => !x.1) && (backToKw pos (keywordEach [] env)).all (fun x => x.1.isSome)
   && decide (args.length + ([] : List Keyword).length + (if ([] : List Keyword).isEmpty then 0 else 1) < 30)) = true)
  (hline : (apos.endLine == pos.line) = true)
  (h : wpAny (model prog w) A (eval o env) (fun ov s₁ => ∀ pl, wpAny (model prog w) A (getMethod ov name pl) (fun fm s₂ => wpAny (model prog w) A (callWith pos fm.1 fm.2 (backTo pos (starEach args env)) []) Q E s₂) E s₁) E s) :
  wpAny (model prog w) A (eval (.Call (.Attribute o name apos) args [] pos) env) Q E s := by
 rw [arm_eval_Call, hbase]
 refine wpAny_bind (wpAny_mono h (fun ov s₁ h₁ => ?_) fun _ _ e => e)
 refine wpAny_bind (wpAny_standAt ?_)
 have hform : methodCallForm (args.length + ([] : List Keyword).length) (backTo pos (starEach args env)) (backToKw pos (keywordEach [] env)) = true := hfew
 have hpos : methodCallPos true o env apos pos = pure pos := by unfold methodCallPos; simp [hline]
 unfold methodCall
 rw [hform]
 refine wpAny_bind (wpAny_holding (wpAny_mono (h₁ _) (fun fm s₂ h₂ => ?_) fun _ _ e => e))
 exact wpAny_bind (wpAny_of_eq hpos h₂)
end
section
variable {Γ : Nat → Fn} {cx : Cx} {cb : Bool} {T : List Value → Shared → Prop} {E : VP} {st : St} {W W' : Ws} {b tk k : Nat} {v : Value} {f g : F} {e x : Expr} {es : List Expr} {a r : CE} {p : Pl} {fs as : List F} {vs : List Value} {fa : Addr} {φ : Fn} {pure : Bool} {y : Str} {pos : Pos}
theorem args_nil (hx : es.all plainX = true) (h : seqW cx E es T (sh cx.T W tk)) : wpX cx (evalArgs v true (backTo pos (starEach es cx.env)) []) (fun x s => x.kw = [] ∧ T x.pos s) E (sh cx.T W tk) := by
 cases es with
 | nil => exact evalArgs_empty ⟨rfl, h⟩
 | cons e es =>
  obtain ⟨x, r, h3⟩ := args_cons (cx := cx) (pos := pos) hx rfl
  have h1 := seq_spliced (pos := pos) hx h
  rw [h3] at h1 ⊢
  exact evalArgs_plain (wpAny_mono h1 (fun _ _ q => ⟨rfl, q⟩) fun _ _ q => q)
theorem few_of (hx : es.all plainX = true) (hl : es.length < 20) : ((backTo pos (starEach es cx.env)).all (fun x => !x.1) && (backToKw pos (keywordEach [] cx.env)).all (fun x => x.1.isSome)
   && decide (es.length + ([] : List Keyword).length + (if ([] : List Keyword).isEmpty then 0 else 1) < 30)) = true := by
 have h2 : (backTo pos (starEach es cx.env)).all (fun x => !x.1) = true := by
  have := args_any (cx := cx) (pos := pos) hx
  rw [List.any_eq_false] at this
  exact List.all_eq_true.mpr fun x hm => by simpa using this x hm
 rw [h2]
 show (true && (true && _)) = true
 exact dtt (Nat.lt_of_lt_of_le hl (by decide))
theorem fn_with {us : List Value} (FI : FnIs cx (!pure) fa φ) (hx : es.all plainX = true) (hcx : pure = false → cx.c = true)
  (h : seqW cx E es (fun vs s => ∃ st W tk as, s = sh cx.T W tk ∧ Sim cx st W ∧ ArgR (cx.up (!pure)) W (us ++ vs) as ∧ (pure = false → cb = true) ∧ Post cx (cx.d + 1) cb (RepL cx) W T E (outE pure (φ (pgsOf pure st) as) st)) (sh cx.T W tk)) :
  wpX cx (callWith pos (.ref fa) us (backTo pos (starEach es cx.env)) []) (fun v s => T [v] s) E (sh cx.T W tk) := by
 obtain ⟨o, fd, h1, h2⟩ := FI.at_
 refine callWith_function (o := o) (fd := fd) (wpAny_mono (args_nil hx h) (fun x s q => ?_) fun _ _ q => q)
 obtain ⟨q0, st, W, tk, as, rfl, S, hA, hcb, H⟩ := q
 refine ⟨⟨S.keeps _ _ h1, h2⟩, ?_⟩
 rw [q0]
 have nt : ∀ {P : Prop}, (pure = false → P) → (!pure) = true → P := fun h q => h (by cases pure; rfl; cases q)
 exact wpAny_call (codeAny_mono (call_core (nt hcx) (nt hcb) (by cases pure <;> rfl) FI.ok S hA H) fun r s h => by
  rcases r with e | (v | _ | _ | _) <;> first | exact h | exact h.elim)
theorem callE_some {n : Nat} (H : Post cx b cb (RepL cx) W T E (callE Γ pure k fs st)) : ∃ as, args st.v fs = some as ∧ Post cx b cb (RepL cx) W T E (outE pure (Γ k (pgsOf pure st) as) st) := by
 unfold callE at H
 cases h : args st.v fs with
 | none => rw [h] at H; exact H.elim
 | some as => rw [h] at H; exact ⟨as, rfl, H⟩
theorem eff_pure {P : Prop} {q : Bool} (h : (q || !pure) = true → P) : pure = false → P := fun e => h (by rw [e]; exact Bool.or_true _)
theorem s_call (TO : cx.T.Ok) (C : cx.Ok cb) (hm : cx.T.mg y = some (.ref fa)) (FI : FnIs cx (!pure) fa (Γ k)) (hcx : pure = false → cx.c = true) (hp : call1 cx.env.scope.names y e = some es) (ha : SL Γ cx cb a es) : SL Γ cx cb (.call pure k a) [e] := fun hf st W S tk T E H => by
 obtain ⟨f, pf, p, rfl, hg, hx, h0⟩ := call1_some hp
 refine Call_Name rfl (load_glob TO C S hg hm (fn_with (us := []) (cb := cb) FI hx hcx (ha (or_left hf) st W S tk _ E (Post.bind' H fun x st1 W1 tk1 vs l1 S1 r1 H1 => ?_))))
 obtain ⟨as, h1, H2⟩ := callE_some (n := 0) H1
 exact ⟨st1, W1, tk1, as, rfl, S1, args_rep (fun q => hcx (by cases pure; rfl; cases q)) S1 r1 h1, eff_pure hf, H2⟩
theorem s_callP (TO : cx.T.Ok) (C : cx.Ok cb) (PC : isFld p = true → PgCls cx.T) (hm : cx.T.mg y = some (.ref fa)) (FI : FnIs cx false fa (Γ k)) (hp : call1 cx.env.scope.names y e = some [x]) (hx : mPl cx.nm cx.env.scope.names p x = true) : SL Γ cx cb (.callP k p) [e] := fun hf st W S tk T E H => by
 obtain ⟨f, pf, p', rfl, hg, hxx, h0⟩ := call1_some hp
 replace H : Post cx (cx.d + 1) cb (RepL cx) W T E (match seen (getP st p) with | some f => outE true (Γ k [] [f]) st | none => .stuck) := H
 cases hs : seen (getP st p) with
 | none => rw [hs] at H; exact H.elim
 | some f =>
  rw [hs] at H
  obtain ⟨g, hg'⟩ := seen_of hs
  refine Call_Name rfl (load_glob TO C S hg hm (fn_with (us := []) (pure := true) (cb := cb) FI hxx (fun q => nomatch q) (load_pl C PC S hx hg' fun v t tk' P => ⟨st, W, tk', [f], rfl, S, ⟨⟨seen_tmp hs, ?_⟩, trivial⟩, fun q => (nomatch q), H⟩)))
  rw [hg'] at hs
  cases p with
  | loc i => obtain ⟨_, rfl, _, r⟩ := P; exact RepS.seen (cx := cx) (cx' := cx.up false) rfl (Nat.lt_succ_self _) (fun q => nomatch q) r hs
  | fld i j =>
   obtain ⟨n, P⟩ := P
   have r := P.r
   rw [P.tg] at r
   cases g with
   | val d => cases hs; exact r
   | own xs => cases hs; obtain ⟨a, vs, e, ⟨n, q⟩, ht, hr⟩ := r; exact ⟨a, vs, e, ⟨_, q, rfl, n, rfl⟩, by rw [ht]; rfl, hr⟩
   | dct es => cases hs
   | _ => exact r.elim
theorem PgAt.meth {T : Tp} {A : Around} {k : Nat} {fl : Slots} {n : PI} {name : Str} {pl : Sem Bool} {Q : Value × List Value → Shared → Prop} (PC : PgCls T) (P : PgAt T W k fl n) (K : PySem.W.Frag.In T.pk W.h) (hf : findIn T.pk (.ref T.pc) name = some (some (.ref fa))) (ht : typeIn T.pk (.ref fa) = some (.type "function"))
  (hn : ∀ j, j < 6 → name ≠ fldN j) (h : Q (.ref fa, [.ref n.a]) (sh T W tk)) : wpAny (model T.prog T.w) A (getMethod (.ref n.a) name pl) Q E (sh T W tk) := by
 obtain ⟨od, g, hl⟩ := lookIn_ns P.ns
 have I : InstAt W.h n.a (instO T.pc n.da) T.pc (some od) := ⟨P.inst, rfl, rfl, g⟩
 refine PySem.W.method_fn (s := sh T W tk) K I PC.ga PC.hook hf ht ?_ h
 unfold PySem.W.shadowIn
 dsimp only
 rw [hl, P.oth name hn]; rfl
theorem isPg {x : List F} {f : Nat → R (List F)} (H : Post cx b cb (RepL cx) W T E (match x with | [.pg n] => f n | _ => .stuck)) : ∃ n, x = [.pg n] ∧ Post cx b cb (RepL cx) W T E (f n) := by
 cases x with
 | nil => exact H.elim
 | cons g x => cases x with
  | nil => cases g with
   | pg n => exact ⟨n, rfl, H⟩
   | _ => exact H.elim
  | cons _ _ => cases g <;> exact H.elim
theorem RepL.after (F : Frm cx st.v W) (l : Le cx.d (cx.d + 1) cb W W') (hc : cb = true → cx.c = true) {n : Nat} (h : RepA cx W v (.pg n)) : RepA cx W' v (.pg n) := h.mono F l hc rfl
theorem s_meth (TO : cx.T.Ok) (C : cx.Ok cb) (PC : PgCls cx.T) (hfn : findIn cx.T.pk (.ref cx.T.pc) y = some (some (.ref fa))) (hty : typeIn cx.T.pk (.ref fa) = some (.type "function")) (hnf : ∀ j, j < 6 → y ≠ fldN j) (FI : FnIs cx true fa (Γ k)) (hp : meth1 y e = some (x, es)) (hl : es.length < 20)
  (hbase : attributeBase x y cx.env (eval x cx.env) = eval x cx.env) (hr : SL Γ cx cb r [x]) (ha : SL Γ cx cb a es) : SL Γ cx cb (.meth k r a) [e] := fun hf st W S tk T E H => by
 obtain ⟨ap, p, rfl, hline, hx⟩ := meth1_some hp
 have hcb : cb = true := hf rfl
 have hcx := C.cb hcb
 refine Call_own hbase (few_of hx hl) hline (hr (fun _ => hcb) st W S tk (tw1 fun v s => ∀ pl, wpX cx (getMethod v y pl) (fun fm s₂ => wpX cx (callWith p fm.1 fm.2 (backTo p (starEach es cx.env)) []) (fun v s => T [v] s) E s₂) E s) E (Post.bind' H fun q st1 W1 tk1 vs l1 S1 r1 H1 => ?_))
 obtain ⟨n, rfl, HH⟩ := isPg (f := fun n => (ev Γ a st1).bind fun y st => callE Γ false k (.pg n :: y) st) H1
 obtain ⟨v, rfl, rr⟩ := r1.one
 intro pl
 obtain ⟨aa, o, rfl, g, q⟩ := id rr
 have hlt := S1.ok.cnt hcx _ _ q
 obtain ⟨pi, P, rfl⟩ := S1.ok.inst_at (geg hlt) g q
 refine P.meth PC (PC.kin.keeps S1.keeps) hfn hty hnf (fn_with (us := [.ref pi.a]) (pure := false) (cb := cb) FI hx (fun _ => hcx) (ha (fun _ => hcb) st1 W1 S1 tk1 _ E (Post.bind' HH fun z st2 W2 tk2 vs l2 S2 r2 H2 => ?_)))
 obtain ⟨as, h1, H3⟩ := callE_some (n := 0) H2
 exact ⟨st2, W2, tk2, as, rfl, S2, args_rep (c := true) (fun _ => hcx) S2 (vs := .ref pi.a :: vs) (fs := .pg n :: z) ⟨RepL.after S1.fr l2 C.cb rr, r2⟩ h1, fun _ => hcb, H3⟩
end
end Mine.Internal
end
section
namespace Mine.Internal
open PySem.W (findIn clsIn plainOver takerIn InstAt typeIn findObj lookIn handedIn instObj emptyDict InitBack)
section
variable {Γ : Nat → Fn} {cx : Cx} {cb : Bool} {T : List Value → Shared → Prop} {E : VP} {st : St} {W W' : Ws} {b tk k : Nat} {v : Value} {f g : F} {e x : Expr} {es : List Expr} {a r : CE} {p : List Slots} {fs as : List F} {vs : List Value} {fa : Addr} {TT : Tp}
noncomputable def Ws.page (W : Ws) (C : Addr) (k : Nat) : Ws := ⟨(W.t.put W.h.objs.size (.pgd k)).put (W.h.objs.size + 1) (.inst k), (W.h.push emptyDict).push (instObj C W.h.objs.size)⟩
theorem page_at (C : Addr) {x : Addr} {o : Obj} (g : W.get x = some o) : (W.page C k).get x = some o ∧ (W.page C k).t x = W.t x := by
 have h := Heap.lt_size g
 exact ⟨Heap.get?_push_of_some _ (Heap.get?_push_of_some _ g), (Tags.put_ne (Nat.ne_of_lt (Nat.lt_succ_of_lt h))).trans (Tags.put_ne (Nat.ne_of_lt h))⟩
theorem page_i (C : Addr) : (W.page C k).get (W.h.objs.size + 1) = some (instO C W.h.objs.size) := by
 have := Heap.get?_push_size (W.h.push emptyDict) (o := instObj C W.h.objs.size) rfl
 rw [Heap.size_push] at this; exact this
theorem page_d (C : Addr) : (W.page C k).get W.h.objs.size = some emptyDict := Heap.get?_push_of_some _ (Heap.get?_push_size W.h rfl)
theorem page_it (C : Addr) : (W.page C k).t (W.h.objs.size + 1) = .inst k := Tags.put_self ..
theorem page_dt (C : Addr) : (W.page C k).t W.h.objs.size = .pgd k := (Tags.put_ne (Nat.ne_of_lt (Nat.lt_succ_self _))).trans (Tags.put_self ..)
theorem page_t (C : Addr) {x : Addr} (h1 : x ≠ W.h.objs.size + 1) (h2 : x ≠ W.h.objs.size) : (W.page C k).t x = W.t x := (Tags.put_ne h1).trans (Tags.put_ne h2)
theorem page_le {a b : Nat} (C : Addr) : Le a b true W (W.page C k) := ⟨fun x o g _ => let ⟨e, t⟩ := page_at C g; ⟨t, o.slots, e, fun _ => rfl⟩, fun q => nomatch q⟩
theorem page_fz (C : Addr) : Fz W (W.page C k) := (page_le (a := 0) (b := 0) C).fz
theorem page_ok (K : Wok TT true p W) : Wok TT true (p ++ [List.replicate 6 none]) (W.page TT.pc p.length) := by
 have hin : ∀ {x i}, (W.page TT.pc p.length).t x = .inst i → (x = W.h.objs.size + 1 ∧ i = p.length) ∨ W.t x = .inst i := fun {x i} h => by
  by_cases h1 : x = W.h.objs.size + 1
  · subst h1; cases (page_it TT.pc).symm.trans h; exact .inl ⟨rfl, rfl⟩
  · by_cases h2 : x = W.h.objs.size
    · subst h2; cases (page_dt TT.pc).symm.trans h
    · exact .inr ((page_t TT.pc h1 h2).symm.trans h)
 refine ⟨fun b e => ?_, fun b o e => ?_, fun i fl e => ?_, fun x y i h h' => ?_, fun _ x i h => ?_, fun b o d t e => ?_⟩
 · have h1 : b ≠ W.h.objs.size + 1 := fun q => by rw [q] at e; cases (page_i TT.pc).symm.trans e
   have h2 : b ≠ W.h.objs.size := fun q => by rw [q] at e; cases (page_d TT.pc).symm.trans e
   refine (page_t TT.pc h1 h2).trans (K.dead b ?_)
   cases g : W.get b with
   | none => rfl
   | some o => cases (page_at TT.pc g).1.symm.trans e
 · obtain ⟨e1, t1⟩ := K.top b o e
   exact ⟨(page_at TT.pc e1).1, (page_at TT.pc e1).2.trans t1⟩
 · rcases Nat.lt_or_ge i p.length with q | q
   · rw [List.getElem?_append_left q] at e
     obtain ⟨pi, P⟩ := K.pgs i fl e
     exact ⟨pi, P.keep (page_fz TT.pc) fun a o _ g => page_at TT.pc g⟩
   · rw [List.getElem?_append_right q] at e
     obtain ⟨hi, rfl⟩ : i = p.length ∧ fl = List.replicate 6 none := by
      cases hz : i - p.length with
      | zero => rw [hz] at e; cases e; exact ⟨Nat.le_antisymm (Nat.sub_eq_zero_iff_le.mp hz) q, rfl⟩
      | succ m => rw [hz] at e; cases e
     subst hi
     refine ⟨⟨W.h.objs.size + 1, W.h.objs.size, fun _ => none⟩, page_i _, page_it _, page_dt _, ⟨_, _, _, page_d _, rfl, fun x hx => ?_, ?_⟩, fun j f hj h => ?_, fun _ _ => rfl, rfl⟩
     · exact absurd hx (by simp)
     · exact ⟨List.Pairwise.nil, fun _ => rfl⟩
     · exfalso
       unfold slot at h
       rw [List.getElem?_replicate, if_pos hj] at h; cases h
 · rcases hin h with ⟨rfl, rfl⟩ | h <;> rcases hin h' with ⟨rfl, q⟩ | h'
   · rfl
   · exact absurd (K.cnt rfl _ _ h') (Nat.lt_irrefl _)
   · subst q; exact absurd (K.cnt rfl _ _ h) (Nat.lt_irrefl _)
   · exact K.uq x y i h h'
 · rw [lap]
   rcases hin h with ⟨_, rfl⟩ | h
   · exact Nat.lt_succ_self _
   · exact Nat.lt_succ_of_lt (K.cnt rfl x i h)
 · by_cases h1 : b = W.h.objs.size + 1
   · subst h1; cases (page_it TT.pc).symm.trans t
   · by_cases h2 : b = W.h.objs.size
     · subst h2; cases (page_dt TT.pc).symm.trans t
     · rw [page_t TT.pc h1 h2] at t
       cases g : W.get b with
       | none => cases (K.dead b g).symm.trans t
       | some o' => cases (page_at TT.pc g).1.symm.trans e; exact K.lf b o d t g
theorem ArgR.keep (hz : Fz W W') (hk : ∀ a o, W.get a = some o → W'.get a = some o ∧ W'.t a = W.t a) (h : ArgR cx W vs fs) : ArgR cx W' vs fs := by
 induction fs generalizing vs with
 | nil => cases vs with
  | nil => trivial
  | cons _ _ => exact h.elim
 | cons f fs ih => cases vs with
  | nil => exact h.elim
  | cons v vs => exact ⟨⟨h.1.1, h.1.2.keep hz (fun e => by rw [h.1.1] at e; cases e) (fun a o _ g => hk a o g) fun a o k q g => ⟨(hk a o g).1, (hk a o g).2.trans q⟩⟩, ih h.2⟩
noncomputable def Cx.by (cx : Cx) (vs : List Value) : Cx := { cx with A := cx.A.under (.builtin "type.__call__" ⟨.ref cx.T.pc :: vs, []⟩) }
theorem by_frames : (cx.by vs).A.frames = cx.A.frames := by
 show pushEnvs (Code.envs (.builtin "type.__call__" ⟨.ref cx.T.pc :: vs, []⟩)) cx.A.frames = _
 cases cx.A.frames <;> rfl
theorem ArgR.by {us : List Value} (h : ArgR (cx.up cb) W vs fs) : ArgR ((cx.by us).up cb) W vs fs := by
 induction fs generalizing vs with
 | nil => cases vs <;> exact h
 | cons f fs ih => cases vs with
  | nil => exact h
  | cons v vs => exact ⟨⟨h.1.1, by cases f <;> exact h.1.2⟩, ih h.2⟩
theorem s_new (TO : cx.T.Ok) (C : cx.Ok cb) (PC : PgCls cx.T) (hi : findIn cx.T.pk (.ref cx.T.pc) "__init__" = some (some (.ref fa))) (hty : typeIn cx.T.pk (.ref fa) = some (.type "function")) (FI : ∀ vs, FnOk (cx.by vs) true fa (Γ 0)) (hp : call1 cx.env.scope.names "Page" e = some es) (ha : SL Γ cx cb a es) : SL Γ cx cb (.new a) [e] := fun hf st W S tk T E H => by
 obtain ⟨f, pf, p, rfl, hg, hx, h0⟩ := call1_some hp
 have hcb : cb = true := hf rfl
 have hcx := C.cb hcb
 refine Call_Name rfl (load_glob TO C S hg PC.glob (PySem.W.callWith_of (P := PySem.W.Frag.In cx.T.pk) (by rw [args_any (cx := cx) (pos := p) hx]; rfl) (PySem.W.keeps_K PC.keep) (wpAny_mono (args_nil hx (ha (fun _ => hcb) st W S tk (fun vs s => PySem.W.Frag.In cx.T.pk s.heap ∧ wpX cx (call (.ref cx.T.pc) vs) (fun v s => T [v] s) E s) E (Post.bind' H fun x st1 W1 tk1 vs l1 S1 r1 H1 => ?_))) (fun x s q => by obtain ⟨q0, q1, q2⟩ := q; rw [q0]; exact ⟨q1, q2⟩) fun _ _ q => q)))
 have KI := PC.kin.keeps S1.keeps
 refine ⟨KI, wpAny_call (PySem.W.make_core (g := cx.T.s.gens) (d := cx.T.s.drawn) (t := tk1) (os := cx.T.s.os) (h := W1.h) (PySem.W.makes_of KI PC.makes) (PySem.W.looks_findIn KI hi) (fun self => PySem.W.bind_fn KI self hty) (.inl rfl) ?_)⟩
 unfold newE at H1
 cases hA : args st1.v x with
 | none => rw [hA] at H1; exact H1.elim
 | some as =>
  rw [hA] at H1
  dsimp only at H1
  have hA' := args_rep (c := true) (fun _ => hcx) S1 r1 hA
  have ok := S1.ok
  rw [hcx] at ok
  have ok1 := page_ok ok
  have lp : Le cx.d (cx.d + 1) cb W1 (W1.page cx.T.pc st1.p.length) := hcb ▸ page_le cx.T.pc
  have key : ∀ {p W'}, Le (cx.d + 1) (cx.d + 1) true (W1.page cx.T.pc st1.p.length) W' → Wok cx.T true p W' → Le cx.d (cx.d + 1) cb W1 W' ∧ Sim cx { st1 with p := p } W' := fun {p W'} l K' =>
   ⟨lp.trans (l.mono (Nat.le_succ _) (Nat.le_refl _) fun _ => hcb), by rw [hcx]; exact K', (S1.fr.le (page_le (a := cx.d + 1) (b := cx.d + 1) cx.T.pc) (Nat.lt_succ_self _) (Nat.lt_succ_self _) fun _ => hcx).le l (Nat.lt_succ_self _) (Nat.lt_succ_self _) fun _ => hcx⟩
  refine FI vs (W1.page cx.T.pc st1.p.length) tk1 (.ref (W1.h.objs.size + 1) :: vs) (.pg st1.p.length :: as) (st1.p ++ [List.replicate 6 none]) _ ok1 ?_ ⟨⟨rfl, _, _, rfl, page_i _, page_it _⟩, ?_⟩ ?_
  · obtain ⟨l, h1, h2⟩ := S1.fr.frs
    exact ⟨l, by_frames.trans h1, h2.keep (Nat.le_refl _) fun L d' o _ t g => ⟨(page_at cx.T.pc g).2.trans t, o, (page_at cx.T.pc g).1⟩⟩
  · exact hA'.by.keep (page_fz cx.T.pc) fun a o g => page_at cx.T.pc g
  · cases hr : Γ 0 (st1.p ++ [List.replicate 6 none]) (.pg st1.p.length :: as) with
    | stuck => rw [hr] at H1; exact H1.elim
    | exc k p =>
     rw [hr] at H1
     intro W' tk' e l K' fl
     obtain ⟨l', S'⟩ := key l K'
     obtain ⟨B, l0, q1, q2⟩ := fl
     exact H1 W' tk' e l' S' ⟨B, l0, by_frames.symm.trans q1, q2⟩
    | ret g p =>
     rw [hr] at H1
     intro W' tk' v l K' r hg
     cases g with
     | own xs => exact H1.elim
     | val d =>
      cases d with
      | none =>
       obtain ⟨l', S'⟩ := key l K'
       cases show v = .none from Rep.inv (d := .none) r
       obtain ⟨g', t'⟩ := l.fix (page_i cx.T.pc) (by rw [page_it]; rfl) (by rw [page_it]; rfl)
       exact ⟨rfl, one_ok (cx := cx) (f := .pg st1.p.length) (st := { st1 with p := p }) H1 l' S' ⟨_, _, rfl, g', t'.trans (page_it _)⟩⟩
      | _ => exact H1.elim
     | _ => cases hg
end
end Mine.Internal
end
section
namespace Mine.Internal
structure XcAt (T : Tp) (k : Nat) (C : Addr) (bm : List Value) (newId initId : String) : Prop where
 xc : T.xc k = .ref C
 own : OwnClsQ (xcN k) C bm newId T.mg T.s.heap
 base : ExcBaseFacts "ValueError" newId initId bm
 top : bm.contains (.type "BaseException") = true
noncomputable def XcOk (T : Tp) : Prop := ∀ k, k < 5 → ∃ C bm newId initId, XcAt T k C bm newId initId
section
variable {Γ : Nat → Fn} {cx : Cx} {st : St} {W : Ws} {k : Nat} {e C : Addr} {x : Str} {np cpos pos cp : Pos} {q : Str} {kk : Nat} {h' : Heap} {args : List Value}
theorem frames_of {d : Nat} {l : List Env} (lf : ∀ b o d, W.t b = .loc d → W.get b = some o → Nf o) (F : Frs W d l) : W.h.FunFrames (sub W.h fun a => !(W.t a).isLoc) l := by
 induction l with
 | nil => trivial
 | cons env l ih =>
  obtain ⟨k, L, d', o, h1, h2, _, h3⟩ := F env (.head _)
  refine ⟨k, ⟨L, o, h1, ?_, h3, lf L o d' h2 h3⟩, ih fun e he => F e (.tail _ he)⟩
  cases g : (sub W.h fun a => !(W.t a).isLoc).get? L with
  | none => rfl
  | some o' => have := (sub_get.mp g).1; rw [h2] at this; cases this
theorem Fly.made (S : Sim cx st W) (hx : Heap.MadeExcOf W.h h' e (cx.T.xc k) args) : Fly cx k e ⟨W.t, h'⟩ := by
 obtain ⟨l, h1, h2⟩ := S.fr.frs
 refine ⟨sub W.h fun a => !(W.t a).isLoc, l, h1, fun b o g hl n => ?_, ?_⟩
 rotate_left
 · obtain ⟨t, he, _⟩ := hx.there
   refine ⟨fun b o g => hx.keeps b o (sub_get.mp g).2, ?_, (frames_of S.ok.lf h2).of_keeps fun b o hb _ => ⟨o, hx.keeps b o hb, rfl⟩, _, _, he, rfl, rfl, rfl, .inl rfl⟩
   cases g : (sub W.h fun a => !(W.t a).isLoc).get? e with
   | none => rfl
   | some o => cases hx.new.symm.trans (sub_get.mp g).2
 cases g' : W.get b with
 | none => exact absurd (S.ok.dead b g') n
 | some o' => cases (hx.keeps b o' g').symm.trans g; exact sub_get.mpr ⟨by rw [show W.t b = (Ws.mk W.t h').t b from rfl, hl]; rfl, g'⟩
theorem s_raise {bm : List Value} {newId initId : String} (TO : cx.T.Ok) (h0 : cx.h = false) (Co : cx.Ok cx.c) (X : XcAt cx.T k C bm newId initId) (hg : isGl cx.env.scope.names x (xcN k) = true) : SS Γ cx (.raise k) (.Raise (some (.Call (.Name x np) [.Constant (.str q) kk cp] [] cpos)) none pos) := fun st W S tk Q E H => by
 obtain ⟨tl, N, nm, qq, bs, hdct, sn, sub, ab, col, dd, k0, k1, k2, k3, k5, mN, hC, hN, hni, T⟩ := X.own.own.obj
 refine wpAny_Raise_call_subT (C := C) (nm := nm) (q := qq) (N := N) (bs := bs) (bm := tl) (hdct := hdct) (sn := sn) (sub := sub) (ab := ab) (col := col) (dd := dd) (k0 := k0) (k1 := k1) (k2 := k2) (k3 := k3) (k5 := k5)
  X.base (mN := mN) (T.hasType X.base.hasBase) (Co.hand h0) rfl hni (load_glob TO Co S hg X.own.bound ⟨rfl, ?_⟩)
 refine wpAny_mono (args_nil (pos := cpos) (T := fun vs s₂ => vs.length ≤ sizeLine ∧ (∀ b o, cx.T.s.heap.get? b = some o → s₂.heap.get? b = some o) ∧ ∀ h' e, Heap.MadeExcOf s₂.heap h' e (.ref C) vs → E (.ref e) { s₂ with heap := h' }) rfl (s_lit (Γ := Γ) (cb := cx.c) (d := .str q) (beq_self_eq_true _) (fun q => nomatch q) st W S tk _ E ?_)) (fun a s₂ h₂ => ⟨h₂.1, h₂.2.1, h₂.2.2.1 _ _ hC, hN.keeps h₂.2.2.1, T.keeps h₂.2.2.1, h₂.2.2.2⟩) fun _ _ y => y
 intro W1 tk1 vs l1 S1 r1
 obtain ⟨v, rfl, _⟩ := r1.one
 refine ⟨(by decide : 1 ≤ sizeLine), S1.keeps, fun h' e hx => ?_⟩
 obtain ⟨l2, S2⟩ := S1.grow (b := cx.d) (cb := cx.c) hx.keeps
 exact H ⟨W1.t, h'⟩ tk1 e ((l1.mono (Nat.le_refl _) (Nat.le_succ _) id).trans l2) S2 (Fly.made S1 (by rw [X.xc]; exact hx))
end
section
variable {cx : Cx} {st : St} {W : Ws} {k tk : Nat} {e : Addr} {E : VP}
theorem Fly.lands {M : Model} {l : List Env} {L : Addr} {Q : UP} (F : Fly cx k e W) (lf : ∀ b o d, W.t b = .loc d → W.get b = some o → Nf o) (hA : cx.A.frames = some (cx.env :: l)) (hf : cx.env.frame = some L)
  (hQ : ∀ B h', Slt W ⟨W.t, h'⟩ → (∀ b o, W.get b = some o → (W.t b).isLoc = false → W.t b ≠ .junk → B.get? b = some o) → Air B (cx.env :: l) e (cx.T.xc k) h' → Q () (sh cx.T ⟨W.t, h'⟩ tk)) :
  wpAny M cx.A (noteFrame (.ref e) cx.env) (fun _ s₂ => wpAny M cx.A (setFlight (.ref e) none) Q E s₂) E (sh cx.T W tk) := by
 obtain ⟨B, l0, h1, hB, h2⟩ := F
 cases h1.symm.trans hA
 exact air_note (s := sh cx.T W tk) hA hf h2 fun h' f u => hQ B h' (slt_of lf hB f.st u) hB f
open PySem.W (Looks)
structure XcLk (T : Tp) : Prop where
 tup : ∀ c, c ≤ 5 → Looks (model T.prog T.w) T.s.heap (isInstance (T.xc c) (.type "tuple")) false
 exc : ∀ c, c ≤ 5 → Looks (model T.prog T.w) T.s.heap (isExcClass (T.xc c)) true
 sub : ∀ k c, k < 5 → c ≤ 6 → Looks (model T.prog T.w) T.s.heap (isSubtype (T.xc k) (T.xc c)) (subX k c)
theorem exc_match {T : Tp} {A : Around} {c : Nat} {oe : Obj} {Q : Bool → Shared → Prop} (X : XcLk T) (hk : k < 5) (hc : c ≤ 5) (kp : ∀ b o, T.s.heap.get? b = some o → W.h.get? b = some o) (he : W.get e = some oe) (hcl : oe.cls = T.xc k) (q : Q (subX k c) (sh T W tk)) :
  wpAny (model T.prog T.w) A (excMatches (.ref e) (T.xc c)) Q E (sh T W tk) := by
 have L0 := (X.tup c hc).keeps kp
 have L1 := (X.exc c hc).keeps kp
 have L2 := (X.sub k c hk (Nat.le_succ_of_le hc)).keeps kp
 have LT : Looks (model T.prog T.w) W.h (typeOf (.ref e)) (T.xc k) := hcl ▸ (Looks.ld he).andThen .now
 unfold excMatches
 refine wpAny_bind (L0.here ?_)
 rw [if_neg Bool.false_ne_true]
 cases hb : subX k c <;> rw [hb] at q L2 <;> ((repeat (first | simp only [List.forIn_cons, List.forIn_nil, Bool.not_true, Bool.false_eq_true, if_false, if_true] | with_reducible refine L1.here ?_ | with_reducible refine L2.here ?_ | with_reducible refine LT.here ?_ | with_reducible refine wpAny_bind ?_ | with_reducible refine wpAny_pure ?_)); exact q)
end
noncomputable def Cx.mk' (cx : Cx) (e : Addr) : Cx := { cx with A := cx.A.mark (some (.ref e)), h := true }
section
variable {cx : Cx} {st : St} {W : Ws} {k tk : Nat} {e : Addr} {E : VP} {f : F} {v : Value} {t : Tag}
theorem RepS.mark : RepS cx W t v f ↔ RepS (cx.mk' e) W t v f := by cases f <;> exact Iff.rfl
theorem RepA.mark : RepA cx W v f ↔ RepA (cx.mk' e) W v f := by cases f <;> exact Iff.rfl
theorem Sim.mark (H : Hnd (some (.ref e)) W.z) (S : Sim cx st W) : Sim (cx.mk' e) st W :=
 ⟨S.ok, S.fr.ns, S.fr.nst, S.fr.cells, fun i f y h1 h2 h3 => let ⟨u, hu, r⟩ := S.fr.vals i f y h1 h2 h3; ⟨u, hu, RepS.mark.mp r⟩, S.fr.frs, fun _ => H⟩
theorem Sim.bare' (h0 : cx.h = false) (S : Sim (cx.mk' e) st W) : Sim cx st W :=
 ⟨S.ok, S.fr.ns, S.fr.nst, S.fr.cells, fun i f y h1 h2 h3 => let ⟨u, hu, r⟩ := S.fr.vals i f y h1 h2 h3; ⟨u, hu, RepS.mark.mpr r⟩, S.fr.frs, fun q => nomatch h0.symm.trans q⟩
theorem Sim.froze {oe : Obj} {vs : Array Value} (S : Sim cx st W) (g : W.get e = some oe) (hd : oe.data = .fields vs) (hj : W.t e = .junk) (b : Nat) (c : Bool) : Le cx.d b c W ⟨W.t.put e .fz, W.h⟩ ∧ Sim cx st ⟨W.t.put e .fz, W.h⟩ := by
 have B := But.tag W e .fz
 exact ⟨B.le (.of (by rw [hj]; rfl)) (put_ni rfl), S.but B (by rw [hj]; rfl) (by rw [hj]; rfl) (fun i => by rw [hj]; exact Tag.noConfusion) (fun q => nomatch g.symm.trans q) (put_ni rfl)⟩
theorem lands_junk {B h' : Heap} {l : List Env} {cls : Value} (lf : ∀ b o d, W.t b = .loc d → W.get b = some o → Nf o) (hB : ∀ b o, W.get b = some o → (W.t b).isLoc = false → W.t b ≠ .junk → B.get? b = some o) (s : Slt W ⟨W.t, h'⟩) (K : ∀ b, W.get b = none → W.t b = .junk) (f : Air B l e cls h') : W.t e = .junk := by
 obtain ⟨oe, vs, ge, hc, hd, h0⟩ := f.ob
 cases g : W.get e with
 | none => exact K e g
 | some o =>
  cases hl : (W.t e).isLoc with
  | false =>
   cases q : W.t e with
   | junk => rfl
   | _ => cases (hB e o g hl (by rw [q]; exact Tag.noConfusion)).symm.trans f.no
  | true =>
   obtain ⟨d, t⟩ : ∃ d, W.t e = .loc d := by
    generalize W.t e = t at hl
    cases t with
    | loc d => exact ⟨d, rfl⟩
    | _ => cases hl
   obtain ⟨sl, g', _⟩ := s.kp e o g (by rw [t]; exact Tag.noConfusion)
   cases g'.symm.trans ge
   exact absurd hd (lf e o d t g vs)
section
variable {c tk : Nat} {Q : FP} {l : List Env} {h : CS}
theorem Post.mark {Q : FP} {E' : VP} {r : R Fl} (h0 : cx.h = false) (H : Post cx cx.d cx.c (RFl cx) W Q E (noX r)) : Post (cx.mk' e) cx.d cx.c (RFl (cx.mk' e)) W Q E' r := by
 cases r with
 | ok fl st =>
  intro W' tk v l S r
  refine H W' tk v l (S.bare' h0) ?_
  cases fl with
  | next => exact r
  | ret f => obtain ⟨u, h1, h2, h3⟩ := r; exact ⟨u, h1, RepA.mark.mpr h2, h3⟩
 | exc k st => exact H.elim
 | stuck => exact H.elim
end
end
section
variable {Γ : Nat → Fn} {cx : Cx} {st : St} {W : Ws} {k c tk : Nat} {e : Addr} {E : VP} {Q : FP} {x n : Str} {np pos hpos : Pos} {b₀ : Stmt} {suite : List Stmt} {rest : List ExceptHandler} {B h' : Heap} {l : List Env} {h : CS}
structure Landed (cx : Cx) (k : Nat) (e : Addr) (st : St) (W : Ws) (B : Heap) (l : List Env) : Prop where
 sim : Sim cx st W
 has : ∀ b o, W.get b = some o → (W.t b).isLoc = false → W.t b ≠ .junk → B.get? b = some o
 fly : Air B l e (cx.T.xc k) W.h
theorem Landed.junk (L : Landed cx k e st W B l) : W.t e = .junk := lands_junk (h' := W.h) L.sim.ok.lf L.has ⟨rfl, fun b o g _ => ⟨o.slots, g, fun _ => rfl⟩⟩ L.sim.ok.dead L.fly
theorem Landed.go {M : Model} {A : Around} {QU : UP} (L : Landed cx k e st W B l)
  (hq : ∀ W', Le cx.d cx.d cx.c W W' → Sim cx st W' → RepA cx W' (.ref e) (.ex k) → Hnd (some (.ref e)) W'.z → QU () (sh cx.T W' tk)) : wpAny M A (setFlight (.ref e) none) QU E (sh cx.T W tk) := by
 refine air_go (s := sh cx.T W tk) L.fly fun h' f u => ?_
 have s := slt_of L.sim.ok.lf L.has f.st u
 have S1 := s.sim L.sim
 obtain ⟨oe, vs, ge, hc, hd, h2, _⟩ := f.ob
 have hj : (Ws.mk W.t h').t e = .junk := L.junk
 obtain ⟨l2, S2⟩ := S1.froze (W := ⟨W.t, h'⟩) ge hd hj cx.d cx.c
 exact hq ⟨W.t.put e .fz, h'⟩ (s.le.trans l2) S2 ⟨e, oe, rfl, ge, Tags.put_self .., hc⟩ ⟨e, oe, vs, rfl, z_of (W := ⟨W.t.put e .fz, h'⟩) (Tags.put_self ..) ge, hd, h2⟩
theorem catch_none (h0 : cx.h = false) (TO : cx.T.Ok) (C : cx.Ok cx.c) (X : XcLk cx.T) (hk : k < 5) (hc : c ≤ 5) (hs : subX k c = true) (hmg : cx.T.mg (xcN c) = some (cx.T.xc c)) (hg : isGl cx.env.scope.names x (xcN c) = true) (L : Landed cx k e st W B l) (hb : SSs Γ (cx.mk' e) h (b₀ :: suite)) (H : Post cx cx.d cx.c (RFl cx) W Q E (noX (ex Γ h st))) :
  wpX cx (handleBy (.ref e) cx.env (.ExceptHandler (some (.Name x np)) none (b₀ :: suite) hpos :: rest)) Q E (sh cx.T W tk) := by
 obtain ⟨oe, vs, ge, hcl, hd, _⟩ := L.fly.ob
 refine wpAny_handleBy_cons (codeAny_handlers_test (load_glob TO C L.sim hg hmg (exc_match X hk hc L.sim.keeps ge hcl ?_))) (by intro q; cases q)
 rw [hs]
 refine codeAny_handlers_suite (L.go fun W' l' S' r' hh => hb st W' (S'.mark hh) tk _ _ (Post.mark h0 (E := E) (Q := Q) (H.to l')))
theorem try_core {b hs : CS} {bd : List Stmt} {hd : ExceptHandler} (Fu : cx.Full) (hb : SSs Γ cx b bd) (S : Sim cx st W) (H : Post cx cx.d cx.c (RFl cx) W Q E (tryE (ex Γ b st) (ex Γ hs)))
  (hh : ∀ k e st W B l tk, Landed cx k e st W B l → Post cx cx.d cx.c (RFl cx) W Q E (ex Γ hs { st with x := k }) → wpX cx (handleBy (.ref e) cx.env [hd]) Q E (sh cx.T W tk)) :
  wpX cx (exec (.Try bd [hd] [] [] pos) cx.env) Q E (sh cx.T W tk) := by
 refine wpAny_Try_except (hb st W S tk _ _ ?_)
 cases hr : ex Γ b st with
 | stuck => rw [hr] at H; exact H.elim
 | ok fl st1 =>
  rw [hr] at H
  intro W' tk' v l S' r
  have H' := H W' tk' v l S' r
  cases fl with
  | next => cases show v = .next from r; exact wpAny_execs_nil H'
  | ret f => obtain ⟨u, rfl, _⟩ := r; exact H'
 | exc k st1 =>
  rw [hr] at H
  intro W' tk' e l S' fl
  obtain ⟨ll, hA⟩ := Fu.fr
  refine Fly.lands fl S'.ok.lf hA Fu.fm fun B h' s hB f => hh k e st1 ⟨W'.t, h'⟩ B _ tk' ⟨s.sim S', fun b o g hl n => ?_, f⟩ (Post.to (l.trans s.le) H)
  cases g' : W'.get b with
  | none => exact absurd (S'.ok.dead b g') n
  | some o' => cases (s.at n hl g').1.symm.trans g; exact hB b o g' hl n
end
section
variable {Γ : Nat → Fn} {cx : Cx} {k c tk : Nat} {x : Str} {np pos hpos : Pos} {b₀ : Stmt} {suite bd : List Stmt} {b h : CS}
theorem if_true' {δ γ : Type} {Rl : Ws → γ → δ → Prop} {W : Ws} {bb : Nat} {cb : Bool} {Q : γ → Shared → Prop} {E : VP} {t : Bool} {r : R δ} (H : Post cx bb cb Rl W Q E (if t then r else .stuck)) : t = true ∧ Post cx bb cb Rl W Q E r := by
 cases t with
 | true => exact ⟨rfl, H⟩
 | false => exact H.elim
theorem s_try (h0 : cx.h = false) (TO : cx.T.Ok) (C : cx.Ok cx.c) (Fu : cx.Full) (X : XcLk cx.T) (hc : c ≤ 5) (hmg : cx.T.mg (xcN c) = some (cx.T.xc c)) (hg : isGl cx.env.scope.names x (xcN c) = true) (hb : SSs Γ cx b bd) (hh : ∀ e, SSs Γ (cx.mk' e) h (b₀ :: suite)) :
  SS Γ cx (.try_ b (.hd c none h .hnil)) (.Try bd [.ExceptHandler (some (.Name x np)) none (b₀ :: suite) hpos] [] [] pos) := fun st W S tk Q E H =>
 try_core Fu hb S H fun k e st W B l tk L H => by
  obtain ⟨hs, H⟩ := if_true' H
  obtain ⟨h1, h2⟩ := and2 hs
  exact catch_none h0 (st := { st with x := k }) TO C X (odt h1) hc h2 hmg hg ⟨⟨L.sim.ok, L.sim.fr⟩, L.has, L.fly⟩ (hh e) H
end
end Mine.Internal
end
section
namespace Mine.Internal
open PySem.W (findIn typeIn)
structure Base (Γ : Nat → Fn) (ft : Ft) (T : Tp) (A : Around) : Prop where
 TO : T.Ok
 PC : PgCls T
 XC : XcOk T
 XL : XcLk T
 XI : ∀ c, c ≤ 5 → T.mg (xcN c) = some (T.xc c)
 fn : ∀ k y, ft k = some y → y.1 < 2 → ∃ fa, T.mg y.2 = some (.ref fa) ∧ ∀ cx : Cx, cx.T = T → cx.A = A → FnIs cx (y.1 == 1) fa (Γ k)
 mt : ∀ k y, ft k = some y → y.1 = 2 → (∀ j, j < 6 → y.2 ≠ fldN j) ∧ ∃ fa, findIn T.pk (.ref T.pc) y.2 = some (some (.ref fa)) ∧ typeIn T.pk (.ref fa) = some (.type "function") ∧ ∀ cx : Cx, cx.T = T → cx.A = A → FnIs cx true fa (Γ k)
 nw : ∀ y, ft 0 = some y → y.1 = 3 → ∃ fa, findIn T.pk (.ref T.pc) "__init__" = some (some (.ref fa)) ∧ typeIn T.pk (.ref fa) = some (.type "function") ∧ ∀ (cx : Cx) vs, cx.T = T → cx.A = A → FnOk (cx.by vs) true fa (Γ 0)
structure Inn (Γ : Nat → Fn) (ft : Ft) (cx : Cx) (q : Bool) : Prop where
 b : Base Γ ft cx.T cx.A
 ok : cx.Ok cx.c
 fu : q = true → cx.Full
 h : (ft 1).isSome = true → cx.h = false
section
variable {Γ : Nat → Fn} {ft : Ft} {cx : Cx} {cb q : Bool} {es : List Expr} {e : Expr} {c : CE}
theorem Cx.Ok.at (C : cx.Ok cx.c) (h : cb = true → cx.c = true) : cx.Ok cb := ⟨h, C.kind, C.glob, C.bltn, C.hand, C.units, C.depth⟩
theorem folded_no {e : Expr} {env : Env} (h : plainX e = true) (v : Value) : foldedSetIterable e env v = pure v := by cases e <;> first | rfl | cases h
theorem base_of {e : Expr} {y : Str} {env : Env} {m : Sem Value} (h : baseOk e = true) : attributeBase e y env m = m := by
 obtain ⟨x, h1⟩ := ise h
 obtain ⟨p, rfl⟩ := asName_eq h1
 rfl
noncomputable def GE (Γ : Nat → Fn) (cx : Cx) (c : CE) (es : List Expr) : Prop := ∀ cb, (cb = true → cx.c = true) → SL Γ cx cb c es ∧ ∀ e, es = [e] → tb c e = true → SB Γ cx cb c e
theorem GE.gen (h : ∀ cb, (cb = true → cx.c = true) → SL Γ cx cb c [e]) (ht : tb c e = true → plainT e = true) : GE Γ cx c [e] := fun cb hb => ⟨h cb hb, fun e' q t => by cases q; exact s_gen (ht t) (h cb hb)⟩
theorem or_f {a b : Bool} (h : (a || !b) = true) : b = true → a = true := fun q => by rw [q] at h; cases a <;> first | rfl | cases h
theorem one_of {es : List Expr} {f : Expr → Bool} (h : onS (one es) f = true) : ∃ e, es = [e] ∧ f e = true := let ⟨e, h1, h2⟩ := onS_true h; ⟨e, one_eq h1, h2⟩
theorem cmpX_some {e : Expr} {v : Expr × CmpOp × Expr} (h : cmpX e = some v) : ∃ p, e = .Compare v.1 [v.2.1] [v.2.2] p ∧ plainX v.2.2 = true := by
 obtain ⟨w, h1, h⟩ := bsm h
 obtain ⟨o, h2, h⟩ := bsm h
 obtain ⟨r, h3, h⟩ := bsm h
 obtain ⟨h4, rfl⟩ := gd_some h
 obtain ⟨p, rfl⟩ := asCmp_eq h1
 exact ⟨p, by rw [one_eq h2, one_eq h3], h4⟩
theorem comp_ok {scope : Scope} {x : Str} (h : compOk scope cx.env.scope.names x = true) (hm : ((maskN x cx.nm).all fun y => (relabelK scope.names cx.env.scope.names).lookup y != some .local) = true) (hz : ((relabelK scope.names cx.env.scope.names).lookup ("" : Str) == none) = true) : CompOk cx scope x := by
 obtain ⟨h, h3⟩ := and2 h
 obtain ⟨h1, h2⟩ := and2 h
 have h2 := fun y hy => and2 (List.all_eq_true.mp h2 y hy)
 refine ⟨eq_of_beq h1, fun y hy q => ?_, fun y hy q => ?_, fun y hy q => ?_, eq_of_beq h3, fun y hy q => ?_, eq_of_beq hz⟩
 · have := (and2 (h2 y hy).1).1; rw [q] at this; cases this
 · have := (and2 (h2 y hy).1).2; rw [q] at this; exact eq_of_beq this
 · have := (h2 y hy).2; rw [q] at this; exact eq_of_beq (and2 this).2
 · have := List.all_eq_true.mp hm y hy; rw [q] at this; cases this
theorem src_ok {kd : Nat} {s : CE} {it : Expr} (I : Inn Γ ft cx q) (hb : cb = true → cx.c = true) (h1 : (kd == 1 || (ft 1).isSome) = true) (h2 : (kd != 2) = true) (hs : onS (patI cx.env.scope.names kd it) (mc ft s cx.c q cx.nm cx.env.scope.names) = true)
  (ih : ∀ es, mc ft s cx.c q cx.nm cx.env.scope.names es = true → SL Γ cx cb s es) : SI Γ cx cb kd s it := by
 obtain ⟨l, h3, h4⟩ := onS_true hs
 cases kd with
 | zero => cases h3; exact i_data (I.ok.hand (I.h (by simpa using h1))) (ih _ h4)
 | succ kd =>
  cases kd with
  | zero => exact i_range I.b.TO (I.ok.at hb) h3 (ih _ h4)
  | succ kd =>
   cases kd with
   | zero => cases h2
   | succ kd => exact nos h3
theorem gen_eq {g : Comprehension} {t : Expr} (h1 : g.target = t) (h2 : (g.is_async == 0) = true) : g = ⟨t, g.iter, g.ifs, 0⟩ := by
 cases g
 cases h1
 cases eq_of_beq h2
 rfl
theorem cd_ok {cond : CE} {ifs : List Expr} (htc : tc cond ifs = true) (hc : SL Γ cx cb cond ifs ∧ ∀ e, ifs = [e] → tb cond e = true → SB Γ cx cb cond e) : SCd Γ cx cb cond ifs := by
 unfold tc at htc
 cases hz : cond.ctorIdx == 0 with
 | true =>
  rw [hz] at htc
  exact .inl ⟨eq_of_beq hz, lem htc⟩
 | false =>
  rw [hz] at htc
  obtain ⟨e', hf', ht⟩ := one_of htc
  exact .inr ⟨by simpa using hz, e', hf', hc.2 e' hf' ht⟩
noncomputable def cpC (ft : Ft) (n kd : Nat) (s elt cond : CE) (c q : Bool) (nm : List Str) (k0 : Kd) (el : Expr) (scope : Scope) (g : Comprehension) (x : Str) : Bool :=
 g.is_async == 0 && q && n == nm.length && compOk scope k0 x && kd != 2 && (kd == 1 || (ft 1).isSome) && tc cond g.ifs && onS (patI k0 kd g.iter) (mc ft s c q nm k0) && plainX g.iter && mc ft cond c false (maskN x nm ++ [x]) (relabelK scope.names k0) g.ifs && mc ft elt c false (maskN x nm ++ [x]) (relabelK scope.names k0) [el] &&
   ((maskN x nm).all fun y => (relabelK scope.names k0).lookup y != some .local) && (relabelK scope.names k0).lookup ("" : Str) == none
theorem and13 {a b c d e f g h i j k l m : Bool} (q : (a && b && c && d && e && f && g && h && i && j && k && l && m) = true) : (a = true ∧ b = true ∧ c = true ∧ d = true) ∧ (e = true ∧ f = true ∧ g = true ∧ h = true) ∧ i = true ∧ j = true ∧ k = true ∧ l = true ∧ m = true := by
 simpa [and_assoc] using q
noncomputable def CpOk (Γ : Nat → Fn) (cx : Cx) (n kd : Nat) (s elt cond : CE) (e : Expr) (q : Bool) : Prop :=
  ∃ el x px it ifs scope p, e = .ListComp el [⟨.Name x px, it, ifs, 0⟩] scope p ∧ q = true ∧ CompOk cx scope x ∧ n = cx.nm.length ∧ (∀ v, foldedSetIterable it cx.env v = pure v) ∧
   ∀ cb, (cb = true → cx.c = true) → (eff (.comp n kd s elt cond) = true → cb = true) → InOk Γ cx cb scope x elt cond el ifs ∧ SI Γ cx cb kd s it ∧ (eff s = true → cb = true)
noncomputable abbrev ihE (Γ : Nat → Fn) (ft : Ft) (s : CE) : Prop := ∀ (cx : Cx) (q : Bool) (es : List Expr), Inn Γ ft cx q → mc ft s cx.c q cx.nm cx.env.scope.names es = true → GE Γ cx s es
theorem comp_parts {n kd : Nat} {s elt cond : CE} (ihs : ihE Γ ft s) (ihe : ihE Γ ft elt) (ihc : ihE Γ ft cond) (I : Inn Γ ft cx q)
  (h : (onS (asComp e) fun v => onS (one v.2.1) fun g => onS (asName g.target) fun x => cpC ft n kd s elt cond cx.c q cx.nm cx.env.scope.names v.1 v.2.2 g x) = true) : CpOk Γ cx n kd s elt cond e q := by
 obtain ⟨v, h1, h⟩ := onS_true h
 obtain ⟨g, h2, h⟩ := onS_true h
 obtain ⟨x, h3, h⟩ := onS_true h
 obtain ⟨⟨has, hq, hn, hco⟩, ⟨hk2, hk1, htc, hsrc⟩, hpl, hcond, helt, hmask, hnil⟩ := and13 h
 obtain ⟨p, h4⟩ := asComp_eq h1
 obtain ⟨px, h5⟩ := asName_eq h3
 have CO := comp_ok hco hmask hnil
 have I' : ∀ Cc, Inn Γ ft (cx.inner v.2.2 x Cc) false := fun Cc => ⟨I.b, inner_ok I.ok CO, nofun, I.h⟩
 have nm := fun Cc => inner_names (scope := v.2.2) (x := x) (Cc := Cc) I.ok
 have ef : ∀ cb, (eff (.comp n kd s elt cond) = true → cb = true) → (eff s || eff elt || eff cond) = true → cb = true := fun _ h => h
 exact ⟨v.1, x, px, g.iter, g.ifs, v.2.2, p, h4.trans (congrArg (fun l => Expr.ListComp v.1 l v.2.2 p) ((one_eq h2).trans (congrArg (fun z => [z]) (gen_eq h5 has)))), hq, CO, eq_of_beq hn, folded_no hpl, fun cb hb hf => ⟨⟨fun Cc => (ihe _ false _ (I' Cc) ((nm Cc).symm ▸ helt) cb hb).1, fun Cc => cd_ok htc (ihc _ false _ (I' Cc) ((nm Cc).symm ▸ hcond) cb hb), fun z => ef cb hf (by rw [z, Bool.or_true]; rfl), fun z => ef cb hf (by rw [z, Bool.or_true])⟩, src_ok I hb hk1 hk2 hsrc fun es h => (ihs cx q es I h cb hb).1, fun z => ef cb hf (by rw [z]; rfl)⟩⟩
theorem GE.one {f : Expr → Bool} (h : onS (one es) f = true) (k : ∀ e, f e = true → GE Γ cx c [e]) : GE Γ cx c es := let ⟨e, z, g⟩ := one_of h; z ▸ k e g
theorem GE.eq {e' : Expr} (h : e = e') (k : GE Γ cx c [e']) : GE Γ cx c [e] := h ▸ k
theorem GE.cmp {l r : Expr} {o : CmpOp} {p : Pos} (s : ∀ cb, (cb = true → cx.c = true) → SC Γ cx cb c l o r) (hx : plainX r = true) : GE Γ cx c [.Compare l [o] [r] p] := fun cb hb => ⟨(s cb hb).sl hx, fun e' q t => by cases q; exact (s cb hb).sb hx⟩
theorem cmp_is {l r r' : Expr} {o o' : CmpOp} {p : Pos} (h : e = .Compare l [o] [r] p) (ho : o = o') (hr : r = r') : e = .Compare l [o'] [r'] p := by rw [h, ho, hr]
theorem bo_ge {O : BoolOp} {a b cc : CE} {v : BoolOp × List Expr × Pos} {w : Expr × Expr × List Expr} (hev : ∀ st, ev Γ cc st = (toB (ev Γ a st)).bind fun t st => boE O t (ev Γ b) st) (hf : ∀ cb, (eff cc = true → cb = true) → (eff a = true → cb = true) ∧ (eff b = true → cb = true))
  (ht : ∀ x y r p, tb cc (.BoolOp O (x :: y :: r) p) = true → tb a x = true ∧ tb b (restB O p y r) = true) (h0 : e = .BoolOp v.1 v.2.1 v.2.2) (h1 : v.1 = O) (h2 : v.2.1 = w.1 :: w.2.1 :: w.2.2) (ga : GE Γ cx a [w.1]) (gb : GE Γ cx b [restB O v.2.2 w.2.1 w.2.2]) : GE Γ cx cc [e] := by
 rw [h0, h1, h2]
 exact fun cb hb => ⟨s_bo hev (hf cb) (ga cb hb).1 (gb cb hb).1, fun e' q t => by cases q; exact b_bo hev (hf cb) ((ga cb hb).2 _ rfl (ht _ _ _ _ t).1) ((gb cb hb).2 _ rfl (ht _ _ _ _ t).2)⟩
theorem peek_ge {o : Pk} {p : Pl} {a : CE} {l : List Expr} (I : Inn Γ ft cx q) (h2 : (!isFld p || !eff a) = true) (h4 : popOk o p = true) (h5 : patP cx.nm cx.env.scope.names p o e = some l) (ha : GE Γ cx a l) : GE Γ cx (.peek o p a) [e] := by
 have hfe : isFld p = true → eff a = false := fun z => by rw [z] at h2; simpa using h2
 refine .gen (fun cb hb => ?_) id
 cases o with
 | len => exact p_len I.b.TO (I.ok.at hb) (fun _ => I.b.PC) h5 (ha cb hb).1
 | copy => exact p_copy I.b.TO (I.ok.at hb) (fun _ => I.b.PC) h5 (ha cb hb).1
 | idx => exact p_idx (I.ok.at hb) (fun _ => I.b.PC) h5 hfe fun c' hc' => (ha c' hc').1
 | key => exact p_key (I.ok.at hb) (fun _ => I.b.PC) h5 hfe fun c' hc' => (ha c' hc').1
 | pop => exact p_pop (I.ok.at hb) (fun _ => I.b.PC) h5 (by simpa [popOk] using h4) (ha cb hb).1
theorem call_ge {pure : Bool} {k : Nat} {a : CE} {y : Nat × Str} {l : List Expr} (I : Inn Γ ft cx q) (h1 : ft k = some y) (h2 : y.1 = if pure then 0 else 1) (h3 : (cx.c || pure) = true) (h5 : call1 cx.env.scope.names y.2 e = some l) (ha : GE Γ cx a l) : GE Γ cx (.call pure k a) [e] := by
 obtain ⟨fa, hm, FI⟩ := I.b.fn k y h1 (by rw [h2]; cases pure <;> decide)
 have e1 : (y.1 == 1) = !pure := by rw [h2]; cases pure <;> rfl
 refine .gen (fun cb hb => s_call I.b.TO (I.ok.at hb) hm (e1 ▸ FI cx rfl rfl) (fun z => ?_) h5 (ha cb hb).1) id
 rw [z] at h3; simpa using h3
theorem sE (c : CE) : ∀ (cx : Cx) (q : Bool) (es : List Expr), Inn Γ ft cx q → mc ft c cx.c q cx.nm cx.env.scope.names es = true → GE Γ cx c es := by
 induction c with
 | nil =>
  intro cx q es I h cb hb
  cases es with
  | nil => exact ⟨s_nil, fun e q => nomatch q⟩
  | cons _ _ => cases h
 | cons a b iha ihb =>
  intro cx q es I h cb hb
  cases es with
  | nil => cases h
  | cons e es =>
   have hl := s_cons (I.ok.at hb) (iha cx q [e] I (and2 h).1 cb hb).1 (ihb cx q es I (and2 h).2 cb hb).1
   exact ⟨hl, fun e' q t => by cases q; exact s_gen t hl⟩
 | lit d => exact fun cx q es I h => .one h fun e h => let ⟨k, h1, h2⟩ := onS_true h; let ⟨_, _, h3⟩ := asConst_eq h1; .eq h3 (.gen (fun cb hb => s_lit h2) id)
 | get p => exact fun cx q es I h => .one h fun e h => .gen (fun cb hb => s_get (I.ok.at hb) (fun _ => I.b.PC) (and2 h).1) id
 | mv p => exact fun cx q es I h => .one h fun e h => .gen (fun cb hb => s_mv (I.ok.at hb) (and2 h).1 (by simpa using (and2 h).2)) id
 | lend i => exact fun cx q es I h => .one h fun e h => .gen (fun cb hb => s_lend (I.ok.at hb) h) id
 | glob k => exact fun cx q es I h => .one h fun e h => let ⟨x, h1, h3⟩ := onS_true h; let ⟨y, h2, h4⟩ := onS_true h3; let ⟨_, h5⟩ := asName_eq h1; .eq h5 (.gen (fun cb hb => s_glob I.b.TO (I.ok.at hb) h2 h4) id)
 | op o a iha => exact fun cx q es I h => .one h fun e h => let ⟨l, h1, h⟩ := onS_true h; .gen (fun cb hb => s_op I.b.TO (I.ok.at hb) h1 (iha cx q l I h cb hb).1) id
 | sm o r a ihr iha => exact fun cx q es I h => .one h fun e h => let ⟨l, h1, h⟩ := onS_true h; .gen (fun cb hb => s_sm h1 (ihr cx q _ I (and2 h).1 cb hb).1 (iha cx q _ I (and2 h).2 cb hb).1) id
 | peek o p a iha => exact fun cx q es I h => .one h fun e h => let ⟨h, h3⟩ := and2 h; let ⟨l, h5, h6⟩ := onS_true h3; peek_ge I (and2 (and2 h).1).2 (and2 h).2 h5 (iha cx q l I h6)
 | cmp op a iha => exact fun cx q es I h => .one h fun e h => let ⟨v, h1, h⟩ := onS_true h; let ⟨p, h4, hx⟩ := cmpX_some h1; .eq (cmp_is h4 (eq_of_beq (and2 h).1).symm rfl) (.cmp (fun cb hb => c_cmp (I.ok.at hb) (iha cx q _ I (and2 h).2 cb hb).1) hx)
 | cmpNil ne p => exact fun cx q es I h => .one h fun e h => let ⟨v, h1, h⟩ := onS_true (and2 h).2; let ⟨h, h4⟩ := and2 h; let ⟨p', h0, hx⟩ := cmpX_some h1; let ⟨l', h5, h6⟩ := onS_true h4; let ⟨p2, h7⟩ := asList_eq h5; GE.eq (cmp_is h0 (eq_of_beq (and2 h).1) (h7.trans (congrArg (Expr.List · p2) (lem h6)))) (.cmp (fun cb hb => c_cmpNil (I.ok.at hb) (fun _ => I.b.PC) (and2 h).2) rfl)
 | inOpen a iha => exact fun cx q es I h => .one h fun e h => let ⟨v, h1, h⟩ := onS_true h; let ⟨h, h4⟩ := and2 h; let ⟨p', h0, hx⟩ := cmpX_some h1; let ⟨x, h5, h6⟩ := onS_true (and2 h).2; let ⟨p2, h7⟩ := asName_eq h5; GE.eq (cmp_is h0 (eq_of_beq (and2 h).1) h7) (.cmp (fun cb hb => c_inOpen I.b.TO (I.ok.at hb) (iha cx q _ I h4 cb hb).1 h6) rfl)
 | chain ab o1 o2 d iha ihd =>
  intro cx q es I h
  refine .one h fun e h => ?_
  obtain ⟨v, h1, h⟩ := onS_true h
  obtain ⟨o, h2, h⟩ := onS_true h
  obtain ⟨r, h3, h⟩ := onS_true h
  obtain ⟨h, h8⟩ := and2 h
  obtain ⟨h, h7⟩ := and2 h
  obtain ⟨h, h6⟩ := and2 h
  obtain ⟨p, h0⟩ := asCmp_eq h1
  rw [h0, two_eq h2, two_eq h3, ← eq_of_beq (and2 h).1, ← eq_of_beq (and2 h).2]
  exact fun cb hb => ⟨s_chain (I.ok.at hb) (iha cx q _ I h7 cb hb).1 (ihd cx q _ I h8 cb hb).1 h6, fun e' q' t => by cases q'; exact b_chain (I.ok.at hb) (iha cx q _ I h7 cb hb).1 (ihd cx q _ I h8 cb hb).1 h6⟩
 | not a iha => exact fun cx q es I h => .one h fun e h => let ⟨v, h1, h⟩ := onS_true h; let ⟨p, h3⟩ := asUn_eq h1; GE.eq (h3.trans (congrArg (Expr.UnaryOp · v.2 p) (eq_of_beq (and2 h).1))) fun cb hb => have s := iha cx q _ I (and2 h).2 cb hb; ⟨s_not s.1, fun e' q t => by cases q; exact b_not (s.2 _ rfl t)⟩
 | and a b iha ihb => exact fun cx q es I h => .one h fun e h => let ⟨v, h1, h⟩ := onS_true h; let ⟨w, h2, h⟩ := onS_true h; let ⟨h, h4⟩ := and2 h; bo_ge (O := .And) (fun st => by show R.bind _ _ = _; congr 1; funext t st; cases t <;> rfl) (fun cb f => ⟨or_left f, or_right f⟩) (fun x y r p t => and2 t) (asBool_eq h1) (eq_of_beq (and2 h).1) (more_eq h2) (iha cx q _ I (and2 h).2) (ihb cx q _ I h4)
 | or a b iha ihb => exact fun cx q es I h => .one h fun e h => let ⟨v, h1, h⟩ := onS_true h; let ⟨w, h2, h⟩ := onS_true h; let ⟨h, h4⟩ := and2 h; bo_ge (O := .Or) (fun st => by show R.bind _ _ = _; congr 1; funext t st; cases t <;> rfl) (fun cb f => ⟨or_left f, or_right f⟩) (fun x y r p t => and2 t) (asBool_eq h1) (eq_of_beq (and2 h).1) (more_eq h2) (iha cx q _ I (and2 h).2) (ihb cx q _ I h4)
 | call pure k a iha => exact fun cx q es I h => .one h fun e h => let ⟨y, h1, h⟩ := onS_true h; let ⟨h, h4⟩ := and2 h; let ⟨l, h5, h6⟩ := onS_true h4; call_ge I h1 (eq_of_beq (and2 h).1) (and2 h).2 h5 (iha cx q l I h6)
 | callP k p =>
  intro cx q es I h
  refine .one h fun e h => ?_
  obtain ⟨y, h1, h⟩ := onS_true (and2 h).2
  obtain ⟨h2, h⟩ := and2 h
  obtain ⟨l, h5, h6⟩ := onS_true h
  obtain ⟨x, h7, h8⟩ := onS_true h6
  have hy : y.1 = 0 := eq_of_beq h2
  obtain ⟨fa, hm, FI⟩ := I.b.fn k y h1 (by rw [hy]; decide)
  have FI := FI cx rfl rfl
  rw [hy] at FI
  exact .gen (fun cb hb => s_callP I.b.TO (I.ok.at hb) (fun _ => I.b.PC) hm FI (by rw [h5, one_eq h7]) h8) id
 | meth k r a ihr iha => exact fun cx q es I h => .one h fun e h => let ⟨y, h1, h⟩ := onS_true (and2 h).2; let ⟨h2, h⟩ := and2 h; let ⟨v, h5, h⟩ := onS_true h; let ⟨h, h9⟩ := and2 h; let ⟨h, h8⟩ := and2 h; let ⟨hn, fa, hf, ht, FI⟩ := I.b.mt k y h1 (eq_of_beq h2); GE.gen (fun cb hb => s_meth I.b.TO (I.ok.at hb) I.b.PC hf ht hn (FI cx rfl rfl) h5 (odt h9) (base_of (and2 h).1) (ihr cx q _ I (and2 h).2 cb hb).1 (iha cx q _ I h8 cb hb).1) id
 | new a iha => exact fun cx q es I h => .one h fun e h => let ⟨h, h2⟩ := and2 h; let ⟨y, h3, h4⟩ := onS_true (and2 h).2; let ⟨l, h5, h6⟩ := onS_true h2; let ⟨fa, hf, ht, FI⟩ := I.b.nw y h3 (eq_of_beq h4); GE.gen (fun cb hb => s_new I.b.TO (I.ok.at hb) I.b.PC hf ht (fun vs => FI cx vs rfl rfl) h5 (iha cx q l I h6 cb hb).1) id
 | comp n kd s elt cond ihs ihe ihc => exact fun cx q es I h => .one h fun e h => let ⟨el, x, px, it, ifs, scope, p, h0, hq, CO, hn, hpl, hh⟩ := comp_parts ihs ihe ihc I h; GE.eq h0 (.gen (fun cb hb hf => let ⟨IO, hi, hs⟩ := hh cb hb hf; s_comp (I.ok.at hb) (I.fu hq) CO IO hn hi hpl hs hf) id)
 | isEx i k => intro cx q es I h; cases h
end
end Mine.Internal
end
section
namespace Mine.Internal
noncomputable def asRet (t : Stmt) : Option (Option Expr) := if h : t.ctorIdx = 3 then Stmt.Return.elim (motive_2 := fun _ => Option (Option Expr)) t h (fun x p => some x) else none
theorem asRet_eq {t : Stmt} {v : Option Expr} (h : asRet t = some v) : ∃ p, t = .Return v p := by
 by_cases q : t.ctorIdx = 3
 · exact Stmt.Return.elim (motive_2 := fun t => asRet t = some v → ∃ p, t = .Return v p) t q (fun x p h => by cases h; exact ⟨p, rfl⟩) h
 · exact nos ((dif_neg q).symm.trans h)
noncomputable def asAsg (t : Stmt) : Option (List Expr × Expr × Pos) := if h : t.ctorIdx = 5 then Stmt.Assign.elim (motive_2 := fun _ => Option (List Expr × Expr × Pos)) t h (fun ts x p => some (ts, x, p)) else none
theorem asAsg_eq {t : Stmt} {v : List Expr × Expr × Pos} (h : asAsg t = some v) : t = .Assign v.1 v.2.1 v.2.2 := by
 by_cases q : t.ctorIdx = 5
 · exact Stmt.Assign.elim (motive_2 := fun t => asAsg t = some v → t = .Assign v.1 v.2.1 v.2.2) t q (fun ts x p h => by cases h; exact rfl) h
 · exact nos ((dif_neg q).symm.trans h)
noncomputable def asFor (t : Stmt) : Option (Expr × Expr × List Stmt × List Stmt) := if h : t.ctorIdx = 9 then Stmt.For.elim (motive_2 := fun _ => Option (Expr × Expr × List Stmt × List Stmt)) t h (fun t i b o p => some (t, i, b, o)) else none
theorem asFor_eq {t : Stmt} {v : Expr × Expr × List Stmt × List Stmt} (h : asFor t = some v) : ∃ p, t = .For v.1 v.2.1 v.2.2.1 v.2.2.2 p := by
 by_cases q : t.ctorIdx = 9
 · exact Stmt.For.elim (motive_2 := fun t => asFor t = some v → ∃ p, t = .For v.1 v.2.1 v.2.2.1 v.2.2.2 p) t q (fun t i b o p h => by cases h; exact ⟨p, rfl⟩) h
 · exact nos ((dif_neg q).symm.trans h)
noncomputable def asIf (t : Stmt) : Option (Expr × List Stmt × List Stmt) := if h : t.ctorIdx = 12 then Stmt.If.elim (motive_2 := fun _ => Option (Expr × List Stmt × List Stmt)) t h (fun t b o p => some (t, b, o)) else none
theorem asIf_eq {t : Stmt} {v : Expr × List Stmt × List Stmt} (h : asIf t = some v) : ∃ p, t = .If v.1 v.2.1 v.2.2 p := by
 by_cases q : t.ctorIdx = 12
 · exact Stmt.If.elim (motive_2 := fun t => asIf t = some v → ∃ p, t = .If v.1 v.2.1 v.2.2 p) t q (fun t b o p h => by cases h; exact ⟨p, rfl⟩) h
 · exact nos ((dif_neg q).symm.trans h)
noncomputable def asRaise (t : Stmt) : Option (Option Expr × Option Expr) := if h : t.ctorIdx = 16 then Stmt.Raise.elim (motive_2 := fun _ => Option (Option Expr × Option Expr)) t h (fun x y p => some (x, y)) else none
theorem asRaise_eq {t : Stmt} {v : Option Expr × Option Expr} (h : asRaise t = some v) : ∃ p, t = .Raise v.1 v.2 p := by
 by_cases q : t.ctorIdx = 16
 · exact Stmt.Raise.elim (motive_2 := fun t => asRaise t = some v → ∃ p, t = .Raise v.1 v.2 p) t q (fun x y p h => by cases h; exact ⟨p, rfl⟩) h
 · exact nos ((dif_neg q).symm.trans h)
noncomputable def asTry (t : Stmt) : Option (List Stmt × List ExceptHandler × List Stmt × List Stmt) := if h : t.ctorIdx = 17 then Stmt.Try.elim (motive_2 := fun _ => Option (List Stmt × List ExceptHandler × List Stmt × List Stmt)) t h (fun b h o f p => some (b, h, o, f)) else none
theorem asTry_eq {t : Stmt} {v : List Stmt × List ExceptHandler × List Stmt × List Stmt} (h : asTry t = some v) : ∃ p, t = .Try v.1 v.2.1 v.2.2.1 v.2.2.2 p := by
 by_cases q : t.ctorIdx = 17
 · exact Stmt.Try.elim (motive_2 := fun t => asTry t = some v → ∃ p, t = .Try v.1 v.2.1 v.2.2.1 v.2.2.2 p) t q (fun b h o f p h => by cases h; exact ⟨p, rfl⟩) h
 · exact nos ((dif_neg q).symm.trans h)
noncomputable def asEx (t : Stmt) : Option (Expr) := if h : t.ctorIdx = 24 then Stmt.Expr.elim (motive_2 := fun _ => Option (Expr)) t h (fun x p => some x) else none
theorem asEx_eq {t : Stmt} {v : Expr} (h : asEx t = some v) : ∃ p, t = .Expr v p := by
 by_cases q : t.ctorIdx = 24
 · exact Stmt.Expr.elim (motive_2 := fun t => asEx t = some v → ∃ p, t = .Expr v p) t q (fun x p h => by cases h; exact ⟨p, rfl⟩) h
 · exact nos ((dif_neg q).symm.trans h)
noncomputable def isB (c : CS) : Bool := decide (c.ctorIdx ≤ 1) || c.ctorIdx == 19
noncomputable def isStr : Const → Option Str
 | .str x => some x
 | _ => none
noncomputable def hdOf : ExceptHandler → Option Expr × Option Str × List Stmt
 | .ExceptHandler t n b _ => (t, n, b)
noncomputable def asOk (nm : List Str) (kd : Kd) : Option Nat → Option Str → Bool
 | none, none => true
 | _, _ => false
noncomputable def mE (ft : Ft) (e : CE) (c : Bool) (nm : List Str) (kd : Kd) (es : List Expr) : Bool := mc ft e c true nm kd es && (c || !eff e)
noncomputable def asg1 (ts : List Stmt) : Option (Expr × Expr × Pos) := (one ts).bind fun t => (asAsg t).bind fun v => (one v.1).map fun x => (x, v.2)
theorem asg1_eq {ts : List Stmt} {v : Expr × Expr × Pos} (h : asg1 ts = some v) : ts = [.Assign [v.1] v.2.1 v.2.2] := by
 obtain ⟨t, h1, h⟩ := bsm h
 obtain ⟨w, h2, h⟩ := bsm h
 obtain ⟨x, h3, rfl⟩ := msm h
 rw [one_eq h1, asAsg_eq h2, one_eq h3]
noncomputable def sub1 (ts : List Stmt) : Option ((Expr × Expr) × Expr) := (asg1 ts).bind fun v => (asSub v.1).map fun y => (y, v.2.1)
theorem sub1_eq {ts : List Stmt} {v : (Expr × Expr) × Expr} (h : sub1 ts = some v) : ∃ sp p, ts = [.Assign [.Subscript v.1.1 v.1.2 sp] v.2 p] := by
 obtain ⟨w, h1, h⟩ := bsm h
 obtain ⟨y, h2, rfl⟩ := msm h
 obtain ⟨sp, h3⟩ := asSub_eq h2
 exact ⟨sp, w.2.2, by rw [asg1_eq h1, h3]⟩
noncomputable def exp1 (ts : List Stmt) : Option Expr := (one ts).bind asEx
theorem exp1_eq {ts : List Stmt} {x : Expr} (h : exp1 ts = some x) : ∃ p, ts = [.Expr x p] := by
 obtain ⟨t, h1, h⟩ := bsm h
 obtain ⟨p, h2⟩ := asEx_eq h
 exact ⟨p, by rw [one_eq h1, h2]⟩
noncomputable def ret1 (ts : List Stmt) : Option (Option Expr) := (one ts).bind asRet
theorem ret1_eq {ts : List Stmt} {x : Option Expr} (h : ret1 ts = some x) : ∃ p, ts = [.Return x p] := by
 obtain ⟨t, h1, h⟩ := bsm h
 obtain ⟨p, h2⟩ := asRet_eq h
 exact ⟨p, by rw [one_eq h1, h2]⟩
noncomputable def if1 (ts : List Stmt) : Option (Expr × List Stmt × List Stmt) := (one ts).bind asIf
theorem if1_eq {ts : List Stmt} {x : Expr × List Stmt × List Stmt} (h : if1 ts = some x) : ∃ p, ts = [.If x.1 x.2.1 x.2.2 p] := by
 obtain ⟨t, h1, h⟩ := bsm h
 obtain ⟨p, h2⟩ := asIf_eq h
 exact ⟨p, by rw [one_eq h1, h2]⟩
noncomputable def for1 (ts : List Stmt) : Option (Expr × Expr × List Stmt) := (one ts).bind fun t => (asFor t).bind fun v => gd v.2.2.2.isEmpty (v.1, v.2.1, v.2.2.1)
theorem for1_eq {ts : List Stmt} {x : Expr × Expr × List Stmt} (h : for1 ts = some x) : ∃ p, ts = [.For x.1 x.2.1 x.2.2 [] p] := by
 obtain ⟨t, h1, h⟩ := bsm h
 obtain ⟨v, h2, h⟩ := bsm h
 obtain ⟨h3, rfl⟩ := gd_some h
 obtain ⟨p, h4⟩ := asFor_eq h2
 exact ⟨p, by rw [one_eq h1, h4, lem h3]⟩
noncomputable def rai1 (ts : List Stmt) : Option Str := (one ts).bind fun t => (asRaise t).bind fun v => (gd v.2.isNone ()).bind fun _ => v.1.bind fun e => (asCall e).bind fun w => (gd w.2.2.1.isEmpty ()).bind fun _ => (one w.2.1).bind fun a => (asConst a).bind fun q => (isStr q).bind fun _ => asName w.1
theorem rai1_eq {ts : List Stmt} {x : Str} (h : rai1 ts = some x) : ∃ np q kk cp cpos pos, ts = [.Raise (some (.Call (.Name x np) [.Constant (.str q) kk cp] [] cpos)) none pos] := by
 obtain ⟨t, h1, h⟩ := bsm h
 obtain ⟨⟨o1, o2⟩, h2, h⟩ := bsm h
 obtain ⟨_, h3, h⟩ := bsm h
 obtain ⟨e, h4, h⟩ := bsm h
 obtain ⟨⟨f, xs, ks, cp⟩, h5, h⟩ := bsm h
 obtain ⟨_, h6, h⟩ := bsm h
 obtain ⟨a, h7, h⟩ := bsm h
 obtain ⟨q, h8, h⟩ := bsm h
 obtain ⟨y, h9, h⟩ := bsm h
 obtain ⟨pp, h10⟩ := asRaise_eq h2
 obtain ⟨kk, ap, h11⟩ := asConst_eq h8
 obtain ⟨np, h12⟩ := asName_eq h
 cases q with
 | str z => exact ⟨np, z, kk, ap, cp, pp, by rw [one_eq h1, h10, show o1 = _ from h4, show o2 = none from Option.isNone_iff_eq_none.mp (gd_some h3).1, asCall_eq h5, show f = _ from h12, show ks = [] from lem (gd_some h6).1, show xs = _ from one_eq h7, h11]⟩
 | _ => cases h9
noncomputable def try1 (ts : List Stmt) : Option (List Stmt × Str × Option Str × List Stmt) := (one ts).bind fun t => (asTry t).bind fun v => (gd (v.2.2.1.isEmpty && v.2.2.2.isEmpty) ()).bind fun _ => (one v.2.1).bind fun d => (hdOf d).1.bind fun e => (asName e).bind fun x => gd (!(hdOf d).2.2.isEmpty) (v.1, x, (hdOf d).2.1, (hdOf d).2.2)
theorem try1_eq {ts : List Stmt} {x : List Stmt × Str × Option Str × List Stmt} (h : try1 ts = some x) : ∃ np b0 su hp p, x.2.2.2 = b0 :: su ∧ ts = [.Try x.1 [.ExceptHandler (some (.Name x.2.1 np)) x.2.2.1 (b0 :: su) hp] [] [] p] := by
 obtain ⟨t, h1, h⟩ := bsm h
 obtain ⟨⟨bd, l, o, f⟩, h2, h⟩ := bsm h
 obtain ⟨_, h3, h⟩ := bsm h
 obtain ⟨⟨ty, n, su, hp⟩, h4, h⟩ := bsm h
 obtain ⟨e, h5, h⟩ := bsm h
 obtain ⟨y, h6, h⟩ := bsm h
 obtain ⟨h7, rfl⟩ := gd_some h
 obtain ⟨p, h8⟩ := asTry_eq h2
 obtain ⟨np, h9⟩ := asName_eq h6
 cases su with
 | nil => cases h7
 | cons b0 su => exact ⟨np, b0, su, hp, p, rfl, by rw [one_eq h1, h8, show l = _ from one_eq h4, show ty = _ from h5, h9, show o = [] from lem (and2 (gd_some h3).1).1, show f = [] from lem (and2 (gd_some h3).1).2]; rfl⟩
noncomputable def hdK (c : CS) : Option (Nat × Option Nat) := if h : c.ctorIdx = 17 then CS.hd.elim (motive := fun _ => Option (Nat × Option Nat)) c h (fun k i h r => gd (r.ctorIdx == 18) (k, i)) else none
theorem hnil_of {r : CS} (h : (r.ctorIdx == 18) = true) : r = .hnil := CS.hnil.elim (motive := fun r => r = .hnil) r (eq_of_beq h) rfl
noncomputable def rowsC (nm : List Str) (kd : Kd) (c : Bool) (ft : Ft) (i j : Nat) (many src cn k e : CE) (x1 c1 : Expr) (l : List Expr) (x2 y2 : Expr) (u : Expr × List Stmt × List Stmt) (y r : Expr) (s : Expr × Expr) : Bool :=
 ((l.isEmpty && u.2.2.isEmpty && mPl nm kd (.loc i) x1 && mE ft (.comp nm.length 1 many (.op .lst .nil) .nil) c nm kd [c1]) && ((ft 1).isSome && mPl nm kd (.loc j) x2 && plainX y2 && mE ft src c nm kd [y2])) &&
 ((mE ft cn c nm kd [u.1] && tb cn u.1 && mE ft e c nm kd [y] && plainX s.2) && (mPl nm kd (.loc i) s.1 && mE ft k c nm kd [s.2] && mPl nm kd (.loc i) r && i != j))
noncomputable def rowsX (nm : List Str) (kd : Kd) (c : Bool) (ft : Ft) (i j : Nat) (many src cn k e : CE) (t1 t2 t3 : Stmt) : Bool :=
 onS (asg1 [t1]) fun v => onS (asComp v.2.1) fun w => onS (asList w.1) fun l => onS (for1 [t2]) fun f => onS (if1 f.2.2) fun u => onS (exp1 u.2.1) fun x => onS (meth1 "append" x) fun m => onS (one m.2) fun y => onS (asSub m.1) fun s => onS (ret1 [t3]) fun o => onS o fun r => rowsC nm kd c ft i j many src cn k e v.1 v.2.1 l f.1 f.2.1 u y r s
theorem and4 {a b c d : Bool} (h : (a && b && c && d) = true) : a = true ∧ b = true ∧ c = true ∧ d = true := ⟨(and2 (and2 (and2 h).1).1).1, (and2 (and2 (and2 h).1).1).2, (and2 (and2 h).1).2, (and2 h).2⟩
theorem rows_is {t1 t2 t3 : Stmt} {x1 x2 y2 c1 el y m s1 s2 x t r : Expr} {l my : List Expr} {gs : List Comprehension} {f3 u2 u3 : List Stmt} {n1 n2 nz n3 : Str} {scope : Scope} {o : Option Expr} {p1 p2 pc lp pz pi pe ap cp sp q2 pf pr p3 : Pos}
  (h1 : [t1] = [.Assign [x1] c1 p2]) (h2 : x1 = .Name n1 p1) (h3 : c1 = .ListComp el gs scope pc) (h4 : el = .List l lp) (h5 : l = []) (h6 : [t2] = [.For x2 y2 f3 [] pf]) (h7 : x2 = .Name nz pz) (h8 : f3 = [.If t u2 u3 pi]) (h9 : u3 = []) (h10 : u2 = [.Expr x pe]) (h11 : x = .Call (.Attribute m "append" ap) my [] cp) (h12 : my = [y]) (h13 : m = .Subscript s1 s2 sp) (h14 : s1 = .Name n2 q2) (h15 : n2 = n1) (h16 : [t3] = [.Return o pr]) (h17 : o = some r) (h18 : r = .Name n3 p3) (h19 : n3 = n1) :
  [t1, t2, t3] = [.Assign [.Name n1 p1] (.ListComp (.List [] lp) gs scope pc) p2, .For (.Name nz pz) y2 (rowsB n1 t s2 y q2 sp ap cp pe pi) [] pf, .Return (some (.Name n1 p3)) pr] := by
 cases h1; cases h6; cases h16
 subst h2 h5 h4 h3 h7 h12 h15 h14 h13 h11 h10 h9 h8 h19 h18 h17
 rfl
noncomputable def ms (nm : List Str) (kd : Kd) (c : Bool) : CS → Ft → List Stmt → Bool
 | .nil, ft, ts => ts.isEmpty
 | .seq s r, ft, ts => (match ts with | t :: ts => ((!isB s && isB r) && s.ctorIdx != 17) && (ms nm kd c s ft [t] && ms nm kd c r ft ts) | [] => false)
 | .assign p e, ft, ts => onS (asg1 ts) fun v => mPl nm kd p v.1 && (mE ft e c nm kd [v.2.1] && (if isFld p then c else notComp v.2.1 || e.ctorIdx == 21))
 | .setd p, ft, ts => onS (asg1 ts) fun v => mPl nm kd p v.1 && (isFld p && (c && onS (asDict v.2.1) fun d => d.1.isEmpty && d.2.isEmpty))
 | .unpack is e, ft, ts => onS (asg1 ts) fun v => ((ft 1).isSome && onS (asTup v.1) (mNames nm kd is)) && (mE ft e c nm kd [v.2.1] && (notComp v.2.1 && (asTup v.2.1).isNone))
 | .setidx p k e, ft, ts => onS (sub1 ts) fun v => mPl nm kd p v.1.1 && ((mE ft k c nm kd [v.1.2] && mE ft e c nm kd [v.2]) && (notComp v.2 && ((c || !isFld p) && (!isFld p || !eff k))))
 | .setkey p k e, ft, ts => onS (sub1 ts) fun v => mPl nm kd p v.1.1 && ((mE ft k c nm kd [v.1.2] && mE ft e c nm kd [v.2]) && (notComp v.2 && ((c || !isFld p) && (!isFld p || !eff k))))
 | .append p e, ft, ts => onS (exp1 ts) fun x => onS (meth1 "append" x) fun v => onS (one v.2) fun y => mPl nm kd p v.1 && (mE ft e c nm kd [y] && ((c || !isFld p) && (!isFld p || !eff e)))
 | .clear p, ft, ts => onS (exp1 ts) fun x => onS (meth1 "clear" x) fun v => mPl nm kd p v.1 && (v.2.isEmpty && (c || !isFld p))
 | .drop e, ft, ts => onS (exp1 ts) fun x => mE ft e c nm kd [x] && notComp x
 | .ret e, ft, ts => onS (ret1 ts) fun o => onS o fun x => mE ft e c nm kd [x]
 | .retN, ft, ts => onS (ret1 ts) Option.isNone
 | .iff e a b, ft, ts => onS (if1 ts) fun v => (mE ft e c nm kd [v.1] && tb e v.1) && ((isB a && ms nm kd c a ft v.2.1) && (isB b && ms nm kd c b ft v.2.2))
 | .loop many is k src body, ft, ts => onS (for1 ts) fun v => (((ft 1).isSome && mT nm kd many is v.1) && (plainX v.2.1 && (k != 2 || many))) && (onS (patI kd k v.2.1) (mE ft src c nm kd) && (isB body && ms nm kd c body ft v.2.2))
 | .raise k, ft, ts => onS (rai1 ts) fun x => (ft 1).isSome && (decide (k < 5) && isGl kd x (xcN k))
 | .try_ b hs, ft, ts => onS (try1 ts) fun v => ((ft 1).isSome && (isB b && ms nm kd c b ft v.1)) && ((onS (hdK hs) fun w => decide (w.1 ≤ 5) && (isGl kd v.2.1 (xcN w.1) && asOk nm kd w.2 v.2.2.1)) && ms nm kd c hs ft v.2.2.2)
 | .rows i j many src cn k e, ft, ts => (match ts with | [t1, t2, t3] => rowsX nm kd c ft i j many src cn k e t1 t2 t3 | _ => false)
 | .hd k i h r, ft, ts => isB h && ms nm kd c h (fun _ => none) ts
 | _, _, _ => false
structure GS (Γ : Nat → Fn) (cx : Cx) (c : CS) (ts : List Stmt) : Prop where
 b : isB c = true → SSs Γ cx c ts
 s : isB c = false → c.ctorIdx ≠ 17 → ∀ t, ts = [t] → SS Γ cx c t
 h : ∀ k i h r, c = .hd k i h r → ∀ e, SSs Γ (cx.mk' e) h ts
section
variable {Γ : Nat → Fn} {ft : Ft} {cx : Cx} {cb q : Bool} {es : List Expr} {e : CE} {c : CE} {t : Stmt} {s : CS} {p : Pl} {x y z : Expr} {pos sp : Pos}
theorem GS.st (h : SS Γ cx s t) (h0 : isB s = false ∧ (s.ctorIdx == 17) = false) : GS Γ cx s [t] := ⟨fun q => (nomatch h0.1.symm.trans q), fun _ _ t' q => (by cases q; exact h), fun k i h r q => by subst q; cases h0.2⟩
theorem mE_of (I : Inn Γ ft cx true) (h : mE ft c cx.c cx.nm cx.env.scope.names es = true) : GE Γ cx c es ∧ (eff c = true → cx.c = true) := ⟨sE c cx true es I (and2 h).1, or_f (and2 h).2⟩
theorem fld_e {a : Bool} (h : (!isFld p || !a) = true) : isFld p = true → a = false := fun z => by rw [z] at h; simpa using h
theorem fld_of {i j : Nat} {x : Expr} (h : mPl cx.nm cx.env.scope.names (.fld i j) x = true) : ∃ z pos' apos, x = .Attribute (.Name z pos') (fldN j) apos ∧ isLoc cx.nm cx.env.scope.names i z = true ∧ j < 6 := by
 obtain ⟨⟨y, n, p⟩, h1, h⟩ := onS_true h
 obtain ⟨h, h4⟩ := and2 h
 obtain ⟨h2, h3⟩ := and2 h
 obtain ⟨z, h5, h6⟩ := onS_true h4
 obtain ⟨p2, h7⟩ := asName_eq h5
 exact ⟨z, p2, p, by rw [asAttr_eq h1]; rw [show y = _ from h7, show n = _ from eq_of_beq h3], h6, odt h2⟩
theorem loc_of {i : Nat} {x : Expr} (h : mPl cx.nm cx.env.scope.names (.loc i) x = true) : ∃ z pos', x = .Name z pos' ∧ isLoc cx.nm cx.env.scope.names i z = true := by
 obtain ⟨z, h5, h6⟩ := onS_true h
 obtain ⟨p2, h7⟩ := asName_eq h5
 exact ⟨z, p2, h7, h6⟩
theorem swap_none {ts : List Expr} {k : Nat} {p : Pos} {x : Expr} {env : Env} (h : (asTup x).isNone = true) : swappedStores [.Tuple ts k p] x env = pure none := by
 cases x <;> first | rfl | cases h
theorem st_assign (I : Inn Γ ft cx true) (h3 : mPl cx.nm cx.env.scope.names p x = true) (h4 : mE ft e cx.c cx.nm cx.env.scope.names [y] = true) (h5 : (if isFld p then cx.c else notComp y || e.ctorIdx == 21) = true) : SS Γ cx (.assign p e) (.Assign [x] y pos) := by
 cases p with
 | loc i =>
  obtain ⟨z, p', rfl, hz⟩ := loc_of h3
  rcases Bool.or_eq_true_iff.mp h5 with h5 | h5
  · exact s_assign' I.ok (I.fu rfl) hz (swaps_no h5) (mE_of I h4).2 ((mE_of I h4).1 cx.c id).1
  · refine CE.comp.elim (motive := fun e => mE ft e cx.c cx.nm cx.env.scope.names [y] = true → SS Γ cx (.assign (.loc i) e) (.Assign [.Name z p'] y pos)) e (eq_of_beq h5) (fun n kd s elt cond h4 => ?_) h4
    obtain ⟨el, x, px, it, ifs, scope, p, q, hq, CO, hn, hpl, hh⟩ := comp_parts (sE s) (sE elt) (sE cond) I (and2 h4).1
    obtain ⟨IO, hi, hs⟩ := hh cx.c id (mE_of I h4).2
    rw [q]
    exact s_assign_comp I.ok (I.fu rfl) hz CO IO hn hi hpl hs
 | fld i j =>
  obtain ⟨z, p', ap, rfl, hz, hj⟩ := fld_of h3
  exact s_setfld I.b.PC I.ok h5 hz hj ((mE_of I h4).1 cx.c id).1
theorem st_setd (I : Inn Γ ft cx true) (h3 : mPl cx.nm cx.env.scope.names p x = true) (h4 : isFld p = true) (h5 : cx.c = true) (h6 : (onS (asDict y) fun d => d.1.isEmpty && d.2.isEmpty) = true) : SS Γ cx (.setd p) (.Assign [x] y pos) := by
 obtain ⟨⟨ks, vs⟩, h7, h8⟩ := onS_true h6
 obtain ⟨pd, h11⟩ := asDict_eq h7
 rw [show y = _ from h11, show ks = [] from lem (and2 h8).1, show vs = [] from lem (and2 h8).2]
 cases p with
 | loc i => cases h4
 | fld i j =>
  obtain ⟨z, p', ap, rfl, hz, hj⟩ := fld_of h3
  exact s_setd I.b.TO I.b.PC I.ok h5 hz hj
theorem st_unpack {is : List Nat} (I : Inn Γ ft cx true) (h3 : (ft 1).isSome = true) (h4 : onS (asTup x) (mNames cx.nm cx.env.scope.names is) = true) (h5 : mE ft e cx.c cx.nm cx.env.scope.names [y] = true) (h6 : notComp y = true) (h7 : (asTup y).isNone = true) : SS Γ cx (.unpack is e) (.Assign [x] y pos) := by
 obtain ⟨zs, h8, h9⟩ := onS_true h4
 obtain ⟨k, tp, rfl⟩ := asTup_eq h8
 exact s_unpack (I.h h3) I.ok (I.fu rfl) h9 (show swapsWith y (some (.Tuple zs k tp)) pos.line cx.env = pure false from swaps_no h6) (swap_none h7) (mE_of I h5).2 ((mE_of I h5).1 cx.c id).1
theorem st_loop {many : Bool} {is : List Nat} {k : Nat} {body : CS} {bd : List Stmt} (I : Inn Γ ft cx true) (h2 : (ft 1).isSome = true) (h4 : mT cx.nm cx.env.scope.names many is x = true) (h5 : plainX y = true) (h6 : (k != 2 || many) = true) (h7 : onS (patI cx.env.scope.names k y) (mE ft e cx.c cx.nm cx.env.scope.names) = true) (hb : SSs Γ cx body bd) : SS Γ cx (.loop many is k e body) (.For x y bd [] pos) := by
 have h0 := I.h h2
 obtain ⟨l, h10, h11⟩ := onS_true h7
 refine s_loop h0 I.ok (I.fu rfl) h4 (folded_no h5) ?_ hb
 have ge := (mE_of I h11).1
 have he := (mE_of I h11).2
 clear hb h7 h11 h2
 match k with
 | 0 => cases h10; exact (i_data (I.ok.hand h0) (ge cx.c id).1).sf he _
 | 1 => exact (i_range I.b.TO I.ok h10 (ge cx.c id).1).sf he _
 | 2 =>
  cases many with
  | false => cases h6
  | true =>
   obtain ⟨zs, h12, _⟩ := onS_true (show onS (asTup x) (mNames cx.nm cx.env.scope.names is) = true from h4)
   obtain ⟨kk, tp, h13⟩ := asTup_eq h12
   cases show x = _ from h13
   exact f_enum h0 I.b.TO I.ok h10 he (ge cx.c id).1
 | k + 3 => exact nos h10
theorem st_append {v : Expr × List Expr} (I : Inn Γ ft cx true) (h2 : meth1 "append" x = some v) (h3 : one v.2 = some y) (h : (mPl cx.nm cx.env.scope.names p v.1 && (mE ft e cx.c cx.nm cx.env.scope.names [y] && ((cx.c || !isFld p) && (!isFld p || !eff e)))) = true) : SS Γ cx (.append p e) (.Expr x pos) := by
 obtain ⟨u, l⟩ := v
 cases show l = _ from one_eq h3
 obtain ⟨ap, cp, rfl, hline, hx⟩ := meth1_some h2
 exact s_append I.ok (fun _ => I.b.PC) (and2 h).1 (or_f (and2 (and2 (and2 h).2).2).1) (by simpa using hx) hline (fld_e (and2 (and2 (and2 h).2).2).2) (fun c' hc => ((mE_of I (and2 (and2 h).2).1).1 c' hc).1) (mE_of I (and2 (and2 h).2).1).2
theorem st_clear {v : Expr × List Expr} (I : Inn Γ ft cx true) (h2 : meth1 "clear" x = some v) (h : (mPl cx.nm cx.env.scope.names p v.1 && (v.2.isEmpty && (cx.c || !isFld p))) = true) : SS Γ cx (.clear p) (.Expr x pos) := by
 obtain ⟨u, l⟩ := v
 cases show l = [] from lem (and2 (and2 h).2).1
 obtain ⟨ap, cp, rfl, hline, hx⟩ := meth1_some h2
 exact s_clear I.ok (fun _ => I.b.PC) (and2 h).1 (or_f (and2 (and2 h).2).2) hline
theorem Base.bare {T : Tp} {A A' : Around} (B : Base Γ ft T A) : Base Γ (fun _ => none) T A' := ⟨B.TO, B.PC, B.XC, B.XL, B.XI, fun k y h => (nomatch h), fun k y h => (nomatch h), fun y h => nomatch h⟩
theorem Inn.suite (I : Inn Γ ft cx true) (a : Addr) : Inn Γ (fun _ => none) (cx.mk' a) true :=
 have F := I.fu rfl
 ⟨I.b.bare, ⟨I.ok.cb, I.ok.kind, I.ok.glob, I.ok.bltn, (nofun), I.ok.units, I.ok.depth⟩, fun _ => ⟨F.full, F.inj, F.nodup, F.has, F.fr, F.fm⟩, nofun⟩
theorem hdK_eq {hs : CS} {w : Nat × Option Nat} (h : hdK hs = some w) : ∃ s, hs = .hd w.1 w.2 s .hnil := by
 by_cases q : hs.ctorIdx = 17
 · exact CS.hd.elim (motive := fun c => hdK c = some w → ∃ s, c = .hd w.1 w.2 s .hnil) hs q (fun k i s r h => let ⟨h6, h7⟩ := gd_some h; ⟨s, by rw [← h7, hnil_of h6]⟩) h
 · exact nos ((dif_neg q).symm.trans h)
theorem asOk_eq {nm : List Str} {kd : Kd} {i : Option Nat} {n : Option Str} (h : asOk nm kd i n = true) : i = none ∧ n = none := by
 cases i with
 | none => cases n with
  | none => exact ⟨rfl, rfl⟩
  | some _ => cases h
 | some _ => cases n <;> cases h
theorem st_try {b hs : CS} {ts : List Stmt} {v : List Stmt × Str × Option Str × List Stmt} (I : Inn Γ ft cx true) (h1 : try1 ts = some v) (h2 : (ft 1).isSome = true) (gb : SSs Γ cx b v.1) (hd : (onS (hdK hs) fun w => decide (w.1 ≤ 5) && (isGl cx.env.scope.names v.2.1 (xcN w.1) && asOk cx.nm cx.env.scope.names w.2 v.2.2.1)) = true)
  (gh : ∀ k i h r, hs = .hd k i h r → ∀ e, SSs Γ (cx.mk' e) h v.2.2.2) : GS Γ cx (.try_ b hs) ts := by
 obtain ⟨np, b0, su, hp, p, h3, h4⟩ := try1_eq h1
 obtain ⟨w, h5, h6⟩ := onS_true hd
 obtain ⟨hk, h6⟩ := and2 h6
 obtain ⟨s, h7⟩ := hdK_eq h5
 obtain ⟨ei, en⟩ := asOk_eq (and2 h6).2
 have hss := gh _ _ _ _ h7
 rw [h3] at hss
 rw [h4, h7, ei, en]
 exact .st (s_try (I.h h2) I.b.TO I.ok (I.fu rfl) I.b.XL (odt hk) (I.b.XI _ (odt hk)) (and2 h6).1 gb hss) ⟨rfl, rfl⟩
theorem st_rows {i j : Nat} {many src cn k e : CE} {t1 t2 t3 : Stmt} (I : Inn Γ ft cx true) (h : rowsX cx.nm cx.env.scope.names cx.c ft i j many src cn k e t1 t2 t3 = true) : SSs Γ cx (.rows i j many src cn k e) [t1, t2, t3] := by
 obtain ⟨v, a1, h⟩ := onS_true h
 obtain ⟨w, a2, h⟩ := onS_true h
 obtain ⟨l, a3, h⟩ := onS_true h
 obtain ⟨f, a4, h⟩ := onS_true h
 obtain ⟨u, a5, h⟩ := onS_true h
 obtain ⟨x, a6, h⟩ := onS_true h
 obtain ⟨m, a7, h⟩ := onS_true h
 obtain ⟨y, a8, h⟩ := onS_true h
 obtain ⟨s, a9, h⟩ := onS_true h
 obtain ⟨o, a10, h⟩ := onS_true h
 obtain ⟨r, a11, h⟩ := onS_true h
 obtain ⟨⟨b1, b2⟩, b3, b4⟩ := (and2 h).imp and2 and2
 obtain ⟨c1, c2, c3, c4⟩ := and4 b1
 obtain ⟨d1, d2, d3, d4⟩ := and4 b2
 obtain ⟨e1, e2, e3, e4⟩ := and4 b3
 obtain ⟨f1, f2, f3, f4⟩ := and4 b4
 obtain ⟨n1, p1, g1, hn1⟩ := loc_of c3
 obtain ⟨n2, p2, g2, hn2⟩ := loc_of f1
 obtain ⟨n3, p3, g3, hn3⟩ := loc_of f3
 obtain ⟨nz, pz, gz, hnz⟩ := loc_of d2
 obtain ⟨el, xx, px, it, ifs, scope, pp, q1, hq, CO, hn, hpl, hh⟩ := comp_parts (sE many) (sE (.op .lst .nil)) (sE .nil) I (and2 c4).1
 obtain ⟨IO, hi, hs⟩ := hh cx.c id (mE_of I c4).2
 obtain ⟨pc, q2⟩ := asComp_eq a2
 obtain ⟨lp, q3⟩ := asList_eq a3
 obtain ⟨pf, q5⟩ := for1_eq a4
 obtain ⟨pi, q6⟩ := if1_eq a5
 obtain ⟨pe, q7⟩ := exp1_eq a6
 obtain ⟨ap, cp, q8, hline, hx⟩ := meth1_some a7
 obtain ⟨sp, q9⟩ := asSub_eq a9
 obtain ⟨pr, q10⟩ := ret1_eq a10
 have hifs : ifs = [] := (IO.cn 0).elim (fun q => q.2) fun q => absurd rfl q.1
 rw [rows_is (asg1_eq a1) g1 q1 ((Expr.ListComp.inj (q1.symm.trans q2)).1.trans q3) (lem c1) q5 gz q6 (lem c2) q7 q8 (one_eq a8) q9 g2 (Option.some.inj ((acc_of hn2).1.1.symm.trans (acc_of hn1).1.1)) q10 a11 g3 (Option.some.inj ((acc_of hn3).1.1.symm.trans (acc_of hn1).1.1)), hifs]
 exact s_rows (I.h d1) I.ok (I.fu rfl) hn1 hnz (fun q => absurd ((I.fu rfl).nodup i j n1 (acc_of hn1).1.1 (q ▸ (acc_of hnz).1.1)) (by simpa using f4)) CO hi hpl hs (i_data (I.ok.hand (I.h d1)) ((mE_of I d4).1 cx.c id).1) (folded_no d3) (mE_of I d4).2
  ⟨((mE_of I e1).1 cx.c id).2 _ rfl e2, (mE_of I e1).2, ((mE_of I f2).1 cx.c id).1, (mE_of I f2).2, ((mE_of I e3).1 cx.c id).1, (mE_of I e3).2, e4, by have hx := hx; rw [one_eq a8] at hx; simpa using hx, hline⟩
theorem sS (s : CS) : ∀ (cx : Cx) (ft : Ft) (ts : List Stmt), Inn Γ ft cx true → ms cx.nm cx.env.scope.names cx.c s ft ts = true → GS Γ cx s ts := by
 induction s with
 | nil =>
  intro cx ft ts I h
  cases ts with
  | nil => exact ⟨fun _ => ss_nil, fun q => (nomatch q), fun k i h r q => nomatch q⟩
  | cons _ _ => cases h
 | seq s r ihs ihr =>
  intro cx ft ts I h
  cases ts with
  | nil => cases h
  | cons t ts => exact ⟨fun _ => ss_seq ((ihs cx ft [t] I (and2 (and2 h).2).1).s (by simpa using (and2 (and2 (and2 h).1).1).1) (by simpa using (and2 (and2 h).1).2) t rfl) ((ihr cx ft ts I (and2 (and2 h).2).2).b (and2 (and2 (and2 h).1).1).2), fun q => (nomatch q), fun k i h r q => nomatch q⟩
 | assign p e => exact fun cx ft ts I h => let ⟨v, h1, h2⟩ := onS_true h; asg1_eq h1 ▸ .st (st_assign I (and2 h2).1 (and2 (and2 h2).2).1 (and2 (and2 h2).2).2) ⟨rfl, rfl⟩
 | setd p => exact fun cx ft ts I h => let ⟨v, h1, h2⟩ := onS_true h; asg1_eq h1 ▸ .st (st_setd I (and2 h2).1 (and2 (and2 h2).2).1 (and2 (and2 (and2 h2).2).2).1 (and2 (and2 (and2 h2).2).2).2) ⟨rfl, rfl⟩
 | unpack is e => exact fun cx ft ts I h => let ⟨v, h1, h2⟩ := onS_true h; asg1_eq h1 ▸ .st (st_unpack I (and2 (and2 h2).1).1 (and2 (and2 h2).1).2 (and2 (and2 h2).2).1 (and2 (and2 (and2 h2).2).2).1 (and2 (and2 (and2 h2).2).2).2) ⟨rfl, rfl⟩
 | setidx p k e => exact fun cx ft ts I h => let ⟨v, h1, h2⟩ := onS_true h; let ⟨sp, pp, h3⟩ := sub1_eq h1; let ⟨a, b⟩ := and2 h2; let ⟨b, d⟩ := and2 b; let ⟨d, f⟩ := and2 d; h3 ▸ .st (s_setidx I.ok (fun _ => I.b.PC) a (or_f (and2 f).1) (fld_e (and2 f).2) ((mE_of I (and2 b).2).1 cx.c id).1 (mE_of I (and2 b).2).2 (fun c' hc => ((mE_of I (and2 b).1).1 c' hc).1) (mE_of I (and2 b).1).2 d) ⟨rfl, rfl⟩
 | setkey p k e => exact fun cx ft ts I h => let ⟨v, h1, h2⟩ := onS_true h; let ⟨sp, pp, h3⟩ := sub1_eq h1; let ⟨a, b⟩ := and2 h2; let ⟨b, d⟩ := and2 b; let ⟨d, f⟩ := and2 d; h3 ▸ .st (s_setkey I.ok (fun _ => I.b.PC) a (or_f (and2 f).1) (fld_e (and2 f).2) ((mE_of I (and2 b).2).1 cx.c id).1 (mE_of I (and2 b).2).2 (fun c' hc => ((mE_of I (and2 b).1).1 c' hc).1) (mE_of I (and2 b).1).2 d) ⟨rfl, rfl⟩
 | append p e => exact fun cx ft ts I h => let ⟨x, h1, h2⟩ := onS_true h; let ⟨v, h3, h4⟩ := onS_true h2; let ⟨y, h5, h6⟩ := onS_true h4; let ⟨pp, h7⟩ := exp1_eq h1; h7 ▸ .st (st_append I h3 h5 h6) ⟨rfl, rfl⟩
 | clear p => exact fun cx ft ts I h => let ⟨x, h1, h2⟩ := onS_true h; let ⟨v, h3, h4⟩ := onS_true h2; let ⟨pp, h7⟩ := exp1_eq h1; h7 ▸ .st (st_clear I h3 h4) ⟨rfl, rfl⟩
 | drop e => exact fun cx ft ts I h => let ⟨x, h1, h2⟩ := onS_true h; let ⟨pp, h3⟩ := exp1_eq h1; h3 ▸ .st (s_drop I.ok (mE_of I (and2 h2).1).2 ((mE_of I (and2 h2).1).1 cx.c id).1 (and2 h2).2) ⟨rfl, rfl⟩
 | ret e =>
  intro cx ft ts I h
  obtain ⟨o, h1, h⟩ := onS_true h
  obtain ⟨x, h2, h⟩ := onS_true h
  obtain ⟨pp, rfl⟩ := ret1_eq h1
  cases show o = _ from h2
  exact .st (s_ret (mE_of I h).2 ((mE_of I h).1 cx.c id).1) ⟨rfl, rfl⟩
 | retN =>
  intro cx ft ts I h
  obtain ⟨o, h1, h⟩ := onS_true h
  obtain ⟨pp, rfl⟩ := ret1_eq h1
  cases show o = none from Option.isNone_iff_eq_none.mp h
  exact .st s_retN ⟨rfl, rfl⟩
 | iff e a b iha ihb => exact fun cx ft ts I h => let ⟨v, h1, h2⟩ := onS_true h; let ⟨pp, h3⟩ := if1_eq h1; let ⟨a, b⟩ := and2 h2; let ⟨b, d⟩ := and2 b; h3 ▸ .st (s_iff (mE_of I (and2 a).1).2 (((mE_of I (and2 a).1).1 cx.c id).2 _ rfl (and2 a).2) ((iha cx ft _ I (and2 b).2).b (and2 b).1) ((ihb cx ft _ I (and2 d).2).b (and2 d).1)) ⟨rfl, rfl⟩
 | loop many is k src body ihb => exact fun cx ft ts I h => let ⟨v, h1, h2⟩ := onS_true h; let ⟨pp, h3⟩ := for1_eq h1; let ⟨a, b⟩ := and2 h2; let ⟨a, a'⟩ := and2 a; let ⟨b, d⟩ := and2 b; h3 ▸ .st (st_loop I (and2 a).1 (and2 a).2 (and2 a').1 (and2 a').2 b ((ihb cx ft _ I (and2 d).2).b (and2 d).1)) ⟨rfl, rfl⟩
 | raise k =>
  intro cx ft ts I h
  obtain ⟨x, h1, h⟩ := onS_true h
  obtain ⟨np, q, kk, cp, cpos, pos, rfl⟩ := rai1_eq h1
  obtain ⟨C, bm, ni, ii, X⟩ := I.b.XC k (odt (and2 (and2 h).2).1)
  exact .st (s_raise I.b.TO (I.h (and2 h).1) I.ok X (and2 (and2 h).2).2) ⟨rfl, rfl⟩
 | try_ b hs ihb ihh => exact fun cx ft ts I h => let ⟨v, h1, h2⟩ := onS_true h; let ⟨a, d⟩ := and2 h2; st_try I h1 (and2 a).1 ((ihb cx ft _ I (and2 (and2 a).2).2).b (and2 (and2 a).2).1) (and2 d).1 (ihh cx ft _ I (and2 d).2).h
 | rows i j many src cn k e =>
  intro cx ft ts I h
  match ts, h with
  | [t1, t2, t3], h => exact ⟨fun _ => st_rows I h, fun q => (nomatch q), fun k i h r q => nomatch q⟩
 | hd k i s r ihs ihr => exact fun cx ft ts I h => ⟨fun q => (nomatch q), fun _ q => absurd rfl q, fun k' i' s' r' q e => by cases q; exact (ihs (cx.mk' e) _ _ (I.suite e) (and2 h).2).b (and2 h).1⟩
 | _ => intro cx ft ts I h; cases h
end
end Mine.Internal
end
section
namespace Mine.Internal
open PySem.W (findIn typeIn)
noncomputable def ftOf (P : Tab) : Ft := fun k => (P.lookup k).map fun d => (d.kind, d.name)
structure Here (T : Tp) (P : Tab) (d : FnDef) (f : Addr) (o : Obj) (fd : FuncData) (body : List Stmt) : Prop where
 at_ : FnAt T d f o fd body
 b : isB d.body = true
 text : ms (d.ps ++ d.vs) fd.scope.names (d.kind != 0) d.body (ftOf P) body = true
 top : d.kind < 2 → T.mg d.name = some (.ref f)
 meth : 2 ≤ d.kind → typeIn T.pk (.ref f) = some (.type "function") ∧ findIn T.pk (.ref T.pc) d.name = some (some (.ref f)) ∧ ∀ j, j < 6 → d.name ≠ fldN j
 init : d.kind = 3 → d.name = "__init__"
structure Text (T : Tp) (P : Tab) : Prop where
 TO : T.Ok
 PC : PgCls T
 XC : XcOk T
 XL : XcLk T
 XI : ∀ c, c ≤ 5 → T.mg (xcN c) = some (T.xc c)
 defs : ∀ k d, P.lookup k = some d → ∃ f o fd body, Here T P d f o fd body
section
variable {T : Tp} {P : Tab} {n k : Nat} {d : FnDef} {f : Addr} {o : Obj} {fd : FuncData} {body : List Stmt} {A : Around}
theorem Room.deeper (h : Room (n + 1) A) (env : Env) : Room n (A.deeper env) :=
 ⟨h.hand, Nat.lt_of_le_of_lt (by show A.units + 3 + 10 * n + 210 ≤ A.units + 10 * (n + 1) + 210; lia) h.units, Nat.lt_of_le_of_lt (by show A.depth + 1 + 4 * n + 24 ≤ A.depth + 4 * (n + 1) + 24; lia) h.depth⟩
theorem Room.by {a : Addr} {vs : List Value} (h : Room (n + 1) A) (env : Env) : Room n ((A.deeper env).under (.builtin "type.__call__" ⟨.ref a :: vs, []⟩)) :=
 have u : (Code.builtin "type.__call__" ⟨.ref a :: vs, []⟩).cUnits ≤ 7 := Nat.le_of_ble_eq_true rfl
 have v : (Code.builtin "type.__call__" ⟨.ref a :: vs, []⟩).weight ≤ 3 := Nat.le_of_ble_eq_true rfl
 ⟨h.hand, Nat.lt_of_le_of_lt (by show A.units + 3 + _ + 10 * n + 210 ≤ A.units + 10 * (n + 1) + 210; lia) h.units, Nat.lt_of_le_of_lt (by show A.depth + 1 + _ + 4 * n + 24 ≤ A.depth + 4 * (n + 1) + 24; lia) h.depth⟩
theorem fn_all (X : Text T P) (n : Nat) : ∀ k d f o fd body, P.lookup k = some d → Here T P d f o fd body → ∀ cx : Cx, cx.T = T → Room n cx.A → FnOk cx (d.kind != 0) f (Gam P n k) := by
 induction n with
 | zero => exact fun k d f o fd body hk H cx hT hR W tk vs fs p R _ _ _ h => h.elim
 | succ n ih =>
  intro k d f o fd body hk H cx hT hR
  have e : Gam P (n + 1) k = runDef (Gam P n) d.ps.length d.vs.length d.body := gam_s hk
  rw [e]
  subst hT
  refine def_ok X.TO H.at_ hR fun env es C F => (sS d.body (cx.callee (d.kind != 0) d env) (ftOf P) body ⟨⟨X.TO, X.PC, X.XC, X.XL, X.XI, fun k y hy h2 => ?_, fun k y hy h2 => ?_, fun y hy h2 => ?_⟩, C, fun _ => F, fun _ => rfl⟩ ?_).b H.b
  · obtain ⟨d', h3, rfl⟩ := msm hy
    obtain ⟨f', o', fd', b', H'⟩ := X.defs k d' h3
    refine ⟨f', H'.top h2, fun cx' h4 h5 => ⟨⟨o', fd', by rw [h4]; exact H'.at_.at_, H'.at_.data⟩, ?_⟩⟩
    have := ih k d' f' o' fd' b' h3 H' cx' h4 (by rw [h5]; exact hR.deeper env)
    rwa [show (d'.kind != 0) = (d'.kind == 1) by revert h2; generalize d'.kind = z; intro (h2 : z < 2); match z, h2 with | 0, _ => rfl | 1, _ => rfl] at this
  · obtain ⟨d', h3, rfl⟩ := msm hy
    obtain ⟨f', o', fd', b', H'⟩ := X.defs k d' h3
    have h2 : d'.kind = 2 := h2
    obtain ⟨h6, h7, h8⟩ := H'.meth (Nat.le_of_eq h2.symm)
    refine ⟨h8, f', h7, h6, fun cx' h4 h5 => ⟨⟨o', fd', by rw [h4]; exact H'.at_.at_, H'.at_.data⟩, ?_⟩⟩
    have := ih k d' f' o' fd' b' h3 H' cx' h4 (by rw [h5]; exact hR.deeper env)
    rwa [h2] at this
  · obtain ⟨d', h3, rfl⟩ := msm hy
    obtain ⟨f', o', fd', b', H'⟩ := X.defs 0 d' h3
    have h2 : d'.kind = 3 := h2
    obtain ⟨h6, h7, h8⟩ := H'.meth (by rw [h2]; decide)
    rw [H'.init h2] at h7
    refine ⟨f', h7, h6, fun cx' vs h4 h5 => ?_⟩
    have := ih 0 d' f' o' fd' b' h3 H' (cx'.by vs) h4 (by show Room n (cx'.A.under _); rw [h5]; exact hR.by env)
    rwa [h2] at this
  · show ms (d.ps ++ d.vs) env.scope.names (d.kind != 0) d.body (ftOf P) body = true
    rw [es]; exact H.text
end
end Mine.Internal
end
section
open PySem.W
namespace Mine.Internal
theorem bind_plain {fd : FuncData} {ps : List Str} {vs : List Value} (h1 : fd.params.posonlyargs = []) (h2 : fd.params.args.map (·.arg) = ps) (h3 : fd.params.vararg = none) (h4 : fd.params.kwonlyargs = []) (h5 : fd.params.kwarg = none) (h6 : fd.defaults = .none)
  (hn : ps.Nodup) (hl : vs.length = ps.length) : bindArgs fd ⟨vs, []⟩ = pure (ps.zip vs) := by
 have look : ∀ (ps : List Str) (vs : List Value), ps.Nodup → vs.length = ps.length → (∀ p ∈ ps, ((ps.zip vs).lookup p).isSome = true) ∧ (ps.filterMap fun n => ((ps.zip vs).lookup n).map fun v => (n, v)) = ps.zip vs := by
  intro ps
  induction ps with
  | nil => intro vs _ _; exact ⟨fun p hp => (nomatch hp), rfl⟩
  | cons p ps ih =>
   intro vs hn hl
   cases vs with
   | nil => simp at hl
   | cons v vs =>
    obtain ⟨hp, hn⟩ := List.nodup_cons.mp hn
    obtain ⟨i1, i2⟩ := ih vs hn (by simpa using hl)
    have ne : ∀ q ∈ ps, (q == p) = false := fun q hq => by
     have : q ≠ p := fun e => hp (e ▸ hq)
     simp [this]
    refine ⟨fun q hq => ?_, ?_⟩
    · rcases List.mem_cons.mp hq with rfl | hq
      · simp [List.lookup]
      · rw [List.zip_cons_cons, List.lookup_cons, ne q hq]; exact i1 q hq
    · rw [List.zip_cons_cons, List.filterMap_cons]
      have e0 : (List.lookup p ((p, v) :: ps.zip vs)) = some v := by simp [List.lookup]
      rw [e0]
      simp only [Option.map_some]
      congr 1
      have aux : ∀ (l : List Str), (∀ q ∈ l, (q == p) = false) → (l.filterMap fun n => (List.lookup n ((p, v) :: ps.zip vs)).map fun v => (n, v)) = l.filterMap fun n => (List.lookup n (ps.zip vs)).map fun v => (n, v) := by
       intro l
       induction l with
       | nil => intro _; rfl
       | cons q l ih =>
        intro h
        rw [List.filterMap_cons, List.filterMap_cons, ih fun q hq => h q (.tail _ hq), List.lookup_cons, h q (.head _)]
      exact (aux ps ne).trans i2
 obtain ⟨l1, l2⟩ := look ps vs hn hl
 have miss : (ps.filter fun n => ((ps.zip vs).lookup n).isNone) = [] := by
  rw [List.filter_eq_nil_iff]
  intro p hp
  have := l1 p hp
  cases e : (ps.zip vs).lookup p with
  | none => rw [e] at this; cases this
  | some v => simp
 have hlen : ¬ (vs.length > ps.length) := by lia
 clear look l1 hn hl
 cases fd with
 | mk name qualname params body scope globals closure defaults kwdefaults pyModule code =>
 cases params with
 | mk po args va ko kd kw df =>
 dsimp only at h1 h2 h3 h4 h5 h6
 subst h1 h3 h4 h5 h6 h2
 refine (if_neg (c := (decide (vs.length > (args.map (·.arg)).length) && true) = true) (fun q => hlen (odt (and2 q).1))).trans ?_
 have hd : ∀ n : Nat, List.drop n ([] : List Value) = [] := fun n => List.drop_nil
 dsimp only [List.map_nil, List.nil_append, Option.getD_none]
 simp only [hd]
 refine (if_neg (c := (!(List.filter (fun n => (List.lookup n ((args.map (·.arg)).zip vs)).isNone) (List.take (args.map (·.arg)).length (args.map (·.arg)))).isEmpty) = true) (fun q => by rw [List.take_length, miss] at q; cases q)).trans ?_
 rw [List.zip_nil_right]
 show (pure (List.filterMap (fun n => Option.map (fun v => (n, v)) (List.lookup n ((List.map (fun x => x.arg) args).zip vs))) (List.map (fun x => x.arg) args ++ [])) : Sem (List (Str × Value))) = _
 rw [List.append_nil, l2]
noncomputable def plainPs (a : Arguments) : Bool := a.posonlyargs.isEmpty && a.vararg.isNone && a.kwonlyargs.isEmpty && a.kwarg.isNone
noncomputable def chk (P : Tab) (d : FnDef) (r : DefRec) : Bool :=
 r.name == d.name && plainPs r.params && r.params.args.map (·.arg) == d.ps && !r.scope.isCoroutine && !r.scope.isGenerator && decide (r.scope.kind = .function) &&
 d.ps.all (fun p => r.scope.names.lookup p == some .local || r.scope.names.lookup p == some .cell) && decide (d.ps ++ d.vs).Nodup && decide ((cellsFrom 0 r.scope.names []).map (·.1)).Nodup && isB d.body &&
 ms (d.ps ++ d.vs) r.scope.names (d.kind != 0) d.body (ftOf P) r.body
noncomputable def xcV (as : List Addr) (k : Nat) : Value := if k = 6 then .type "ValueError" else .ref (as.getD k 0)
noncomputable def tpOf (prog : Program) (w : World) (s : Shared) (mg mb : Str → Option Value) (pk : Frag) (pc : Addr) (as : List Addr) : Tp := ⟨prog, w, s, mg, mb, pk, pc, xcV as⟩
section
variable {prog p : Program} {w : World} {loose : List Str} {mean : ExcName → Option Value} {mg mb : Str → Option Value} {s : Shared} {h : Heap} {K : Frag} {pc : Addr} {as : List Addr} {P : Tab} {d : FnDef} {r : DefRec}
theorem fnAt_fd {T : Tp} {f : Addr} {o : Obj} {fd : FuncData} (hc : chk P d r = true) (at_ : T.s.heap.get? f = some o) (hd : o.data = .func fd) (cd : T.s.heap.CodeRec fd.code fd.qualname) (e1 : fd.params = r.params) (e2 : fd.body = .stmts r.body) (e3 : fd.scope = r.scope)
  (e4 : fd.closure = []) (e5 : fd.globals = mainGlobals) (e6 : fd.builtins = builtinsNs) (e7 : fd.defaults = .none) : FnAt T d f o fd r.body ∧ isB d.body = true ∧ ms (d.ps ++ d.vs) fd.scope.names (d.kind != 0) d.body (ftOf P) r.body = true := by
 unfold chk at hc
 obtain ⟨hc, c11⟩ := and2 hc
 obtain ⟨hc, c10⟩ := and2 hc
 obtain ⟨hc, c9⟩ := and2 hc
 obtain ⟨hc, c8⟩ := and2 hc
 obtain ⟨hc, c7⟩ := and2 hc
 obtain ⟨hc, c6⟩ := and2 hc
 obtain ⟨hc, c5⟩ := and2 hc
 obtain ⟨hc, c4⟩ := and2 hc
 obtain ⟨hc, c3⟩ := and2 hc
 obtain ⟨c1, c2⟩ := and2 hc
 unfold plainPs at c2
 simp only [Bool.and_eq_true, List.isEmpty_iff, Option.isNone_iff_eq_none] at c2
 obtain ⟨⟨⟨p1, p2⟩, p3⟩, p4⟩ := c2
 have nd : (d.ps ++ d.vs).Nodup := odt c8
 rw [← e1] at p1 p2 p3 p4 c3
 rw [← e3] at c4 c5 c6 c7 c9 c11
 refine ⟨⟨at_, hd, cd, e2, e4, e5, e6, (by simpa using c4), (by simpa using c5), odt c6, fun vs hl => bind_plain p1 (eq_of_beq c3) p2 p3 p4 e7 (List.nodup_append.mp nd).1 hl, fun q hq => ?_, nd, odt c9⟩, c10, c11⟩
 have := List.all_eq_true.mp c7 q hq
 exact (by simpa using this : fd.scope.names.lookup q = some .local ∨ fd.scope.names.lookup q = some .cell)
theorem here_top (T : Top p loose mean mg mb s.heap) (hr : r ∈ recsOf p) (hk : d.kind < 2) (hc : chk P d r = true) : ∃ f o fd body, Here (tpOf prog w s mg mb K pc as) P d f o fd body := by
 obtain ⟨f, o, pm, code, doc, h1, h2, h3, h4⟩ := T.fn r hr
 obtain ⟨h5, h6, h7⟩ := fnAt_fd (T := tpOf prog w s mg mb K pc as) (fd := docDef r.name r.params r.body r.scope pm code doc) hc h2 h3 h4 rfl rfl rfl rfl rfl rfl rfl
 have hn : r.name = d.name := by
  unfold chk at hc
  simp only [Bool.and_eq_true] at hc
  obtain ⟨⟨⟨⟨⟨⟨⟨⟨⟨⟨q, _⟩, _⟩, _⟩, _⟩, _⟩, _⟩, _⟩, _⟩, _⟩, _⟩ := hc
  exact eq_of_beq q
 exact ⟨f, o, _, r.body, h5, h6, h7, fun _ => hn ▸ h1, fun q => absurd q (Nat.not_le.mpr hk), fun q => absurd hk (by rw [q]; decide)⟩
noncomputable def bodyOf : FuncBody → Option (List Stmt)
 | .stmts b => some b
 | _ => none
noncomputable def strAt : Option Value → Option Str
 | some (.str x _) => some x
 | _ => none
noncomputable def fieldsOf : Data → Option (Array Value)
 | .fields vs => some vs
 | _ => none
noncomputable def refOf : Value → Option Addr
 | .ref a => some a
 | _ => none
noncomputable def codeOk (K : Frag) (cd : Value) (q : Str) : Bool := onS (refOf cd) fun c => onS (K.lookup c) fun o => onS (fieldsOf o.data) fun vs => strAt vs[1]? == some q
theorem code_of {K : Frag} {cd : Value} {q : Str} (X : K.In h) (e : codeOk K cd q = true) : h.CodeRec cd q := by
 obtain ⟨c, h1, e⟩ := onS_true e
 obtain ⟨o, h2, e⟩ := onS_true e
 obtain ⟨vs, h3, e⟩ := onS_true e
 have e4 := eq_of_beq e
 cases cd with
 | ref a =>
  cases h1
  have hd : o.data = .fields vs := by
   cases hq : o.data <;> rw [hq] at h3 <;> first | (cases h3; rfl) | cases h3
  cases hv : vs[1]? with
  | none => rw [hv] at e4; cases e4
  | some v =>
   rw [hv] at e4
   cases v with
   | str x t => cases e4; exact ⟨_, o, vs, t, rfl, X _ _ h2, hd, hv⟩
   | _ => cases e4
 | _ => cases h1
noncomputable def funcOf : Data → Option FuncData
 | .func fd => some fd
 | _ => none
theorem funcOf_eq {x : Data} {fd : FuncData} (h : funcOf x = some fd) : x = .func fd := by
 cases x <;> first | (cases h; rfl) | cases h
noncomputable def methChk (K : Frag) (pc : Addr) (P : Tab) (d : FnDef) (f : Addr) : Bool := onS (K.lookup f) fun o => onS (funcOf o.data) fun fd => onS (bodyOf fd.body) fun b =>
 chk P d ⟨d.name, fd.params, b, fd.scope, default⟩ && fd.globals == mainGlobals && fd.closure.isEmpty && fd.builtins == builtinsNs && fd.defaults == .none && codeOk K fd.code fd.qualname && decide (2 ≤ d.kind) && (d.kind != 3 || d.name == "__init__") &&
 typeIn K (.ref f) == some (.type "function") && findIn K (.ref pc) d.name == some (some (.ref f)) && (List.range 6).all fun j => d.name != fldN j
theorem here_meth {f : Addr} (X : K.In s.heap) (e : methChk K pc P d f = true) : ∃ f o fd body, Here (tpOf prog w s mg mb K pc as) P d f o fd body := by
 obtain ⟨o, h1, e⟩ := onS_true e
 obtain ⟨fd, h2, e⟩ := onS_true e
 obtain ⟨b, h3, e⟩ := onS_true e
 obtain ⟨e, c11⟩ := and2 e
 obtain ⟨e, c10⟩ := and2 e
 obtain ⟨e, c9⟩ := and2 e
 obtain ⟨e, c8⟩ := and2 e
 obtain ⟨e, c7⟩ := and2 e
 obtain ⟨e, c6⟩ := and2 e
 obtain ⟨e, c5⟩ := and2 e
 obtain ⟨e, c4⟩ := and2 e
 obtain ⟨e, c3⟩ := and2 e
 obtain ⟨c1, c2⟩ := and2 e
 have hb : fd.body = .stmts b := by
  cases hq : fd.body with
  | stmts b' => rw [hq] at h3; cases h3; rfl
  | _ => rw [hq] at h3; cases h3
 have hk := odt c7
 obtain ⟨h5, h6, h7⟩ := fnAt_fd (T := tpOf prog w s mg mb K pc as) c1 (X _ _ h1) (funcOf_eq h2) (code_of X c6) rfl hb rfl (lem c3) (eq_of_beq c2) (eq_of_beq c4) (eq_of_beq c5)
 exact ⟨f, o, fd, b, h5, h6, h7, fun q => absurd q (Nat.not_lt.mpr hk), fun _ => ⟨eq_of_beq c9, eq_of_beq c10, fun j hj q => by have := List.all_eq_true.mp c11 j (List.mem_range.mpr hj); rw [q, bne_self_eq_false] at this; cases this⟩, fun q => by rw [q] at c8; exact eq_of_beq c8⟩
noncomputable def biOk (p : Program) (loose : List Str) : Bool := biTab.all fun x => !startupNames.contains x.1 && !loose.contains x.1 && !((recsOf p).map (·.name)).contains x.1 && !((litsOf p).map (·.1)).contains x.1 && !((clssOf p loose).map (·.name)).contains x.1
theorem bi_boot : ∀ q ∈ biTab, q.1 ≠ ("__name__" : Str) ∧ bootBuiltins q.1 = some q.2 := by
 unfold biTab
 intro q hq
 simp only [List.mem_cons, List.not_mem_nil, or_false] at hq
 rcases hq with rfl | rfl | rfl | rfl | rfl | rfl | rfl | rfl | rfl | rfl | rfl | rfl <;> exact ⟨by decide +kernel, by decide +kernel⟩
theorem opn_of {a : Addr} {n : Nat} {h1 h2 h3 : Int} {t1 t2 t3 u1 u2 u3 : Tok} {k1 k2 k3 v1 v2 v3 : Str} (X : K.In h) (G : h.Ns mainGlobals mg) (e : nsIn K mainGlobals "OPENING" = some (some (.ref a)))
  (hl : K.lookup a = some ⟨.type "dict", none, .dict #[⟨h1, .str k1 t1, .str v1 u1⟩, ⟨h2, .str k2 t2, .str v2 u2⟩, ⟨h3, .str k3 t3, .str v3 u3⟩] n, #[]⟩)
  (hk : KeysLit w.params [⟨h1, .str k1 t1, .str v1 u1⟩, ⟨h2, .str k2 t2, .str v2 u2⟩, ⟨h3, .str k3 t3, .str v3 u3⟩])
  (c1 : k1 = S [41]) (c2 : k2 = S [93]) (c3 : k3 = S [125]) (d1 : v1 = S [40]) (d2 : v2 = S [91]) (d3 : v3 = S [123]) (hs : (a == sysModules) = false) :
  ∃ a m, mg "OPENING" = some (.ref a) ∧ (a == sysModules) = false ∧ (∀ h' : Heap, (∀ b o, h.get? b = some o → h'.get? b = some o) → h'.MapOf (strKind prog w) a m) ∧
   ∀ x, (∀ y, openF x = some y → ∃ t, m x = some (.str y t)) ∧ (openF x = none → m x = none) := by
 refine ⟨a, _, mg_of X G e, hs, fun h' hh => mapOf_K (prog := prog) (X.keeps fun b o e => hh b o e) hl hk, fun x => ?_⟩
 subst c1 c2 c3 d1 d2 d3
 have key : ∀ l : List Nat, (S l == x) = decide (cs x = l) := fun l => by
  cases hx : decide (cs x = l) with
  | true => rw [← odt hx, S_cs, beq_self_eq_true]
  | false => exact bfi fun q => of_decide_eq_false hx (by rw [← eq_of_beq q, cs_S])
 unfold findBy openF
 rw [List.find?_toArray]
 simp only [List.find?, Value.isStrOf, key]
 by_cases e1 : cs x = [41]
 · simp [e1]
 · by_cases e2 : cs x = [93]
   · simp [e2]
   · by_cases e3 : cs x = [125]
     · simp [e3]
     · simp [e1, e2, e3]
theorem top_ok (T : Top p loose mean mg mb s.heap) (hb : biOk p loose = true) (g0 : PyProof.Rows.valOf p "MOST_ROWS" = some (.int 64)) (g1 : PyProof.Rows.valOf p "MOST_SIGNS" = some (.int 120)) (g2 : PyProof.Rows.valOf p "OPENERS" = some (.str (S [40, 91, 123])))
  (hs : ∃ o, s.heap.get? sysModules = some o)
  (ho : ∃ a m, mg "OPENING" = some (.ref a) ∧ (a == sysModules) = false ∧ (∀ h' : Heap, (∀ b o, s.heap.get? b = some o → h'.get? b = some o) → h'.MapOf (strKind prog w) a m) ∧
   ∀ x, (∀ y, openF x = some y → ∃ t, m x = some (.str y t)) ∧ (openF x = none → m x = none)) : (tpOf prog w s mg mb K pc as).Ok := by
 refine ⟨T.g, T.b, T.nolimit, hs, fun k x d hk => ?_, fun x v hx => ?_, ho⟩
 · have key : ∀ {x : Str} {d : PyData}, PyProof.Rows.valOf p x = some d → ∃ v, mg x = some v ∧ ∀ W, Rep W v d := fun g => let ⟨v, h1, h2⟩ := T.const _ _ g; ⟨v, h1, fun W => ⟨[], h2 _⟩⟩
   match k, hk with
   | 0, hk => cases hk; exact key g0
   | 1, hk => cases hk; exact key g1
   | 2, hk => cases hk; exact key g2
   | k + 3, hk => cases hk
 · have hm := mem_of_lookup hx
   have hc := List.all_eq_true.mp hb _ hm
   simp only [Bool.and_eq_true, Bool.not_eq_true', List.contains_eq_mem, decide_eq_false_iff_not] at hc
   obtain ⟨⟨⟨⟨c1, c2⟩, c3⟩, c4⟩, c5⟩ := hc
   obtain ⟨b1, b2⟩ := bi_boot _ hm
   exact ⟨T.free x c1 c2 c3 c4 c5, (T.builtins x b1).trans b2⟩
noncomputable def pgChk (K : Frag) (pc : Addr) : Bool := findIn K (.ref pc) "__getattribute__" == some (some (.builtin "object.__getattribute__")) && findIn K (.ref pc) "__getattr__" == some none && ((List.range 6).all fun j => findIn K (.ref pc) (fldN j) == some none) &&
 (clsIn K pc).any (·.hasDict) && findIn K (.ref pc) "__setattr__" == some (some (.builtin "object.__setattr__")) && plainOver K pc && keepIn K (.ref pc) && makesIn K pc && nsIn K mainGlobals "Page" == some (some (.ref pc))
theorem pg_of (X : K.In s.heap) (G : s.heap.Ns mainGlobals mg) (e : pgChk K pc = true) : PgCls (tpOf prog w s mg mb K pc as) := by
 obtain ⟨e, c9⟩ := and2 e
 obtain ⟨e, c8⟩ := and2 e
 obtain ⟨e, c7⟩ := and2 e
 obtain ⟨e, c6⟩ := and2 e
 obtain ⟨e, c5⟩ := and2 e
 obtain ⟨e, c4⟩ := and2 e
 obtain ⟨e, c3⟩ := and2 e
 obtain ⟨c1, c2⟩ := and2 e
 exact ⟨X, eq_of_beq c1, eq_of_beq c2, fun j hj => eq_of_beq (List.all_eq_true.mp c3 j (List.mem_range.mpr hj)), c4, eq_of_beq c5, c6, c7, c8, mg_of X G (eq_of_beq c9)⟩
noncomputable def xcChk1 (K : Frag) (as : List Addr) (k : Nat) : Bool := (List.range 7).all fun c => subIn K (xcV as k) (xcV as c) == some (subX k c)
noncomputable def xcChk2 (K : Frag) (as : List Addr) (c : Nat) : Bool := (clsIn K (as.getD c 0)).isSome && typeIn K (xcV as c) == some (.type "type") && subIn K (xcV as c) (.type "BaseException") == some true && nsIn K mainGlobals (xcN c) == some (some (xcV as c))
theorem isType_of {C : Addr} (X : K.In h) (e : (clsIn K C).isSome = true) (M : Model) : Looks M h (isType (.ref C)) true := by
 delta clsIn at e
 cases ho : K.lookup C with
 | none => rw [ho] at e; cases e
 | some o =>
  obtain ⟨c', d', dd, sl'⟩ := o
  rw [ho] at e
  cases dd with
  | cls cd =>
   intro A' Q' E' s' k q
   unfold isType loadHead
   exact wpAny_bind (wpAny_loadPart (k _ _ (X _ _ ho)) (wpAny_pure q))
  | _ => cases e
theorem type_type : typeOf (.type "ValueError") = pure (.type "type") := by
 show (pure (Value.type ((Manifest.find? "ValueError").elim "type" (·.metatype))) : Sem Value) = pure (.type "type")
 rw [find?_eq_fast]; kernel_rfl
theorem xcV_ref {c : Nat} (h : c ≤ 5) : xcV as c = .ref (as.getD c 0) := if_neg fun q => by rw [q] at h; exact absurd h (by decide)
section
variable (X : K.In s.heap) (G : s.heap.Ns mainGlobals mg) (e1 : ((List.range 5).all fun k => xcChk1 K as k) = true) (e2 : ((List.range 6).all fun c => xcChk2 K as c) = true)
include X e2
theorem xc_ty {c : Nat} (hc : c ≤ 6) (M : Model) : Looks M s.heap (typeOf (xcV as c)) (.type "type") := by
 rcases Nat.lt_or_ge c 6 with q | q
 · have := and2 (and2 (and2 (List.all_eq_true.mp e2 c (List.mem_range.mpr q))).1).1
   exact looks_typeIn X (eq_of_beq this.2)
 · cases Nat.le_antisymm hc q; exact Looks.of_pure type_type
theorem xc_isT {c : Nat} (hc : c ≤ 6) (M : Model) : Looks M s.heap (isType (xcV as c)) true := by
 rcases Nat.lt_or_ge c 6 with q | q
 · have := and2 (and2 (and2 (List.all_eq_true.mp e2 c (List.mem_range.mpr q))).1).1
   rw [xcV_ref (Nat.le_of_lt_succ q)]
   exact isType_of X this.1 M
 · cases Nat.le_antisymm hc q; exact Looks.of_pure rfl
include G e1
theorem xlk_of : ∀ c, c ≤ 5 → mg (xcN c) = some (xcV as c) := fun c hc => mg_of X G (eq_of_beq (and2 (List.all_eq_true.mp e2 c (List.mem_range.mpr (Nat.lt_succ_of_le hc)))).2)
theorem xl_of' : XcLk (tpOf prog w s mg mb K pc as) := by
 refine ⟨fun c hc => (xc_ty X e2 (Nat.le_succ_of_le hc) _).andThen (looks_subIn X (by kernel_rfl)), fun c hc => ?_, fun k c hk hc => looks_subIn X (eq_of_beq (List.all_eq_true.mp (List.all_eq_true.mp e1 k (List.mem_range.mpr hk)) c (List.mem_range.mpr (Nat.lt_succ_of_le hc))))⟩
 exact (xc_isT X e2 (Nat.le_succ_of_le hc) _).andThen (looks_subIn X (eq_of_beq (and2 (and2 (List.all_eq_true.mp e2 c (List.mem_range.mpr (Nat.lt_succ_of_le hc)))).1).2))
theorem xco_of (T : Top p loose mean mg mb s.heap) (hs : ∀ k, k < 5 → specOf p (xcN k) = some ("ValueError.__new__", [.type "ValueError", .type "Exception", .type "BaseException", .type "object"])) : XcOk (tpOf prog w s mg mb K pc as) := fun k hk => by
 obtain ⟨C, O, _⟩ := T.ownAt (hs k hk)
 refine ⟨C, _, _, _, ?_, O, F.excBase_ValueError, by decide +kernel⟩
 have h1 := mg_of X G (eq_of_beq (and2 (List.all_eq_true.mp e2 k (List.mem_range.mpr (Nat.lt_succ_of_lt hk)))).2)
 exact Option.some.inj (h1.symm.trans O.bound)
end
end
end Mine.Internal
end
section
open PySem.W
namespace Mine.Internal
noncomputable def topT (h : Heap) : Tags := fun b => if (h.get? b).isSome then .fz else .junk
theorem topT_at {h : Heap} {b : Addr} {o : Obj} (e : h.get? b = some o) : topT h b = .fz := by unfold topT; rw [e]; rfl
theorem top_wok {T : Tp} : Wok T true [] ⟨topT T.s.heap, T.s.heap⟩ := by
 have no : ∀ b, topT T.s.heap b = .fz ∨ topT T.s.heap b = .junk := fun b => by
  unfold topT
  cases (T.s.heap.get? b).isSome with
  | true => exact .inl rfl
  | false => exact .inr rfl
 refine ⟨fun b e => ?_, fun b o e => ⟨e, topT_at e⟩, fun k fl e => (nomatch e), fun x y k e => ?_, fun _ x k e => ?_, fun b o d e => ?_⟩
 · show topT T.s.heap b = _
   unfold topT
   rw [show T.s.heap.get? b = none from e]; rfl
 · rcases no x with q | q <;> cases q.symm.trans e
 · rcases no x with q | q <;> cases q.symm.trans e
 · rcases no b with q | q <;> cases q.symm.trans e
theorem run_law {T : Tp} {P : Tab} {k N : Nat} {d : FnDef} {fa : Addr} {A : Around} {vs : List Value} {ds : List PyData} {p' : List Slots} {Q : VP} {E : VP}
  (X : Text T P) (hk : P.lookup k = some d) (h1 : d.kind = 1) (hm : T.mg d.name = some (.ref fa)) (hR : Room N A) (hf : A.frames = some []) (hv : RepAll ⟨topT T.s.heap, T.s.heap⟩ vs ds) (hr : Gam P N k [] (ds.map .val) = .ret (.val (.bool true)) p')
  (hq : ∀ h' tk, (∀ b o, T.s.heap.get? b = some o → h'.get? b = some o) → Q (.bool true) { T.s with heap := h', toks := tk }) :
  wpAny (model T.prog T.w) A (call (.ref fa) vs) Q E T.s := by
 obtain ⟨f, o, fd, body, H⟩ := X.defs k d hk
 cases (H.top (by rw [h1]; decide)).symm.trans hm
 have F := fn_all X N k d fa o fd body hk H { T := T, A := A, env := default, nm := [], d := 0, c := true, full := false, h := false } rfl hR
 rw [h1] at F
 have args : ∀ {vs : List Value} {ds : List PyData}, RepAll ⟨topT T.s.heap, T.s.heap⟩ vs ds → ArgR (Cx.up { T := T, A := A, env := default, nm := [], d := 0, c := true, full := false, h := false } true) ⟨topT T.s.heap, T.s.heap⟩ vs (ds.map .val) := fun {vs ds} h => by
  induction ds generalizing vs with
  | nil => cases h.inv0; trivial
  | cons d ds ih => obtain ⟨v, vs', rfl, r, r'⟩ := h.inv; exact ⟨⟨rfl, r⟩, ih r'⟩
 refine wpAny_call (codeAny_mono (F ⟨topT T.s.heap, T.s.heap⟩ T.s.toks vs _ [] (fun r s => match r with | .ok (.ret v) => Q v s | _ => False) top_wok ⟨[], hf, fun e he => nomatch he⟩ (args hv) ?_) fun r s h => ?_)
 · rw [hr]
   intro W' tk v l K' r _
   cases show v = .bool true from Rep.inv (d := .bool true) r
   exact hq W'.h tk fun b o e => (K'.top b o e).1
 · rcases r with e | (v | _ | _ | _) <;> first | exact h | exact h.elim
theorem rep_ints {W : Ws} : ∀ {vs : List Value} {xs : List Int}, IntsAre vs xs → RepAll W vs (xs.map .int)
 | _, _, .nil => .nil
 | _, _, .cons _ _ h => .cons .int (rep_ints h)
end Mine.Internal
end
section
namespace Mine.Internal
section
variable {Γ : Nat → Fn} {st st1 st2 : St} {f : F} {fs ys : List F} {a b c e es : CE} {s t : CS} {k : Nat} {o : Op} {p : Pl}
theorem ev_cons (h1 : ev Γ a st = .ok [f] st1) (h2 : ev Γ b st1 = .ok ys st2) : ev Γ (.cons a b) st = .ok (f.frz :: ys) st2 := by
 show (ev Γ a st).bind _ = _
 rw [h1]
 show (ev Γ b st1).bind _ = _
 rw [h2]; rfl
theorem ev_ci {i : Int} (h1 : ev Γ a st = .ok [.val (.int i)] st1) (h2 : ev Γ b st1 = .ok ys st2) : ev Γ (.cons a b) st = .ok (.val (.int i) :: ys) st2 := ev_cons h1 h2
theorem ev_cs {l : List Nat} (h1 : ev Γ a st = .ok [.val (.str (S l))] st1) (h2 : ev Γ b st1 = .ok ys st2) : ev Γ (.cons a b) st = .ok (.val (.str (S l)) :: ys) st2 := ev_cons h1 h2
theorem ev_op (h : ev Γ es st = .ok fs st1) : ev Γ (.op o es) st = opE o fs st1 := by show (ev Γ es st).bind _ = _; rw [h]; rfl
theorem ev_call {pure : Bool} (h : ev Γ es st = .ok fs st1) : ev Γ (.call pure k es) st = callE Γ pure k fs st1 := by show (ev Γ es st).bind _ = _; rw [h]; rfl
theorem ev_new (h : ev Γ es st = .ok fs st1) : ev Γ (.new es) st = newE Γ fs st1 := by show (ev Γ es st).bind _ = _; rw [h]; rfl
theorem ex_assign (h : ev Γ e st = .ok fs st1) : ex Γ (.assign p e) st = asgE p fs st1 := by show (ev Γ e st).bind _ = _; rw [h]; rfl
theorem ex_next (h : ex Γ s st = .ok .next st1) : ex Γ (.seq s t) st = ex Γ t st1 := by show (ex Γ s st).bind _ = _; rw [h]; rfl
theorem ex_done (h : ex Γ s st = .ok (.ret f) st1) : ex Γ (.seq s t) st = .ok (.ret f) st1 := by show (ex Γ s st).bind _ = _; rw [h]; rfl
theorem ex_exc (h : ex Γ s st = .exc k st1) : ex Γ (.seq s t) st = .exc k st1 := by show (ex Γ s st).bind _ = _; rw [h]; rfl
theorem ex_if {q : Bool} (h : ev Γ c st = .ok [bV q] st1) : ex Γ (.iff c s t) st = if q then ex Γ s st1 else ex Γ t st1 := by show (toB (ev Γ c st)).bind _ = _; rw [h]; rfl
theorem ex_then (h : ev Γ c st = .ok [bV true] st1) : ex Γ (.iff c s t) st = ex Γ s st1 := (ex_if h).trans rfl
theorem ex_skip (h : ev Γ c st = .ok [bV false] st1) : ex Γ (.seq (.iff c s .nil) t) st = ex Γ t st1 := ex_next ((ex_if h).trans rfl)
theorem ex_ret (h : ev Γ e st = .ok fs st1) : ex Γ (.ret e) st = retE fs st1 := by show (ev Γ e st).bind _ = _; rw [h]; rfl
theorem ret_val {d : PyData} (h : ev Γ e st = .ok [.val d] st1) : ex Γ (.ret e) st = .ok (.ret (.val d)) st1 := (ex_ret h).trans rfl
theorem ret_exc (h : ev Γ e st = .exc k st1) : ex Γ (.ret e) st = .exc k st1 := by show (ev Γ e st).bind _ = _; rw [h]; rfl
theorem ex_try (h : ex Γ s st = .exc k st1) : ex Γ (.try_ s t) st = ex Γ t { st1 with x := k } := by show tryE (ex Γ s st) _ = _; rw [h]; rfl
end
end Mine.Internal
end
section
namespace Mine.Internal.S
noncomputable abbrev n_1 (a : CE) : CE := .cons a .nil
noncomputable abbrev n_2 (a b : CE) : CE := .cons a (.cons b .nil)
noncomputable abbrev bA (a b : CE) : CE := .op (.bin .Add) (n_2 a b)
noncomputable abbrev bM (a b : CE) : CE := .op (.bin .Mod) (n_2 a b)
noncomputable abbrev bX (a b : CE) : CE := .op (.bin .Mult) (n_2 a b)
noncomputable abbrev bS_ (a b : CE) : CE := .op (.bin .Sub) (n_2 a b)
noncomputable abbrev bF (a b : CE) : CE := .op (.bin .FloorDiv) (n_2 a b)
noncomputable abbrev n_3 (a b c : CE) : CE := .cons a (.cons b (.cons c .nil))
noncomputable abbrev n_4 (a b c d : CE) : CE := .cons a (.cons b (.cons c (.cons d .nil)))
noncomputable abbrev n_6 (a b c d e f : CE) : CE := .cons a (.cons b (.cons c (.cons d (.cons e (.cons f .nil)))))
noncomputable abbrev n_10 (a b c d e f g h i j : CE) : CE := .cons a (.cons b (.cons c (.cons d (.cons e (.cons f (.cons g (.cons h (.cons i (.cons j .nil)))))))))
noncomputable abbrev q_0 : CE := .get (.loc 0)
noncomputable abbrev q_1 : CE := .get (.loc 1)
noncomputable abbrev q_2 : CE := .get (.loc 2)
noncomputable abbrev q_3 : CE := .get (.loc 3)
noncomputable abbrev q_4 : CE := .get (.loc 4)
noncomputable abbrev q_5 : CE := .get (.loc 5)
noncomputable abbrev q_6 : CE := .get (.loc 6)
noncomputable abbrev q_7 : CE := .get (.loc 7)
noncomputable abbrev q_8 : CE := .get (.loc 8)
noncomputable abbrev q_9 : CE := .get (.loc 9)
noncomputable abbrev q_10 : CE := .get (.loc 10)
noncomputable abbrev q_11 : CE := .get (.loc 11)
noncomputable abbrev q_12 : CE := .get (.loc 12)
noncomputable abbrev q_13 : CE := .get (.loc 13)
noncomputable abbrev l_0 : CE := .lit (.int 0)
noncomputable abbrev l_1 : CE := .lit (.int 1)
noncomputable abbrev l_2 : CE := .lit (.int 2)
noncomputable abbrev l_3 : CE := .lit (.int 3)
noncomputable abbrev l_4 : CE := .lit (.int 4)
noncomputable abbrev l_5 : CE := .lit (.int 5)
noncomputable abbrev l_6 : CE := .lit (.int 6)
noncomputable abbrev l_7 : CE := .lit (.int 7)
noncomputable abbrev l_8 : CE := .lit (.int 8)
noncomputable abbrev l_9 : CE := .lit (.int 9)
noncomputable abbrev l_10 : CE := .lit (.int 10)
noncomputable abbrev l_11 : CE := .lit (.int 11)
noncomputable abbrev l_24 : CE := .lit (.int 24)
noncomputable abbrev l_32 : CE := .lit (.int 32)
noncomputable abbrev l_37 : CE := .lit (.int 37)
noncomputable abbrev l_56 : CE := .lit (.int 56)
noncomputable abbrev l_63 : CE := .lit (.int 63)
noncomputable abbrev l_64 : CE := .lit (.int 64)
noncomputable abbrev l_94 : CE := .lit (.int 94)
noncomputable abbrev l_100 : CE := .lit (.int 100)
noncomputable abbrev l_118 : CE := .lit (.int 118)
noncomputable abbrev l_120 : CE := .lit (.int 120)
noncomputable abbrev l_126 : CE := .lit (.int 126)
noncomputable abbrev l_10007 : CE := .lit (.int 10007)
noncomputable abbrev l_10009 : CE := .lit (.int 10009)
noncomputable abbrev l_16807 : CE := .lit (.int 16807)
noncomputable abbrev l_48271 : CE := .lit (.int 48271)
noncomputable abbrev l_69621 : CE := .lit (.int 69621)
noncomputable abbrev l_100003 : CE := .lit (.int 100003)
noncomputable abbrev l_100019 : CE := .lit (.int 100019)
noncomputable abbrev l_2147483647 : CE := .lit (.int 2147483647)
noncomputable def rowB : CS := .seq (.iff (.not (.call true 1 (n_1 q_1))) (.seq (.ret (.lit (.bool false))) .nil) .nil) .nil
noncomputable def textB : CS := .seq (.iff (.not (.call true 2 (n_1 q_1))) (.seq (.ret (.lit (.bool false))) .nil) .nil) .nil
noncomputable def jB : CS := .seq (.iff (.cmpNil false (.loc 5)) (.seq (.append (.loc 3) (.call true 7 (n_2 q_6 q_2))) .nil) (.seq (.iff (.cmp .NotEq (n_2 (.op .idx (n_2 (.peek .pop (.loc 5) .nil) l_0)) (.op .getOpen (n_1 (.op .idx (n_2 q_6 l_0)))))) (.seq (.ret (.op .tup (n_3 q_3 (.call true 7 (n_2 q_6 q_2)) (.op .lst .nil)))) .nil) .nil) .nil)) .nil
noncomputable def rB : CS := .seq (.iff (.call true 4 (n_1 q_3)) (.seq (.assign (.loc 5) (.op .tup (n_3 q_3 l_0 q_2))) (.seq (.assign (.loc 6) (.op .tup (n_3 (.op .lst .nil) (.lit .none) (.op .lst (n_1 q_5))))) (.seq (.iff (.inOpen q_3) (.seq (.assign (.loc 6) (.op .tup (n_3 (.op .lst (n_1 q_5)) (.lit .none) (.op .lst .nil)))) .nil) .nil) (.seq (.assign (.loc 1) (.call true 9 (n_3 q_1 q_6 l_0))) .nil)))) .nil) .nil
noncomputable def aA : CS := .iff (.and q_5 (.cmp .IsNot (n_2 q_2 (.lit .none)))) (.seq (.append (.loc 1) (.op .tup (n_3 q_2 (.op (.slc true true) (n_3 q_0 q_2 q_3)) q_3))) (.seq (.assign (.loc 2) (.lit .none)) .nil)) .nil
noncomputable def aC : CS := .iff (.call true 4 (n_1 q_4)) (.seq (.append (.loc 1) (.op .tup (n_3 q_3 q_4 (bA q_3 l_1)))) .nil) (.seq (.iff (.and (.not q_5) (.cmp .Is (n_2 q_2 (.lit .none)))) (.seq (.assign (.loc 2) q_3) .nil) .nil) .nil)
noncomputable def aE : CE := .or (.cmp .Eq (n_2 q_4 (.lit (.str (S [32]))))) (.call true 4 (n_1 q_4))
noncomputable def aB : CS := .seq (.assign (.loc 5) aE) (.seq aA (.seq aC .nil))
noncomputable def s4 : CS := (.iff (.cmp .Eq (n_2 q_7 l_7)) (.seq (.assign (.loc 8) (.call true 31 (n_1 (bF q_5 l_63)))) (.seq (.assign (.loc 3) (bA q_3 (.op .idx (n_2 (.op .lst (n_2 (.lit (.str (S [97]))) q_8)) (.op .toInt (n_1 (.cmp .NotIn (n_2 q_8 (.lit (.str (S [40, 41, 91, 93, 123, 125]))))))))))) .nil)) (.seq (.assign (.loc 3) (bA q_3 (.op .idx (n_2 (.lit (.str (S [32, 120]))) (bM (bF q_5 l_63) l_2))))) .nil))
noncomputable def s3 : CS := (.iff (.and (.cmp .Lt (n_2 q_7 l_5)) (.cmp .NotEq (n_2 q_4 (.lit (.str (S [])))))) (.seq (.assign (.loc 3) (bA q_3 (.op .idx (n_2 q_4 l_0)))) (.seq (.assign (.loc 4) (.op (.slc true false) (n_2 q_4 l_1))) .nil)) (.seq s4 .nil))
noncomputable def s2 : CS := (.iff (.cmp .Lt (n_2 q_7 l_2)) (.seq (.assign (.loc 4) (bA (.op .idx (n_2 (.lit (.str (S [41, 93, 125]))) (bM (bF q_5 l_63) l_3))) q_4)) (.seq (.assign (.loc 3) (bA q_3 (.op .idx (n_2 (.lit (.str (S [40, 91, 123]))) (bM (bF q_5 l_63) l_3))))) .nil)) (.seq s3 .nil))
noncomputable def s1 : CS := (.iff (.or (.and q_2 (.cmp .Eq (n_2 (bM q_6 l_2) l_1))) (.and (.cmp .Eq (n_2 q_7 l_6)) (.not q_2))) (.seq (.assign (.loc 3) (bA q_3 (.lit (.str (S [10]))))) .nil) (.seq s2 .nil))
noncomputable def sB : CS := (.seq (.assign (.loc 5) (bM (bA (bA (bX q_5 l_48271) (bX l_11 q_6)) l_7) l_2147483647)) (.seq (.assign (.loc 7) (bM (bF q_5 l_7) l_9)) (.seq s1 .nil)))
noncomputable def t5 : CS := (.iff (.cmp .Eq (n_2 (bM (.call true 30 (n_2 q_0 l_2)) l_4) l_1)) (.seq (.assign (.loc 3) (bA (bA (.op (.slc false true) (n_2 q_3 q_4)) (.op .idx (n_2 (.lit (.str (S [40, 91, 123, 41, 93, 125, 32, 122]))) (bM (bM (bX q_1 l_16807) l_10009) l_8)))) (.op (.slc true false) (n_2 q_3 q_4)))) .nil) .nil)
noncomputable def t6 : CS := (.iff (.cmp .Eq (n_2 (bM (.call true 30 (n_2 q_0 l_2)) l_4) l_2)) (.seq (.assign (.loc 3) (bA (.op (.slc false true) (n_2 q_3 q_4)) (.op (.slc true false) (n_2 q_3 (bA q_4 l_1))))) .nil) .nil)
noncomputable def t7 : CS := (.iff (.cmp .Eq (n_2 (bM (.call true 30 (n_2 q_0 l_2)) l_4) l_3)) (.seq (.assign (.loc 3) (.op (.slc false true) (n_2 q_3 q_4))) .nil) .nil)
noncomputable def t9 : CS := (.iff (.cmp .Eq (n_2 (bM (bF (.call true 30 (n_2 q_0 l_2)) l_4) l_6) l_1)) (.seq (.assign (.loc 6) (.comp 7 1 (n_1 (bS_ l_100 (bM q_1 l_56))) (.call true 31 (n_1 (bA (.call true 30 (n_2 q_0 l_0)) (bX l_7 q_7)))) .nil)) (.seq (.append (.loc 5) (.sm .join (.lit (.str (S []))) (n_1 (.comp 7 0 q_6 q_7 (.cmp .NotIn (n_2 q_7 (.lit (.str (S [32, 40, 41, 91, 93, 123, 125]))))))))) .nil)) .nil)
noncomputable def t10 : CS := (.iff (.cmp .Eq (n_2 (bM (bF (.call true 30 (n_2 q_0 l_2)) l_24) l_6) l_1)) (.seq (.setidx (.loc 5) l_0 (bA (bX (.op .idx (n_2 (.lit (.str (S [32, 120]))) (bM q_1 l_2))) (bS_ l_118 (.op .len (n_1 (.peek .idx (.loc 5) (n_1 l_0)))))) (.peek .idx (.loc 5) (n_1 l_0)))) .nil) .nil)
noncomputable def c1 : CE := .comp 7 1 (n_1 (bS_ l_100 (bM q_1 l_56))) (.call true 31 (n_1 (bA (.call true 30 (n_2 q_0 l_0)) (bX l_7 q_7)))) .nil
noncomputable def c2 : CE := .comp 7 0 q_6 q_7 (.cmp .NotIn (n_2 q_7 (.lit (.str (S [32, 40, 41, 91, 93, 123, 125])))))
noncomputable def trB : CS := .seq (.iff (.inOpen q_6) (.seq (.assign (.loc 8) (.peek .pop (.loc 2) .nil)) (.seq (.setidx (.loc 1) q_8 (bA (.op (.slc false true) (n_2 (.peek .idx (.loc 1) (n_1 q_8)) l_4)) (.op .tup (n_2 q_3 q_7)))) .nil)) (.seq (.append (.loc 1) (.op .tup (n_6 (.peek .len (.loc 2) .nil) q_6 q_3 q_5 q_3 q_7))) (.seq (.iff (.call true 4 (n_1 q_6)) (.seq (.append (.loc 2) (bS_ (.peek .len (.loc 1) .nil) l_1)) .nil) .nil) .nil))) .nil
noncomputable def apB : CS := .seq (.append (.fld 0 5) (.op .tup (n_2 q_4 (bS_ (bA q_4 (.peek .len (.loc 3) .nil)) q_2)))) .nil
noncomputable def lpA : CS := .loop false [4] 1 (n_2 (bA q_1 q_2) (.peek .len (.fld 0 0) .nil)) apB
noncomputable def dP1 : CE := .op .lst (n_10 (.lit (.str (S [40]))) (.lit (.str (S [41]))) (.lit (.str (S [91]))) (.lit (.str (S [93]))) (.lit (.str (S [123]))) (.lit (.str (S [125]))) (.lit (.str (S [10]))) (.lit (.str (S [32]))) (.lit (.str (S [97]))) (.call true 31 (n_1 (bF q_1 l_11))))
noncomputable def dP : CS := .seq (.assign (.loc 4) dP1) (.seq (.assign (.loc 5) (.op .idx (n_2 q_4 (bM (bM (bX q_1 l_48271) l_10007) l_10)))) (.seq (.iff (.or (.and (.cmp .Eq (n_2 q_5 (.lit (.str (S [10]))))) (.cmp .Eq (n_2 (.op .len (n_1 q_0)) l_64))) (.and (.cmp .NotEq (n_2 q_5 (.lit (.str (S [10]))))) (.cmp .Eq (n_2 (.op .len (n_1 (.op .idx (n_2 q_0 q_2)))) l_120)))) (.seq (.ret (.lit .none)) .nil) .nil) (.seq (.ret (.op .tup (n_4 l_0 q_2 q_3 q_5))) .nil)))
noncomputable def dC : CS := .seq (.iff (.cmp .Lt (n_2 q_3 (.op .len (n_1 (.op .idx (n_2 q_0 q_2)))))) (.seq (.ret (.op .tup (n_4 l_1 q_2 q_3 (.lit (.str (S [])))))) .nil) .nil) (.seq (.iff (.or (.cmp .Eq (n_2 (bA q_2 l_1) (.op .len (n_1 q_0)))) (.cmp .Gt (n_2 (bA (.op .len (n_1 (.op .idx (n_2 q_0 q_2)))) (.op .len (n_1 (.op .idx (n_2 q_0 (bA q_2 l_1)))))) l_120))) (.seq (.ret (.lit .none)) .nil) .nil) (.seq (.ret (.op .tup (n_4 l_1 q_2 q_3 (.lit (.str (S [])))))) .nil))
noncomputable def trR : CS := .seq (.loop true [5, 6, 7] 0 q_4 trB) .nil
noncomputable def brC : CE := .cmp .Eq (n_2 (.op .idx (n_2 q_3 l_2)) (.op .idx (n_2 q_3 l_4)))
noncomputable def brK : CE := .op .idx (n_2 q_3 l_2)
noncomputable def brE : CE := .op .tup (n_3 (.op .idx (n_2 q_3 l_1)) (.op .idx (n_2 q_3 l_3)) (.op .idx (n_2 q_3 l_5)))
noncomputable abbrev sI (i : Int) : Option F := some (.val (.int i))
noncomputable abbrev sG (c : Nat) : Option F := some (.val (sgn c))
noncomputable abbrev sT (l : List Nat) : Option F := some (.val (.str (S l)))
noncomputable def m_init : FnDef := ⟨3, "__init__", ["self", "rows"], [], (.seq (.iff (.not (.call true 3 (n_1 (.lend 1)))) (.seq (.raise 0) .nil) .nil) (.seq (.assign (.fld 0 0) (.peek .copy (.loc 1) .nil)) (.seq (.assign (.fld 0 1) (.comp 2 0 (.lend 1) (.call true 5 (n_1 q_2)) .nil)) (.seq (.assign (.fld 0 2) (.comp 2 0 (.lend 1) l_1 .nil)) (.seq (.setd (.fld 0 3)) (.seq (.assign (.fld 0 4) l_0) (.seq (.assign (.fld 0 5) (.op .lst .nil)) (.seq (.drop (.meth 15 q_0 .nil)) .nil))))))))⟩
noncomputable def m_join_all : FnDef := ⟨2, "join_all", ["self"], [], (.seq (.setd (.fld 0 3)) (.seq (.drop (.meth 16 q_0 (n_3 l_0 (.peek .len (.fld 0 0) .nil) (.lit .none)))) .nil))⟩
noncomputable def m_join_over : FnDef := ⟨2, "join_over", ["self", "low", "high", "changed"], ["found", "middle", "first"], (.seq (.iff (.and (.cmp .IsNot (n_2 q_3 (.lit .none))) (.not (.chain (n_2 q_1 q_3) .LtE .Lt q_2))) (.seq (.ret (.peek .key (.fld 0 3) (n_1 (.op .tup (n_2 q_1 q_2))))) .nil) .nil) (.seq (.iff (.cmp .Eq (n_2 (bS_ q_2 q_1) l_1)) (.seq (.assign (.loc 4) (.call true 8 (n_1 (.peek .idx (.fld 0 1) (n_1 q_1))))) .nil) (.seq (.assign (.loc 5) (bA q_1 (bF (bS_ q_2 q_1) l_2))) (.seq (.assign (.loc 6) (.meth 16 q_0 (n_3 q_1 q_5 q_3))) (.seq (.assign (.loc 4) (.call true 9 (n_3 q_6 (.meth 16 q_0 (n_3 q_5 q_2 q_3)) (bS_ q_5 q_1)))) (.seq (.assign (.fld 0 4) (bA (.get (.fld 0 4)) l_1)) .nil))))) (.seq (.setkey (.fld 0 3) (.op .tup (n_2 q_1 q_2)) q_4) (.seq (.ret q_4) .nil))))⟩
noncomputable def m_need_place : FnDef := ⟨2, "need_place", ["self", "row", "place"], [], (.seq (.iff (.or (.not (.chain (n_2 l_0 q_1) .LtE .Lt (.peek .len (.fld 0 0) .nil))) (.not (.chain (n_2 l_0 q_2) .LtE .LtE (.op .len (n_1 (.peek .idx (.fld 0 0) (n_1 q_1))))))) (.seq (.raise 1) .nil) .nil) .nil)⟩
noncomputable def m_change_row : FnDef := ⟨2, "change_row", ["self", "row", "fresh"], [], (.seq (.setidx (.fld 0 0) q_1 q_2) (.seq (.setidx (.fld 0 1) q_1 (.call true 5 (n_1 (.lend 2)))) (.seq (.setidx (.fld 0 2) q_1 (bA (.peek .idx (.fld 0 2) (n_1 q_1)) l_1)) (.seq (.assign (.fld 0 5) (.comp 3 1 (n_1 (.peek .len (.fld 0 0) .nil)) (.op .tup (n_2 q_3 q_3)) (.cmp .NotEq (n_2 q_3 q_1)))) (.seq (.drop (.meth 16 q_0 (n_3 l_0 (.peek .len (.fld 0 0) .nil) q_1))) .nil)))))⟩
noncomputable def m_change_rows : FnDef := ⟨2, "change_rows", ["self", "row", "gone", "fresh"], ["k"], (.seq (.assign (.fld 0 5) (.comp 5 1 (n_1 q_1) (.op .tup (n_2 q_5 q_5)) .nil)) (.seq lpA (.seq (.assign (.fld 0 0) (bA (bA (.op (.slc false true) (n_2 (.get (.fld 0 0)) q_1)) q_3) (.op (.slc true false) (n_2 (.get (.fld 0 0)) (bA q_1 q_2))))) (.seq (.assign (.fld 0 1) (bA (bA (.op (.slc false true) (n_2 (.get (.fld 0 1)) q_1)) (.comp 5 0 (.lend 3) (.call true 5 (n_1 q_5)) .nil)) (.op (.slc true false) (n_2 (.get (.fld 0 1)) (bA q_1 q_2))))) (.seq (.assign (.fld 0 2) (bA (bA (.op (.slc false true) (n_2 (.get (.fld 0 2)) q_1)) (.comp 5 0 (.lend 3) l_1 .nil)) (.op (.slc true false) (n_2 (.get (.fld 0 2)) (bA q_1 q_2))))) (.seq (.drop (.meth 15 q_0 .nil)) .nil))))))⟩
noncomputable def m_put : FnDef := ⟨2, "put", ["self", "row", "place", "sign"], ["text"], (.seq (.drop (.meth 17 q_0 (n_2 q_1 q_2))) (.seq (.iff (.or (.not (.op (.isinst .str) (n_1 q_3))) (.or (.cmp .NotEq (n_2 (.op .len (n_1 q_3)) l_1)) (.and (.cmp .NotEq (n_2 q_3 (.lit (.str (S [10]))))) (.not (.call true 1 (n_1 q_3)))))) (.seq (.raise 2) .nil) .nil) (.seq (.assign (.loc 4) (.peek .idx (.fld 0 0) (n_1 q_1))) (.seq (.iff (.cmp .Eq (n_2 q_3 (.lit (.str (S [10]))))) (.seq (.iff (.cmp .Eq (n_2 (.peek .len (.fld 0 0) .nil) (.glob 0))) (.seq (.raise 3) .nil) .nil) (.seq (.drop (.meth 19 q_0 (n_3 q_1 l_1 (.op .lst (n_2 (.op (.slc false true) (n_2 q_4 q_2)) (.op (.slc true false) (n_2 q_4 q_2))))))) .nil)) (.seq (.iff (.cmp .Eq (n_2 (.op .len (n_1 q_4)) (.glob 1))) (.seq (.raise 3) .nil) .nil) (.seq (.drop (.meth 18 q_0 (n_2 q_1 (bA (bA (.op (.slc false true) (n_2 q_4 q_2)) q_3) (.op (.slc true false) (n_2 q_4 q_2)))))) .nil))) .nil))))⟩
noncomputable def m_cut : FnDef := ⟨2, "cut", ["self", "row", "place"], ["text"], (.seq (.drop (.meth 17 q_0 (n_2 q_1 q_2))) (.seq (.assign (.loc 3) (.peek .idx (.fld 0 0) (n_1 q_1))) (.seq (.iff (.cmp .Lt (n_2 q_2 (.op .len (n_1 q_3)))) (.seq (.drop (.meth 18 q_0 (n_2 q_1 (bA (.op (.slc false true) (n_2 q_3 q_2)) (.op (.slc true false) (n_2 q_3 (bA q_2 l_1))))))) (.seq .retN .nil)) .nil) (.seq (.iff (.cmp .Eq (n_2 q_1 (bS_ (.peek .len (.fld 0 0) .nil) l_1))) (.seq (.raise 1) .nil) .nil) (.seq (.iff (.cmp .Gt (n_2 (bA (.op .len (n_1 q_3)) (.op .len (n_1 (.peek .idx (.fld 0 0) (n_1 (bA q_1 l_1)))))) (.glob 1))) (.seq (.raise 3) .nil) .nil) (.seq (.drop (.meth 19 q_0 (n_3 q_1 l_2 (.op .lst (n_1 (bA q_3 (.peek .idx (.fld 0 0) (n_1 (bA q_1 l_1))))))))) .nil))))))⟩
noncomputable def m_text : FnDef := ⟨2, "text", ["self"], [], (.seq (.ret (.peek .copy (.fld 0 0) .nil)) .nil)⟩
noncomputable def m_fault : FnDef := ⟨2, "fault", ["self"], [], (.seq (.ret (.call true 10 (n_1 (.peek .key (.fld 0 3) (n_1 (.op .tup (n_2 l_0 (.peek .len (.fld 0 0) .nil)))))))) .nil)⟩
noncomputable def m_tree : FnDef := ⟨2, "tree", ["self"], [], (.seq (.iff (.cmp .IsNot (n_2 (.meth 23 q_0 .nil) (.lit .none))) (.seq (.raise 4) .nil) .nil) (.seq (.ret (.callP 6 (.fld 0 1))) .nil))⟩
noncomputable def d_is_sign : FnDef := ⟨0, "is_sign", ["sign"], [], (.seq (.ret (.and (.chain (n_2 l_32 (.op .ord (n_1 q_0))) .LtE .LtE l_126) (.cmp .NotEq (n_2 (.op .ord (n_1 q_0)) l_37)))) .nil)⟩
noncomputable def d_is_row : FnDef := ⟨0, "is_row", ["thing"], ["sign"], (.seq (.iff (.or (.not (.op (.isinst .str) (n_1 q_0))) (.cmp .Gt (n_2 (.op .len (n_1 q_0)) (.glob 1)))) (.seq (.ret (.lit (.bool false))) .nil) .nil) (.seq (.loop false [1] 0 q_0 rowB) (.seq (.ret (.lit (.bool true))) .nil)))⟩
noncomputable def d_is_text : FnDef := ⟨0, "is_text", ["rows"], ["row"], (.seq (.iff (.not (.chain (n_2 l_1 (.peek .len (.loc 0) .nil)) .LtE .LtE (.glob 0))) (.seq (.ret (.lit (.bool false))) .nil) .nil) (.seq (.loop false [1] 0 (.lend 0) textB) (.seq (.ret (.lit (.bool true))) .nil)))⟩
noncomputable def d_is_bracket : FnDef := ⟨0, "is_bracket", ["sign"], [], (.seq (.ret (.or (.cmp .In (n_2 q_0 (.glob 2))) (.inOpen q_0))) .nil)⟩
noncomputable def d_taken_apart : FnDef := ⟨0, "taken_apart", ["row"], ["found", "begin", "place", "sign", "ends"], (.seq (.assign (.loc 1) (.op .lst .nil)) (.seq (.assign (.loc 2) (.lit .none)) (.seq (.loop true [3, 4] 2 (n_1 (bA q_0 (.lit (.str (S [32]))))) aB) (.seq (.ret q_1) .nil))))⟩
noncomputable def d_lower : FnDef := ⟨0, "lower", ["mark", "rows"], [], (.seq (.ret (.op .tup (n_3 (.op .idx (n_2 q_0 l_0)) (bA (.op .idx (n_2 q_0 l_1)) q_1) (.op .idx (n_2 q_0 l_2))))) .nil)⟩
noncomputable def d_reading_of : FnDef := ⟨0, "reading_of", ["triples"], ["reading", "place", "what", "behind", "mark", "one"], (.seq (.assign (.loc 1) (.op .tup (n_3 (.op .lst .nil) (.lit .none) (.op .lst .nil)))) (.seq (.loop true [2, 3, 4] 0 q_0 rB) (.seq (.ret q_1) .nil)))⟩
noncomputable def d_joined : FnDef := ⟨0, "joined", ["first", "second", "rows"], ["closing", "fault", "waiting", "mark"], (.seq (.unpack [3, 4, 5] q_0) (.seq (.iff (.cmp .IsNot (n_2 q_4 (.lit .none))) (.seq (.ret q_0) .nil) .nil) (.seq (.assign (.loc 3) (.peek .copy (.loc 3) .nil)) (.seq (.assign (.loc 5) (.peek .copy (.loc 5) .nil)) (.seq (.loop false [6] 0 (.op .idx (n_2 q_1 l_0)) jB) (.seq (.iff (.cmp .IsNot (n_2 (.op .idx (n_2 q_1 l_1)) (.lit .none))) (.seq (.ret (.op .tup (n_3 q_3 (.call true 7 (n_2 (.op .idx (n_2 q_1 l_1)) q_2)) (.op .lst .nil)))) .nil) .nil) (.seq (.ret (.op .tup (n_3 q_3 (.lit .none) (bA q_5 (.comp 7 0 (.op .idx (n_2 q_1 l_2)) (.call true 7 (n_2 q_7 q_2)) .nil))))) .nil)))))))⟩
noncomputable def d_fault_in : FnDef := ⟨0, "fault_in", ["reading"], ["closing", "fault", "waiting"], (.seq (.unpack [1, 2, 3] q_0) (.seq (.iff (.cmpNil true (.loc 1)) (.seq (.ret (.op .tup (n_3 (.op .idx (n_2 (.peek .idx (.loc 1) (n_1 l_0)) l_1)) (.op .idx (n_2 (.peek .idx (.loc 1) (n_1 l_0)) l_2)) (.lit (.str (S [99, 108, 111, 115, 101, 115, 32, 110, 111, 116, 104, 105, 110, 103])))))) .nil) .nil) (.seq (.iff (.cmp .IsNot (n_2 q_2 (.lit .none))) (.seq (.ret (.op .tup (n_3 (.op .idx (n_2 q_2 l_1)) (.op .idx (n_2 q_2 l_2)) (.lit (.str (S [99, 108, 111, 115, 101, 115, 32, 97, 110, 111, 116, 104, 101, 114])))))) .nil) .nil) (.seq (.iff (.cmpNil true (.loc 3)) (.seq (.ret (.op .tup (n_3 (.op .idx (n_2 (.peek .idx (.loc 3) (n_1 (.op .neg (n_1 l_1)))) l_1)) (.op .idx (n_2 (.peek .idx (.loc 3) (n_1 (.op .neg (n_1 l_1)))) l_2)) (.lit (.str (S [108, 101, 102, 116, 32, 111, 112, 101, 110])))))) .nil) .nil) (.seq (.ret (.lit .none)) .nil)))))⟩
noncomputable def d_law_cell_at : FnDef := ⟨0, "_law_cell_at", ["_law_script", "_law_k"], [], (.seq (.iff (.cmp .Lt (n_2 q_1 (.op .len (n_1 q_0)))) (.seq (.ret (.op .idx (n_2 q_0 q_1))) .nil) .nil) (.seq (.ret l_0) .nil))⟩
noncomputable def d_law_any_sign : FnDef := ⟨0, "_law_any_sign", ["_law_cell"], ["_law_some"], (.seq (.assign (.loc 1) (.lit (.str (S [32, 33, 34, 35, 36, 38, 39, 40, 41, 42, 43, 44, 45, 46, 47, 48, 49, 50, 51, 52, 53, 54, 55, 56, 57, 58, 59, 60, 61, 62, 63, 64, 65, 66, 67, 68, 69, 70, 71, 72, 73, 74, 75, 76, 77, 78, 79, 80, 81, 82, 83, 84, 85, 86, 87, 88, 89, 90, 91, 92, 93, 94, 95, 96])))) (.seq (.assign (.loc 1) (bA q_1 (.lit (.str (S [97, 98, 99, 100, 101, 102, 103, 104, 105, 106, 107, 108, 109, 110, 111, 112, 113, 114, 115, 116, 117, 118, 119, 120, 121, 122, 123, 124, 125, 126]))))) (.seq (.ret (.op .idx (n_2 q_1 (bM q_0 l_94)))) .nil)))⟩
noncomputable def d_law_stream : FnDef := ⟨0, "_law_stream", ["_law_cell", "_law_size", "_law_parted"], ["_law_signs", "_law_opened", "_law_number", "_law_k", "_law_way", "_law_sign"], (.seq (.assign (.loc 3) (.lit (.str (S [])))) (.seq (.assign (.loc 4) (.lit (.str (S [])))) (.seq (.assign (.loc 5) (.op .abs (n_1 q_0))) (.seq (.loop false [6] 1 (n_1 q_1) (.seq (.assign (.loc 5) (bM (bA (bA (bX q_5 l_48271) (bX l_11 q_6)) l_7) l_2147483647)) (.seq (.assign (.loc 7) (bM (bF q_5 l_7) l_9)) (.seq (.iff (.or (.and q_2 (.cmp .Eq (n_2 (bM q_6 l_2) l_1))) (.and (.cmp .Eq (n_2 q_7 l_6)) (.not q_2))) (.seq (.assign (.loc 3) (bA q_3 (.lit (.str (S [10]))))) .nil) (.seq (.iff (.cmp .Lt (n_2 q_7 l_2)) (.seq (.assign (.loc 4) (bA (.op .idx (n_2 (.lit (.str (S [41, 93, 125]))) (bM (bF q_5 l_63) l_3))) q_4)) (.seq (.assign (.loc 3) (bA q_3 (.op .idx (n_2 (.lit (.str (S [40, 91, 123]))) (bM (bF q_5 l_63) l_3))))) .nil)) (.seq (.iff (.and (.cmp .Lt (n_2 q_7 l_5)) (.cmp .NotEq (n_2 q_4 (.lit (.str (S [])))))) (.seq (.assign (.loc 3) (bA q_3 (.op .idx (n_2 q_4 l_0)))) (.seq (.assign (.loc 4) (.op (.slc true false) (n_2 q_4 l_1))) .nil)) (.seq (.iff (.cmp .Eq (n_2 q_7 l_7)) (.seq (.assign (.loc 8) (.call true 31 (n_1 (bF q_5 l_63)))) (.seq (.assign (.loc 3) (bA q_3 (.op .idx (n_2 (.op .lst (n_2 (.lit (.str (S [97]))) q_8)) (.op .toInt (n_1 (.cmp .NotIn (n_2 q_8 (.lit (.str (S [40, 41, 91, 93, 123, 125]))))))))))) .nil)) (.seq (.assign (.loc 3) (bA q_3 (.op .idx (n_2 (.lit (.str (S [32, 120]))) (bM (bF q_5 l_63) l_2))))) .nil)) .nil)) .nil)) .nil)) .nil)))) (.seq (.ret (bA q_3 q_4)) .nil)))))⟩
noncomputable def d_law_text : FnDef := ⟨0, "_law_text", ["_law_script"], ["_law_way", "_law_parted", "_law_signs", "_law_at", "_law_rows", "_law_some"], (.seq (.assign (.loc 1) (.call true 30 (n_2 q_0 l_1))) (.seq (.assign (.loc 2) (.cmp .Eq (n_2 (bM (bF q_1 l_56) l_6) l_1))) (.seq (.assign (.loc 3) (.call true 32 (n_3 (.call true 30 (n_2 q_0 l_0)) (bX (bM q_1 l_56) (bA l_1 (.op .toInt (n_1 q_2)))) q_2))) (.seq (.assign (.loc 4) (bM (bM (bX q_1 l_48271) l_100003) (bA (.op .len (n_1 q_3)) l_1))) (.seq (.iff (.cmp .Eq (n_2 (bM (.call true 30 (n_2 q_0 l_2)) l_4) l_1)) (.seq (.assign (.loc 3) (bA (bA (.op (.slc false true) (n_2 q_3 q_4)) (.op .idx (n_2 (.lit (.str (S [40, 91, 123, 41, 93, 125, 32, 122]))) (bM (bM (bX q_1 l_16807) l_10009) l_8)))) (.op (.slc true false) (n_2 q_3 q_4)))) .nil) .nil) (.seq (.iff (.cmp .Eq (n_2 (bM (.call true 30 (n_2 q_0 l_2)) l_4) l_2)) (.seq (.assign (.loc 3) (bA (.op (.slc false true) (n_2 q_3 q_4)) (.op (.slc true false) (n_2 q_3 (bA q_4 l_1))))) .nil) .nil) (.seq (.iff (.cmp .Eq (n_2 (bM (.call true 30 (n_2 q_0 l_2)) l_4) l_3)) (.seq (.assign (.loc 3) (.op (.slc false true) (n_2 q_3 q_4))) .nil) .nil) (.seq (.assign (.loc 5) (.sm .splitNl q_3 .nil)) (.seq (.iff (.cmp .Eq (n_2 (bM (bF (.call true 30 (n_2 q_0 l_2)) l_4) l_6) l_1)) (.seq (.assign (.loc 6) c1) (.seq (.append (.loc 5) (.sm .join (.lit (.str (S []))) (n_1 c2))) .nil)) .nil) (.seq (.iff (.cmp .Eq (n_2 (bM (bF (.call true 30 (n_2 q_0 l_2)) l_24) l_6) l_1)) (.seq (.setidx (.loc 5) l_0 (bA (bX (.op .idx (n_2 (.lit (.str (S [32, 120]))) (bM q_1 l_2))) (bS_ l_118 (.op .len (n_1 (.peek .idx (.loc 5) (n_1 l_0)))))) (.peek .idx (.loc 5) (n_1 l_0)))) .nil) .nil) (.seq (.ret q_5) .nil)))))))))))⟩
end Mine.Internal.S
end
section
namespace Mine.Internal
section
variable {Γ : Nat → Fn} {st st1 : St} {f : F} {fs ys : List F} {a b c e es ab : CE} {s t body : CS} {k kd : Nat} {x y q q1 q2 : Bool} {u v w d : PyData} {o1 o2 op : CmpOp} {xs : List PyData} {is : List Nat} {many : Bool} {pg : List Slots}
theorem ev_cmp (h : ev Γ es st = .ok [.val u, .val v] st1) (h1 : cmpF op u v = some q) : ev Γ (.cmp op es) st = .ok [bV q] st1 := by
 show (ev Γ es st).bind _ = _
 rw [h]
 show oneO ((cmpF op u v).map bV) st1 = _
 rw [h1]; rfl
theorem ev_chain (h : ev Γ ab st = .ok [.val u, .val v] st) (h1 : cmpF o1 u v = some q1) (h2 : ev Γ c st = .ok [.val w] st) (h3 : cmpF o2 v w = some q2) : ev Γ (.chain ab o1 o2 c) st = .ok [bV (q1 && q2)] st := by
 show (ev Γ ab st).bind _ = _
 rw [h]
 show (match cmpF o1 u v with | some true => _ | some false => _ | none => _) = _
 rw [h1]
 cases q1 with
 | false => rfl
 | true =>
  show (ev Γ c st).bind _ = _
  rw [h2]
  show oneO ((cmpF o2 v w).map bV) st = _
  rw [h3]; rfl
theorem ev_not (h : ev Γ a st = .ok [bV x] st1) : ev Γ (.not a) st = .ok [bV (!x)] st1 := by show (toB (ev Γ a st)).bind _ = _; rw [h]; rfl
theorem ev_and (h : ev Γ a st = .ok [bV x] st) (h2 : x = true → ev Γ b st = .ok [bV y] st) : ev Γ (.and a b) st = .ok [bV (x && y)] st := by
 show (toB (ev Γ a st)).bind _ = _
 rw [h]
 cases x with
 | false => rfl
 | true => exact h2 rfl
theorem ev_or (h : ev Γ a st = .ok [bV x] st) (h2 : x = false → ev Γ b st = .ok [bV y] st) : ev Γ (.or a b) st = .ok [bV (x || y)] st := by
 show (toB (ev Γ a st)).bind _ = _
 rw [h]
 cases x with
 | true => rfl
 | false => exact h2 rfl
theorem ev_fn (h : ev Γ es st = .ok fs st1) (ha : args st1.v fs = some ys) (hr : Γ k [] ys = .ret f []) : ev Γ (.call true k es) st = .ok [f] st1 := (ev_call h).trans (by
 show (match args st1.v fs with | some as => outE true (Γ k [] as) st1 | none => .stuck) = _
 rw [ha]
 show outE true (Γ k [] ys) st1 = _
 rw [hr]; rfl)
theorem ex_else (h : ev Γ c st = .ok [bV false] st1) : ex Γ (.iff c s t) st = ex Γ t st1 := (ex_if h).trans rfl
theorem ex_loop (h : (ev Γ e st).bind (itE kd) = .ok xs st1) : ex Γ (.loop many is kd e body) st = forL (stepB Γ many is body) xs st1 := by show R.bind _ _ = _; rw [h]; rfl
theorem it_of (h : ev Γ e st = .ok fs st1) (hi : itF kd st1.v fs = some xs) : (ev Γ e st).bind (itE kd) = .ok xs st1 := by
 rw [h]
 show (match itF kd st1.v fs with | some xs => R.ok xs st1 | none => .stuck) = _
 rw [hi]
theorem for_next {step : PyData → St → R Fl} (h : step d st = .ok .next st1) : forL step (d :: xs) st = forL step xs st1 := by show (match step d st with | .ok .next st => _ | .ok (.ret f) st => _ | _ => _) = _; rw [h]
theorem for_ret {step : PyData → St → R Fl} (h : step d st = .ok (.ret f) st1) : forL step (d :: xs) st = .ok (.ret f) st1 := by show (match step d st with | .ok .next st => _ | .ok (.ret f) st => _ | _ => _) = _; rw [h]
theorem step_of (h : bindT many is d st = some st1) : stepB Γ many is body d st = ex Γ body st1 := by show (match bindT many is d st with | some st' => ex Γ body st' | none => .stuck) = _; rw [h]
theorem run_of {np nv x' : Nat} {v' : Slots} {p' : List Slots} (hl : ys.length = np) (h : ex Γ body ⟨ys.map some ++ List.replicate nv none, pg, 0⟩ = .ok (.ret f) ⟨v', p', x'⟩) : runDef Γ np nv body pg ys = .ret f p' := by unfold runDef; rw [if_pos hl, h]; rfl
theorem run_x {np nv j x' : Nat} {v' : Slots} {p' : List Slots} (hl : ys.length = np) (h : ex Γ body ⟨ys.map some ++ List.replicate nv none, pg, 0⟩ = .exc j ⟨v', p', x'⟩) : runDef Γ np nv body pg ys = .exc j p' := by unfold runDef; rw [if_pos hl, h]; rfl
theorem ret_own (h : ev Γ e st = .ok [.own xs] st1) : ex Γ (.ret e) st = .ok (.ret (.own xs)) st1 := (ex_ret h).trans rfl
end
end Mine.Internal
namespace Mine.Internal.S
noncomputable abbrev strD (l : List Nat) : PyData := .str (S l)
noncomputable def isSign (c : Nat) : Bool := (decide ((32 : Int) ≤ c) && decide ((c : Int) ≤ 126)) && !((c : Int) == 37)
noncomputable def isBr (c : Nat) : Bool := inStr (S [40, 91, 123]) (S [c]) || (openF (S [c])).isSome
section
variable {Γ : Nat → Fn} {c : Nat} {l : List Nat} {d : PyData} {ds : List PyData}
noncomputable abbrev B (Γ : Nat → Fn) (d : FnDef) (fs : List F) : Out := runDef Γ d.ps.length d.vs.length d.body [] fs
theorem is_sign_ok : B Γ d_is_sign [.val (sgn c)] = .ret (.val (.bool (isSign c))) [] :=
 run_of rfl (ex_done (ret_val (ev_and (ev_chain (u := .int 32) (v := .int c) (w := .int 126) rfl rfl rfl rfl) fun _ => ev_cmp (u := .int c) (v := .int 37) rfl rfl)))
noncomputable def Sp1 (Γ : Nat → Fn) : Prop := ∀ c, Γ 1 [] [.val (sgn c)] = .ret (.val (.bool (isSign c))) []
theorem is_bracket_ok : B Γ d_is_bracket [.val (sgn c)] = .ret (.val (.bool (isBr c))) [] :=
 run_of rfl (ex_done (ret_val (ev_or (ev_cmp (u := sgn c) (v := strD [40, 91, 123]) rfl rfl) fun _ => rfl)))
noncomputable def okLine (l : List Nat) : Bool := decide (l.length ≤ 120) && l.all isSign
noncomputable def okRowD (d : PyData) : Bool := match asS d with
 | some x => okLine (cs x)
 | none => false
noncomputable def rowLike (d : PyData) : Bool := match asS d with
 | some x => okLen (cs x).length
 | none => d.ctorIdx != 6
theorem row_loop (h : Sp1 Γ) {a : Option F} : ∀ (l : List Nat) (b : Option F), ∃ b', forL (stepB Γ false [1] rowB) (l.map sgn) ⟨[a, b], [], 0⟩ = if l.all isSign then .ok .next ⟨[a, b'], [], 0⟩ else .ok (.ret (.val (.bool false))) ⟨[a, b'], [], 0⟩
 | [], b => ⟨b, rfl⟩
 | c :: l, b => by
  have hc : ev Γ (.not (.call true 1 (n_1 q_1))) ⟨[a, some (.val (sgn c))], [], 0⟩ = .ok [bV (!isSign c)] _ := ev_not (ev_fn (fs := [.val (sgn c)]) (ev_cons (f := .val (sgn c)) rfl rfl) rfl (h c))
  cases hs : isSign c with
  | true =>
   rw [hs] at hc
   obtain ⟨b', e⟩ := row_loop h (a := a) l (sG c)
   refine ⟨b', (for_next ((step_of rfl).trans (ex_skip hc))).trans (e.trans ?_)⟩
   rw [List.all_cons, hs]; rfl
  | false =>
   rw [hs] at hc
   refine ⟨some (.val (sgn c)), (for_ret ((step_of rfl).trans (ex_done ((ex_then hc).trans (ex_done (ret_val rfl)))))).trans ?_⟩
   rw [List.all_cons, hs]; rfl
theorem is_row_ok (h : Sp1 Γ) (hd : rowLike d = true) : B Γ d_is_row [.val d] = .ret (.val (.bool (okRowD d))) [] := by
 unfold okRowD
 unfold rowLike at hd
 cases hx : asS d with
 | none =>
  rw [hx] at hd
  have e1 : ev Γ (.op (.isinst .str) (n_1 q_0)) ⟨[some (.val d), none], [], 0⟩ = .ok [bV false] ⟨[some (.val d), none], [], 0⟩ := (ev_op (fs := [.val d]) (ev_cons (f := .val d) rfl rfl)).trans (by
   show oneO (gd (d.ctorIdx != 6) (.val (.bool (d.ctorIdx == 3)))) _ = _
   have : (d.ctorIdx == 3) = false := by
    cases hq : d.ctorIdx == 3 with
    | false => rfl
    | true => unfold asS at hx; rw [dif_pos (eq_of_beq hq)] at hx; cases d <;> first | cases hx | cases hq
   rw [show (d.ctorIdx != 6) = true from hd, this]; rfl)
  exact run_of rfl (ex_done ((ex_then (ev_or (y := false) (ev_not e1) fun q => nomatch q)).trans (ex_done (ret_val rfl))))
 | some x =>
  rw [hx] at hd
  cases asS_eq hx
  have hd : okLen (cs x).length = true := hd
  have e2 : ev Γ (.op .len (n_1 q_0)) ⟨[some (.val (.str x)), none], [], 0⟩ = .ok [.val (.int (cs x).length)] ⟨[some (.val (.str x)), none], [], 0⟩ := (ev_op (fs := [.val (.str x)]) (ev_cons (f := .val (.str x)) rfl rfl)).trans (by
   show oneO ((((lenL (cs x)).or none).or none).map intV) _ = _
   unfold lenL; rw [hd]; rfl)
  have e3 := ev_or (y := decide ((120 : Int) < (cs x).length)) (ev_not (a := .op (.isinst .str) (n_1 q_0)) (x := true) (Γ := Γ) (st := ⟨[some (.val (.str x)), none], [], 0⟩) (st1 := ⟨[some (.val (.str x)), none], [], 0⟩) rfl) fun _ => ev_cmp (op := .Gt) (es := .cons (.op .len (n_1 q_0)) (n_1 (.glob 1))) (u := .int (cs x).length) (v := .int 120) (ev_cons e2 rfl) rfl
  show _ = Out.ret (.val (.bool (okLine (cs x)))) []
  unfold okLine
  by_cases hl : (cs x).length ≤ 120
  · rw [show decide ((120 : Int) < (cs x).length) = false from dff (by lia)] at e3
    rw [dtt hl]
    obtain ⟨b', e⟩ := row_loop h (a := some (.val (.str x))) (cs x) none
    have e4 := ex_loop (many := false) (is := [1]) (body := rowB) (it_of (kd := 0) (e := .get (.loc 0)) (Γ := Γ) (st := ⟨[some (.val (.str x)), none], [], 0⟩) (xs := (cs x).map sgn) rfl (by
     show ((gd (okLen (cs x).length) ((cs x).map sgn)).or none).or none = _
     rw [hd]; rfl))
    cases ha : (cs x).all isSign with
    | true => rw [ha] at e; exact run_of rfl ((ex_skip e3).trans ((ex_next (e4.trans e)).trans (ex_done (ret_val rfl))))
    | false => rw [ha] at e; exact run_of rfl ((ex_skip e3).trans (ex_done (e4.trans e)))
  · rw [show decide ((120 : Int) < (cs x).length) = true from dtt (by lia)] at e3
    rw [dff hl]
    exact run_of rfl (ex_done ((ex_then e3).trans (ex_done (ret_val rfl))))
noncomputable def Sp2 (Γ : Nat → Fn) : Prop := ∀ d, rowLike d = true → Γ 2 [] [.val d] = .ret (.val (.bool (okRowD d))) []
noncomputable def okTextD (ds : List PyData) : Bool := (decide ((1 : Int) ≤ ds.length) && decide ((ds.length : Int) ≤ 64)) && ds.all okRowD
theorem text_loop (h : Sp2 Γ) {a : Option F} : ∀ (ds : List PyData) (b : Option F), ds.all rowLike = true → ∃ b', forL (stepB Γ false [1] textB) ds ⟨[a, b], [], 0⟩ = if ds.all okRowD then .ok .next ⟨[a, b'], [], 0⟩ else .ok (.ret (.val (.bool false))) ⟨[a, b'], [], 0⟩
 | [], b, _ => ⟨b, rfl⟩
 | d :: ds, b, hr => by
  obtain ⟨h1, h2⟩ := and2 (List.all_cons ▸ hr)
  have hc : ev Γ (.not (.call true 2 (n_1 q_1))) ⟨[a, some (.val d)], [], 0⟩ = .ok [bV (!okRowD d)] _ := ev_not (ev_fn (fs := [.val d]) (ev_cons (f := .val d) rfl rfl) rfl (h d h1))
  cases hs : okRowD d with
  | true =>
   rw [hs] at hc
   obtain ⟨b', e⟩ := text_loop h (a := a) ds (some (.val d)) h2
   refine ⟨b', (for_next ((step_of rfl).trans (ex_skip hc))).trans (e.trans ?_)⟩
   rw [List.all_cons, hs]; rfl
  | false =>
   rw [hs] at hc
   refine ⟨some (.val d), (for_ret ((step_of rfl).trans (ex_done ((ex_then hc).trans (ex_done (ret_val rfl)))))).trans ?_⟩
   rw [List.all_cons, hs]; rfl
theorem is_text_ok (h : Sp2 Γ) (hz : okLen ds.length = true) (hr : ds.all rowLike = true) : B Γ d_is_text [.val (.list ds)] = .ret (.val (.bool (okTextD ds))) [] := by
 have e2 : ev Γ (.peek .len (.loc 0) .nil) ⟨[some (.val (.list ds)), none], [], 0⟩ = .ok [.val (.int ds.length)] ⟨[some (.val (.list ds)), none], [], 0⟩ := by
  show oneO ((lenL ds).map intV) _ = _
  unfold lenL; rw [hz]; rfl
 have e3 := ev_not (ev_chain (o1 := .LtE) (o2 := .LtE) (c := .glob 0) (u := .int 1) (w := .int 64) (ev_cons (a := .lit (.int 1)) (f := .val (.int 1)) rfl (ev_cons (b := .nil) e2 rfl)) rfl rfl rfl)
 unfold okTextD
 cases hb : decide ((1 : Int) ≤ ds.length) && decide ((ds.length : Int) ≤ 64) with
 | false => rw [hb] at e3; exact run_of rfl (ex_done ((ex_then e3).trans (ex_done (ret_val rfl))))
 | true =>
  rw [hb] at e3
  obtain ⟨b', e⟩ := text_loop h (a := some (.val (.list ds))) ds none hr
  have e4 := ex_loop (many := false) (is := [1]) (body := textB) (it_of (kd := 0) (e := .lend 0) (Γ := Γ) (st := ⟨[some (.val (.list ds)), none], [], 0⟩) (xs := ds) rfl (by
   show (((none : Option (List PyData)).or (gd (okLen ds.length) ds)).or none) = _
   rw [hz]; rfl))
  cases ha : ds.all okRowD with
  | true => rw [ha] at e; exact run_of rfl ((ex_skip e3).trans ((ex_next (e4.trans e)).trans (ex_done (ret_val rfl))))
  | false => rw [ha] at e; exact run_of rfl ((ex_skip e3).trans (ex_done (e4.trans e)))
noncomputable def Sp3 (Γ : Nat → Fn) : Prop := ∀ ds : List PyData, okLen ds.length = true → ds.all rowLike = true → Γ 3 [] [.val (.list ds)] = .ret (.val (.bool (okTextD ds))) []
end
end Mine.Internal.S
end
section
namespace Mine.Internal.S
noncomputable def isOp (c : Nat) : Bool := decide (c ∈ [40, 91, 123])
noncomputable def isCl (c : Nat) : Bool := decide (c ∈ [41, 93, 125])
noncomputable def opOf (c : Nat) : Nat := if c = 41 then 40 else if c = 93 then 91 else 123
theorem in_one (l : List Nat) (c : Nat) : inStr (S l) (S [c]) = decide (c ∈ l) := by
 unfold inStr
 exact PySem.StrLaws.found_one (S l) c
theorem open_one (c : Nat) : openF (S [c]) = if isCl c then some (S [opOf c]) else none := by
 unfold openF isCl opOf
 simp only [cs_S, List.cons.injEq, and_true]
 by_cases h1 : c = 41
 · simp [h1]
 · by_cases h2 : c = 93
   · simp [h2]
   · by_cases h3 : c = 125
     · simp [h3]
     · simp [h1, h2, h3]
theorem isBr_is (c : Nat) : isBr c = (isOp c || isCl c) := by
 unfold isBr
 rw [in_one, open_one]
 show (isOp c || _) = _
 cases isCl c <;> rfl
noncomputable abbrev Mk := Nat × Nat × Nat
structure Rd where
 cl : List Mk
 ft : Option Mk
 wt : List Mk
noncomputable def Rd.nil : Rd := ⟨[], none, []⟩
noncomputable def step (R : Rd) (m : Mk) : Rd :=
 if R.ft.isSome then R
 else if isCl m.1 then (match R.wt.getLast? with
  | none => { R with cl := R.cl ++ [m] }
  | some t => if t.1 = opOf m.1 then { R with wt := R.wt.dropLast } else ⟨R.cl, some m, []⟩)
 else { R with wt := R.wt ++ [m] }
noncomputable def run (R : Rd) (ms : List Mk) : Rd := ms.foldl step R
theorem run_append (R : Rd) (a b : List Mk) : run R (a ++ b) = run (run R a) b := List.foldl_append
theorem run_snoc (R : Rd) (a : List Mk) (m : Mk) : run R (a ++ [m]) = step (run R a) m := by rw [run_append]; rfl
noncomputable def low (n : Nat) (m : Mk) : Mk := (m.1, m.2.1 + n, m.2.2)
noncomputable def jl (n : Nat) : List Mk → List Mk → List Mk → Rd ⊕ (List Mk × List Mk)
 | [], cl, wt => .inr (cl, wt)
 | m :: ms, cl, wt => match wt.getLast? with
  | none => jl n ms (cl ++ [low n m]) wt
  | some t => if t.1 = opOf m.1 then jl n ms cl wt.dropLast else .inl ⟨cl, some (low n m), []⟩
theorem jl_n {n : Nat} {cl wt : List Mk} : jl n [] cl wt = .inr (cl, wt) := rfl
theorem jl_c {n : Nat} {m : Mk} {ms cl wt : List Mk} : jl n (m :: ms) cl wt = (match wt.getLast? with | none => jl n ms (cl ++ [low n m]) wt | some t => if t.1 = opOf m.1 then jl n ms cl wt.dropLast else .inl ⟨cl, some (low n m), []⟩) := rfl
noncomputable def join (a b : Rd) (n : Nat) : Rd :=
 if a.ft.isSome then a
 else match jl n b.cl a.cl a.wt with
  | .inl r => r
  | .inr (cl, wt) => match b.ft with
   | some m => ⟨cl, some (low n m), []⟩
   | none => ⟨cl, none, wt ++ b.wt.map (low n)⟩
theorem jl_append (n : Nat) (m : Mk) : ∀ (ms cl wt : List Mk), jl n (ms ++ [m]) cl wt = match jl n ms cl wt with | .inl r => .inl r | .inr (cl', wt') => jl n [m] cl' wt'
 | [], cl, wt => rfl
 | k :: ms, cl, wt => by
  rw [List.cons_append, jl_c, jl_c]
  cases h : wt.getLast? with
  | none => exact jl_append n m ms _ _
  | some t =>
   dsimp only
   split
   · exact jl_append n m ms _ _
   · rfl
theorem jl_ft (n : Nat) : ∀ (ms cl wt : List Mk) (r : Rd), jl n ms cl wt = .inl r → r.ft.isSome = true
 | [], cl, wt, r, h => by cases h
 | k :: ms, cl, wt, r, h => by
  rw [jl_c] at h
  cases e : wt.getLast? with
  | none => rw [e] at h; exact jl_ft n ms _ _ r h
  | some t =>
   rw [e] at h
   dsimp only at h
   split at h
   · exact jl_ft n ms _ _ r h
   · cases h; rfl
theorem step_done {R : Rd} (h : R.ft.isSome = true) (m : Mk) : step R m = R := by delta step; rw [if_pos h]
theorem step_a {R : Rd} {m : Mk} (hf : R.ft = none) (hc : isCl m.1 = true) (hw : R.wt.getLast? = none) : step R m = ⟨R.cl ++ [m], none, R.wt⟩ := by delta step; rw [hf, hc, hw]; rfl
theorem step_b {R : Rd} {m t : Mk} (hf : R.ft = none) (hc : isCl m.1 = true) (hw : R.wt.getLast? = some t) (ho : t.1 = opOf m.1) : step R m = ⟨R.cl, none, R.wt.dropLast⟩ := by delta step; rw [hf, hc, hw]; simp [ho]
theorem step_c {R : Rd} {m t : Mk} (hf : R.ft = none) (hc : isCl m.1 = true) (hw : R.wt.getLast? = some t) (ho : ¬ t.1 = opOf m.1) : step R m = ⟨R.cl, some m, []⟩ := by delta step; rw [hf, hc, hw]; simp [ho]
theorem step_d {R : Rd} {m : Mk} (hf : R.ft = none) (hc : isCl m.1 = false) : step R m = ⟨R.cl, none, R.wt ++ [m]⟩ := by delta step; rw [hf, hc]; rfl
theorem join_l {a b : Rd} {n : Nat} {r : Rd} (ha : a.ft = none) (hj : jl n b.cl a.cl a.wt = .inl r) : join a b n = r := by delta join; rw [ha, hj]; rfl
theorem join_r {a b : Rd} {n : Nat} {cl wt : List Mk} (ha : a.ft = none) (hj : jl n b.cl a.cl a.wt = .inr (cl, wt)) (hb : b.ft = none) : join a b n = ⟨cl, none, wt ++ b.wt.map (low n)⟩ := by delta join; rw [ha, hj, hb]; rfl
theorem join_f {a b : Rd} {n : Nat} {cl wt : List Mk} {m : Mk} (ha : a.ft = none) (hj : jl n b.cl a.cl a.wt = .inr (cl, wt)) (hb : b.ft = some m) : join a b n = ⟨cl, some (low n m), []⟩ := by delta join; rw [ha, hj, hb]; rfl
theorem join_step (a b : Rd) (n : Nat) (m : Mk) : join a (step b m) n = step (join a b n) (low n m) := by
 cases ha : a.ft with
 | some k =>
  have : ∀ b, join a b n = a := fun b => by delta join; rw [ha]; rfl
  rw [this, this, step_done (by rw [ha]; rfl)]
 | none =>
 cases hb : b.ft with
 | some k =>
  rw [step_done (by rw [hb]; rfl)]
  symm
  apply step_done
  cases hj : jl n b.cl a.cl a.wt with
  | inl r => rw [join_l ha hj]; exact jl_ft n _ _ _ r hj
  | inr p => rw [join_f ha (show _ = Sum.inr (p.1, p.2) from hj) hb]; rfl
 | none =>
 cases hj : jl n b.cl a.cl a.wt with
 | inl r =>
  have hr := jl_ft n _ _ _ r hj
  rw [join_l ha hj, step_done hr]
  cases hc : isCl m.1 with
  | false => rw [step_d hb hc]; exact join_l ha hj
  | true =>
   cases hw : b.wt.getLast? with
   | none =>
    rw [step_a hb hc hw]
    refine join_l ha ?_
    show jl n (b.cl ++ [m]) a.cl a.wt = _
    rw [jl_append, hj]
   | some t =>
    by_cases ho : t.1 = opOf m.1
    · rw [step_b hb hc hw ho]; exact join_l ha hj
    · rw [step_c hb hc hw ho]; exact join_l ha hj
 | inr p =>
  obtain ⟨cl, wt⟩ := p
  rw [join_r ha hj hb]
  cases hc : isCl m.1 with
  | false =>
   rw [step_d hb hc, step_d rfl (show isCl (low n m).1 = false from hc), join_r (b := ⟨b.cl, none, b.wt ++ [m]⟩) ha hj rfl]
   simp
  | true =>
   have hc' : isCl (low n m).1 = true := hc
   cases hw : b.wt.getLast? with
   | none =>
    have hw' : b.wt = [] := by simpa using hw
    rw [step_a hb hc hw, hw']
    have hj' : jl n (b.cl ++ [m]) a.cl a.wt = jl n [m] cl wt := by rw [jl_append, hj]
    cases hl : wt.getLast? with
    | none =>
     have h1 : jl n [m] cl wt = .inr (cl ++ [low n m], wt) := by rw [jl_c, hl]; rfl
     rw [join_r (b := ⟨b.cl ++ [m], none, []⟩) ha (hj'.trans h1) rfl, step_a rfl hc' (by simpa using hl)]
    | some t =>
     by_cases ho : t.1 = opOf m.1
     · have h1 : jl n [m] cl wt = .inr (cl, wt.dropLast) := by rw [jl_c, hl]; simp only [ho, if_true]; rfl
       rw [join_r (b := ⟨b.cl ++ [m], none, []⟩) ha (hj'.trans h1) rfl, step_b (t := t) rfl hc' (by simpa using hl) ho]
       simp
     · have h1 : jl n [m] cl wt = .inl ⟨cl, some (low n m), []⟩ := by rw [jl_c, hl]; simp only [ho, if_false]
       rw [join_l (b := ⟨b.cl ++ [m], none, []⟩) ha (hj'.trans h1), step_c (t := t) rfl hc' (by simpa using hl) ho]
   | some t =>
    have hne : b.wt ≠ [] := fun e => by rw [e] at hw; cases hw
    have hl : (wt ++ b.wt.map (low n)).getLast? = some (low n t) := by
     rw [List.getLast?_append, List.getLast?_map, hw]; rfl
    by_cases ho : t.1 = opOf m.1
    · rw [step_b hb hc hw ho, step_b (t := low n t) rfl hc' hl ho, join_r (b := ⟨b.cl, none, b.wt.dropLast⟩) ha hj rfl]
      have hdl : (wt ++ b.wt.map (low n)).dropLast = wt ++ b.wt.dropLast.map (low n) := by
       rw [List.dropLast_append_of_ne_nil (by simpa using hne), List.map_dropLast]
      rw [hdl]
    · rw [step_c hb hc hw ho, step_c (t := low n t) rfl hc' hl ho, join_f (b := ⟨b.cl, some m, []⟩) ha hj rfl]
theorem join_run (a : Rd) (n : Nat) (ms : List Mk) : join a (run .nil ms) n = run a (ms.map (low n)) := by
 suffices h : ∀ l : List Mk, join a (run .nil l.reverse) n = run a (l.reverse.map (low n)) by simpa using h ms.reverse
 intro l
 induction l with
 | nil =>
  show join a .nil n = a
  delta join Rd.nil
  simp only [jl_n, List.map_nil, List.append_nil]
  cases hf : a.ft with
  | none => simp [← hf]
  | some m => simp
 | cons m l ih =>
  rw [List.reverse_cons, run_snoc, join_step, ih, List.map_append, run_append]
  rfl
theorem run_cl (R : Rd) (h : ∀ m ∈ R.cl, isCl m.1 = true) : ∀ ms, ∀ m ∈ (run R ms).cl, isCl m.1 = true
 | [] => h
 | k :: ms => by
  refine run_cl (step R k) ?_ ms
  delta step
  split
  · exact h
  · split
    · rename_i hk
      split
      · intro m hm
        rcases List.mem_append.mp hm with hm | hm
        · exact h m hm
        · rw [lsm hm]; exact hk
      · split
        · exact h
        · exact h
    · exact h
noncomputable def Rd.sz (R : Rd) : Nat := R.cl.length + R.wt.length
theorem run_sz (R : Rd) : ∀ ms, (run R ms).sz ≤ R.sz + ms.length
 | [] => Nat.le_refl _
 | k :: ms => by
  have h1 : (step R k).sz ≤ R.sz + 1 := by
   delta step Rd.sz
   split
   · lia
   · split
     · split
       · simp; lia
       · split
         · simp; lia
         · simp; lia
     · simp; lia
  have := run_sz (step R k) ms
  rw [List.length_cons]
  show (run (step R k) ms).sz ≤ _
  lia
inductive Fa where
 | ok
 | no (r p : Nat)
 | ano (r p : Nat)
 | lft (r p : Nat)
noncomputable def faultR (R : Rd) : Fa := match R.cl with
 | m :: _ => .no m.2.1 m.2.2
 | [] => match R.ft with
  | some m => .ano m.2.1 m.2.2
  | none => match R.wt.getLast? with
   | some m => .lft m.2.1 m.2.2
   | none => .ok
noncomputable def lf : List Mk → List Mk → Fa ⊕ List Mk
 | [], wt => .inr wt
 | m :: ms, wt => if isCl m.1 then (match wt.getLast? with
   | none => .inl (.no m.2.1 m.2.2)
   | some t => if t.1 = opOf m.1 then lf ms wt.dropLast else .inl (.ano m.2.1 m.2.2))
  else lf ms (wt ++ [m])
theorem lf_c {m : Mk} {ms wt : List Mk} : lf (m :: ms) wt = if isCl m.1 then (match wt.getLast? with | none => .inl (.no m.2.1 m.2.2) | some t => if t.1 = opOf m.1 then lf ms wt.dropLast else .inl (.ano m.2.1 m.2.2)) else lf ms (wt ++ [m]) := rfl
noncomputable def lfEnd (wt : List Mk) : Fa := match wt.getLast? with
 | some m => .lft m.2.1 m.2.2
 | none => .ok
theorem run_keep_cl {k : Mk} : ∀ (ms : List Mk) (R : Rd) (l : List Mk), R.cl = k :: l → ∃ l', (run R ms).cl = k :: l'
 | [], R, l, h => ⟨l, h⟩
 | m :: ms, R, l, h => by
  have : ∃ l', (step R m).cl = k :: l' := by
   delta step
   split
   · exact ⟨l, h⟩
   · split
     · split
       · exact ⟨l ++ [m], by simp [h]⟩
       · split
         · exact ⟨l, h⟩
         · exact ⟨l, h⟩
     · exact ⟨l, h⟩
  obtain ⟨l', h'⟩ := this
  exact run_keep_cl ms (step R m) l' h'
theorem run_keep_ft : ∀ (ms : List Mk) (R : Rd), R.ft.isSome = true → run R ms = R
 | [], R, h => rfl
 | m :: ms, R, h => by
  show run (step R m) ms = R
  rw [step_done h]; exact run_keep_ft ms R h
theorem lf_run : ∀ (ms wt : List Mk), (match lf ms wt with | .inl f => faultR (run ⟨[], none, wt⟩ ms) = f | .inr wt' => run ⟨[], none, wt⟩ ms = ⟨[], none, wt'⟩)
 | [], wt => rfl
 | m :: ms, wt => by
  rw [lf_c]
  have hrun : run ⟨[], none, wt⟩ (m :: ms) = run (step ⟨[], none, wt⟩ m) ms := rfl
  rw [hrun]
  delta step
  simp only [Option.isSome_none, Bool.false_eq_true, if_false]
  by_cases hc : isCl m.1 = true
  · simp only [hc, if_true]
    cases hw : wt.getLast? with
    | none =>
     dsimp only
     obtain ⟨l', h'⟩ := run_keep_cl (k := m) ms ⟨[] ++ [m], none, wt⟩ [] rfl
     unfold faultR; rw [h']
    | some t =>
     dsimp only
     by_cases ho : t.1 = opOf m.1
     · simp only [ho, if_true]; exact lf_run ms wt.dropLast
     · simp only [ho, if_false]; rw [run_keep_ft ms _ rfl]; rfl
  · simp only [hc, if_false]; exact lf_run ms (wt ++ [m])
theorem fault_same (ms : List Mk) : faultR (run .nil ms) = match lf ms [] with | .inl f => f | .inr wt => lfEnd wt := by
 have := lf_run ms []
 cases h : lf ms [] with
 | inl f => rw [h] at this; exact this
 | inr wt =>
  rw [h] at this
  dsimp only at this ⊢
  show faultR (run ⟨[], none, []⟩ ms) = _
  rw [this]; rfl
end Mine.Internal.S
end
section
namespace Mine.Internal
section
variable {Γ : Nat → Fn} {st : St} {f : F} {ys : List F} {e es src elt : CE} {k n kd i : Nat} {o : Op} {x y q : Bool} {u v d : PyData} {xs : List PyData} {vv : Slots} {pp : List Slots}
theorem big {n m k : Nat} (h : n ≤ m) (q : Nat.ble m k = true := by rfl) : n ≤ k := nlt h (Nat.le_of_ble_eq_true q)
theorem okI {n : Nat} (h : n ≤ 100000) : okInt (n : Int) = true := by unfold okInt; rw [dtt (by lia), dtt (by lia)]; rfl
theorem okLen_of {n : Nat} (h : n ≤ 200000) : okLen n = true := dtt (nlt h (by decide))
theorem ev_plen (hs : slot st.v i = some f) (hl : lstOf f = some xs) (hz : okLen xs.length = true) : ev Γ (.peek .len (.loc i) .nil) st = .ok [.val (.int xs.length)] st := by
 show (if (slot st.v i).isSome then oneO (((slot st.v i).bind lstOf).bind fun xs => (lenL xs).map intV) st else .stuck) = _
 rw [hs]
 show oneO ((lstOf f).bind fun xs => (lenL xs).map intV) st = _
 rw [hl]
 show oneO ((lenL xs).map intV) st = _
 unfold lenL; rw [hz]; rfl
theorem ev_copy (hs : slot st.v i = some f) (hl : lstOf f = some xs) (hz : okLen xs.length = true) : ev Γ (.peek .copy (.loc i) .nil) st = .ok [.own xs] st := by
 show (if (slot st.v i).isSome then oneO (((slot st.v i).bind lstOf).bind fun xs => gd (okLen xs.length) (.own xs)) st else .stuck) = _
 rw [hs]
 show oneO ((lstOf f).bind fun xs => gd (okLen xs.length) (.own xs)) st = _
 rw [hl]
 show oneO (gd (okLen xs.length) (.own xs)) st = _
 rw [hz]; rfl
theorem ev_pidx {m : Int} (hs : slot st.v i = some f) (hl : lstOf f = some xs) (he : ev Γ es st = .ok [.val (.int m)] st) (ha : atL xs m = some d) : ev Γ (.peek .idx (.loc i) es) st = .ok [.val d] st := by
 show (if (slot st.v i).isSome then (ev Γ es st).bind fun x st' => peekE .idx (.loc i) x st' else .stuck) = _
 rw [hs, he]
 show oneO (((slot st.v i).bind lstOf).bind fun xs => (atL xs m).map .val) st = _
 rw [hs]
 show oneO ((lstOf f).bind fun xs => (atL xs m).map .val) st = _
 rw [hl]
 show oneO ((atL xs m).map .val) st = _
 rw [ha]; rfl
theorem ev_pop (hs : slot st.v i = some (.own xs)) (hz : okLen xs.length = true) (hl : xs.getLast? = some d) (hi : i < st.v.length) : ev Γ (.peek .pop (.loc i) .nil) st = .ok [.val d] { st with v := st.v.set i (some (.own xs.dropLast)) } := by
 show (if (slot st.v i).isSome then peekE .pop (.loc i) [] st else .stuck) = _
 rw [hs]
 show (match (((slot st.v i).bind ownOf).bind fun xs => (xs.getLast?).bind fun d => (gd (okLen xs.length) ()).bind fun _ => (setP st (some (.own xs.dropLast)) (.loc i)).map fun st' => (d, st')) with | some q => R.ok [F.val q.1] q.2 | none => .stuck) = _
 rw [hs]
 show (match ((xs.getLast?).bind fun d => (gd (okLen xs.length) ()).bind fun _ => (setP st (some (.own xs.dropLast)) (.loc i)).map fun st' => (d, st')) with | some q => R.ok [F.val q.1] q.2 | none => .stuck) = _
 rw [hl, hz]
 show (match ((gd (decide (i < st.v.length)) { st with v := st.v.set i (some (.own xs.dropLast)) }).map fun st' => (d, st')) with | some q => R.ok [F.val q.1] q.2 | none => .stuck) = _
 rw [dtt hi]; rfl
theorem ex_append (hs : slot st.v i = some (.own xs)) (hz : okLen xs.length = true) (he : ev Γ e st = .ok [.val d] st) (hi : i < st.v.length) : ex Γ (.append (.loc i) e) st = .ok .next { st with v := st.v.set i (some (.own (xs ++ [d]))) } := by
 show (if ((slot st.v i).bind ownOf).isSome then (ev Γ e st).bind fun x st => appE (.loc i) x st else .stuck) = _
 rw [hs, he]
 show nextO (((slot st.v i).bind ownOf).bind fun xs => (gd (okLen xs.length) ()).bind fun _ => setP st (some (.own (xs ++ [d]))) (.loc i)) = _
 rw [hs]
 show nextO ((gd (okLen xs.length) ()).bind fun _ => gd (decide (i < st.v.length)) { st with v := st.v.set i (some (.own (xs ++ [d]))) }) = _
 rw [hz, dtt hi]; rfl
theorem ev_nil {ne : Bool} (hs : slot st.v i = some f) (hl : lstOf f = some xs) : ev Γ (.cmpNil ne (.loc i)) st = .ok [bV (if ne then !xs.isEmpty else xs.isEmpty)] st := by
 show oneO (((slot st.v i).bind lstOf).map fun xs => bV (if ne then !xs.isEmpty else xs.isEmpty)) st = _
 rw [hs]
 show oneO ((lstOf f).map fun xs => bV (if ne then !xs.isEmpty else xs.isEmpty)) st = _
 rw [hl]; rfl
theorem ev_get (hs : slot st.v i = some (.val d)) : ev Γ (.get (.loc i)) st = .ok [.val d] st := by
 show (match slot st.v i with | some (.val d) => R.ok [F.val d] st | some (.pg k) => .ok [.pg k] st | some (.own xs) => (match setP st (some (.val (.list xs))) (.loc i) with | some st' => .ok [.val (.list xs)] st' | none => .stuck) | _ => .stuck) = _
 rw [hs]
theorem inV_last (h : vv.length = n) : slot (inV vv d) n = some (.val d) := by
 unfold slot inV
 rw [← h, List.getElem?_append_right (by rw [lmp]; exact Nat.le_refl _), lmp, Nat.sub_self]; rfl
theorem inV_at {u : PyData} (h : slot vv i = some (.val u)) : slot (inV vv d) i = some (.val u) := by
 unfold slot at h ⊢
 unfold inV
 cases hq : vv[i]? with
 | none => rw [hq] at h; cases h
 | some o =>
  rw [hq] at h
  cases show o = _ from h
  obtain ⟨hi, _⟩ := gsm hq
  rw [List.getElem?_append_left (by rw [lmp]; exact hi), List.getElem?_map, hq]; rfl
theorem ev_comp {g : PyData → PyData} (hs : (ev Γ src st).bind (itE kd) = .ok xs ⟨vv, pp, n⟩) (he : ∀ d ∈ xs, ev Γ elt ⟨inV vv d, pp, 0⟩ = .ok [.val (g d)] ⟨inV vv d, pp, 0⟩) (hz : okLen xs.length = true) (hl : (vv.length == k) = true) :
  ev Γ (.comp k kd src elt .nil) st = .ok [.own (xs.map g)] ⟨vv, pp, n⟩ := by
 show ((ev Γ src st).bind (itE kd)).bind (fun xs st => compE k (stepC Γ elt .nil st.v) xs st) = _
 rw [hs]
 have hm : ∀ ys : List PyData, (∀ d ∈ ys, d ∈ xs) → mapR (stepC Γ elt .nil vv) ys pp = some (ys.map g, pp) := fun ys => by
  induction ys with
  | nil => exact fun _ => rfl
  | cons y ys ih =>
   intro h
   have e1 : stepC Γ elt .nil vv y pp = .ok [g y] ⟨inV vv y, pp, 0⟩ := by
    show ((ev Γ elt ⟨inV vv y, pp, 0⟩).bind eltE) = _
    rw [he y (h y (.head _))]; rfl
   show (match stepC Γ elt .nil vv y pp with | .ok ys st => _ | _ => none) = _
   rw [e1]
   show (mapR (stepC Γ elt .nil vv) ys pp).map _ = _
   rw [ih fun d hd => h d (.tail _ hd)]; rfl
 show (match mapR (stepC Γ elt .nil vv) xs pp with | some q => (if okLen xs.length && vv.length == k then R.ok [F.own q.1] ⟨vv, q.2, n⟩ else .stuck) | none => .stuck) = _
 rw [hm xs fun _ h => h]
 show (if okLen xs.length && vv.length == k then R.ok [F.own (xs.map g)] ⟨vv, pp, n⟩ else .stuck) = _
 rw [hz, hl]; rfl
end
end Mine.Internal
namespace Mine.Internal.S
noncomputable def encM (m : Mk) : PyData := .tuple [sgn m.1, .int m.2.1, .int m.2.2]
noncomputable def encO : Option Mk → PyData
 | none => .none
 | some m => encM m
noncomputable def encL (l : List Mk) : List PyData := l.map encM
noncomputable def encR (R : Rd) : PyData := .tuple [.list (encL R.cl), encO R.ft, .list (encL R.wt)]
section
variable {Γ : Nat → Fn} {m : Mk} {n : Nat}
theorem lower_ok : B Γ d_lower [.val (encM m), .val (.int n)] = .ret (.val (encM (low n m))) [] := rfl
noncomputable def Sp7 (Γ : Nat → Fn) : Prop := ∀ m (n : Nat), Γ 7 [] [.val (encM m), .val (.int n)] = .ret (.val (encM (low n m))) []
theorem jl_sz : ∀ {ms cl wt : List Mk} {cl' wt' : List Mk}, jl n ms cl wt = .inr (cl', wt') → cl'.length + wt'.length ≤ cl.length + wt.length + ms.length
 | [], cl, wt, cl', wt', h => by cases h; exact Nat.le_refl _
 | m :: ms, cl, wt, cl', wt', h => by
  rw [jl_c] at h
  cases hw : wt.getLast? with
  | none => rw [hw] at h; have := jl_sz h; simp at this ⊢; lia
  | some t =>
   rw [hw] at h
   dsimp only at h
   split at h
   · have := jl_sz h; simp at this ⊢; lia
   · cases h
noncomputable abbrev jS (A C : F) (n : Nat) (cl wt : List Mk) (s6 : Option F) : St := ⟨[some A, some C, some (.val (.int n)), some (.own (encL cl)), some (.val .none), some (.own (encL wt)), s6], [], 0⟩
theorem encL_len (l : List Mk) : (encL l).length = l.length := lmp ..
theorem opn_ok (h : isCl m.1 = true) : ev Γ (.op .getOpen (n_1 (.op .idx (n_2 q_6 l_0)))) ⟨[A, C, N, X, Y, Z, some (.val (encM m))], [], 0⟩ = .ok [.val (sgn (opOf m.1))] ⟨[A, C, N, X, Y, Z, some (.val (encM m))], [], 0⟩ := by
 show oneO ((openF (S [m.1])).map fun y => .val (.str y)) _ = _
 rw [open_one, h]; rfl
theorem lowC {A C X Y Z : Option F} (h7 : Sp7 Γ) : ev Γ (.call true 7 (n_2 q_6 q_2)) ⟨[A, C, some (.val (.int n)), X, Y, Z, some (.val (encM m))], [], 0⟩ = .ok [.val (encM (low n m))] ⟨[A, C, some (.val (.int n)), X, Y, Z, some (.val (encM m))], [], 0⟩ :=
 ev_fn (fs := [.val (encM m), .val (.int n)]) (ev_cons (f := .val (encM m)) rfl (ev_ci (i := n) rfl rfl)) rfl (h7 m n)
theorem joined_loop (h7 : Sp7 Γ) (A C : F) : ∀ (ms cl wt : List Mk) (s6 : Option F), (∀ m ∈ ms, isCl m.1 = true) → cl.length + wt.length + ms.length ≤ 100000 →
  ∃ v' s', forL (stepB Γ false [6] jB) (encL ms) (jS A C n cl wt s6) = match jl n ms cl wt with
   | .inl r => .ok (.ret (.val (encR r))) ⟨v', [], 0⟩
   | .inr q => .ok .next (jS A C n q.1 q.2 s')
 | [], cl, wt, s6, _, _ => ⟨[], s6, rfl⟩
 | m :: ms, cl, wt, s6, hc, hz => by
  have hz : cl.length + wt.length + (ms.length + 1) ≤ 100000 := hz
  have hm := hc m (.head _)
  have hl : ∀ m ∈ ms, isCl m.1 = true := fun k hk => hc k (.tail _ hk)
  rw [jl_c]
  cases hw : wt.getLast? with
  | none =>
   have : wt = [] := List.getLast?_eq_none_iff.mp hw
   subst this
   obtain ⟨v', s', ih⟩ := joined_loop h7 A C ms (cl ++ [low n m]) [] (some (.val (encM m))) hl (by simp; simp at hz; lia)
   refine ⟨v', s', (for_next ((step_of rfl).trans (ex_next ((ex_then (ev_nil (f := .own []) rfl rfl)).trans ((ex_next (ex_append (xs := encL cl) rfl (okLen_of (by rw [encL_len]; lia)) (lowC h7) (show 3 < 7 by decide))).trans rfl))))).trans ?_⟩
   exact (congrArg (forL (stepB Γ false [6] jB) (encL ms)) (by unfold jS encL; rw [List.map_append]; rfl)).trans ih
  | some t =>
   obtain ⟨ws, rfl⟩ := List.getLast?_eq_some_iff.mp hw
   have e1 : (encL (ws ++ [t])).getLast? = some (encM t) := by unfold encL; rw [List.map_append]; exact List.getLast?_concat ..
   have e2 : (encL (ws ++ [t])).dropLast = encL ws := by unfold encL; rw [List.map_append]; exact List.dropLast_concat ..
   have e3 : ev Γ (.cmpNil false (.loc 5)) (jS A C n cl (ws ++ [t]) (some (.val (encM m)))) = .ok [bV false] (jS A C n cl (ws ++ [t]) (some (.val (encM m)))) := (ev_nil (f := .own (encL (ws ++ [t]))) rfl rfl).trans (by unfold encL; rw [List.map_append]; cases ws <;> rfl)
   have e4 : ev Γ (.peek .pop (.loc 5) .nil) (jS A C n cl (ws ++ [t]) (some (.val (encM m)))) = .ok [.val (encM t)] (jS A C n cl ws (some (.val (encM m)))) := (ev_pop (xs := encL (ws ++ [t])) rfl (okLen_of (by rw [encL_len]; simp at hz ⊢; lia)) e1 (show 5 < 7 by decide)).trans (by rw [e2]; rfl)
   have e6 : ev Γ (.op .idx (n_2 (.peek .pop (.loc 5) .nil) l_0)) (jS A C n cl (ws ++ [t]) (some (.val (encM m)))) = .ok [.val (sgn t.1)] (jS A C n cl ws (some (.val (encM m)))) := (ev_op (fs := [.val (encM t), .val (.int 0)]) (ev_cons (f := .val (encM t)) e4 rfl)).trans rfl
   have e5 := ev_cmp (Γ := Γ) (op := .NotEq) (q := !([t.1] == [opOf m.1])) (ev_cons (f := .val (sgn t.1)) e6 (ev_cons (b := .nil) (opn_ok (Γ := Γ) hm) rfl)) rfl
   rw [List.dropLast_concat]
   dsimp only
   by_cases ht : t.1 = opOf m.1
   · rw [if_pos ht]
     rw [show (!([t.1] == [opOf m.1])) = false by rw [ht, beq_self_eq_true]; rfl] at e5
     obtain ⟨v', s', ih⟩ := joined_loop h7 A C ms cl ws (some (.val (encM m))) hl (by simp at hz; lia)
     exact ⟨v', s', (for_next ((step_of rfl).trans ((ex_next ((ex_else e3).trans ((ex_skip e5).trans rfl))).trans rfl))).trans ih⟩
   · rw [if_neg ht]
     have hq : (!([t.1] == [opOf m.1])) = true := by
      cases hb : [t.1] == [opOf m.1] with
      | false => rfl
      | true => exact absurd (List.cons.inj (eq_of_beq hb)).1 ht
     rw [hq] at e5
     refine ⟨_, none, (for_ret ((step_of rfl).trans (ex_done ((ex_else e3).trans (ex_done ((ex_then e5).trans (ex_done (ret_val (d := encR ⟨cl, some (low n m), []⟩) ((ev_op (fs := [.val (.list (encL cl)), .val (encM (low n m)), .val (.list [])]) (ev_cons (f := .val (.list (encL cl))) rfl (ev_cons (lowC h7) rfl))).trans rfl))))))))).trans rfl⟩
noncomputable def Sp9 (Γ : Nat → Fn) : Prop := ∀ a b (n : Nat), (∀ m ∈ b.cl, isCl m.1 = true) → a.sz + b.sz ≤ 100000 → Γ 9 [] [.val (encR a), .val (encR b), .val (.int n)] = .ret (.val (encR (join a b n))) []
theorem four {a b c d : Nat} (h : a + b + (c + d) ≤ 100000) : (a ≤ 100000 ∧ b ≤ 100000) ∧ (c ≤ 100000 ∧ d ≤ 100000) ∧ a + b + c ≤ 100000 := ⟨⟨nlt (nlt (Nat.le_add_right a b) (Nat.le_add_right _ _)) h, nlt (nlt (Nat.le_add_left b a) (Nat.le_add_right _ _)) h⟩, ⟨nlt (nlt (Nat.le_add_right c d) (Nat.le_add_left _ _)) h, nlt (nlt (Nat.le_add_left d c) (Nat.le_add_left _ _)) h⟩, nlt (Nat.add_le_add_left (Nat.le_add_right c d) _) h⟩
theorem four' {a b c d x y : Nat} (h : a + b + (c + d) ≤ 100000) (hq : x + y ≤ a + b + c) : y + d ≤ 200000 := by lia
theorem joined_ok (h7 : Sp7 Γ) {a b : Rd} (hc : ∀ m ∈ b.cl, isCl m.1 = true) (hz : a.sz + b.sz ≤ 100000) : B Γ d_joined [.val (encR a), .val (encR b), .val (.int n)] = .ret (.val (encR (join a b n))) [] := by
 unfold Rd.sz at hz
 obtain ⟨cl, ft, wt⟩ := a
 obtain ⟨bc, bf, bw⟩ := b
 dsimp only at hz hc
 cases ft with
 | some f => exact run_of rfl ((ex_next rfl).trans (ex_done ((ex_then (ev_cmp (u := encM f) (v := .none) rfl rfl)).trans (ex_done (ret_val rfl)))))
 | none =>
  obtain ⟨v', s', hl⟩ := joined_loop (n := n) h7 (.val (encR ⟨cl, none, wt⟩)) (.val (encR ⟨bc, bf, bw⟩)) bc cl wt none hc (four hz).2.2
  have e0 : ex Γ (.unpack [3, 4, 5] q_0) ⟨[some (.val (encR ⟨cl, none, wt⟩)), some (.val (encR ⟨bc, bf, bw⟩)), some (.val (.int n)), none, none, none, none], [], 0⟩ = .ok .next ⟨[some (.val (encR ⟨cl, none, wt⟩)), some (.val (encR ⟨bc, bf, bw⟩)), some (.val (.int n)), some (.val (.list (encL cl))), some (.val .none), some (.val (.list (encL wt))), none], [], 0⟩ := rfl
  have e1 : ex Γ (.assign (.loc 3) (.peek .copy (.loc 3) .nil)) ⟨[some (.val (encR ⟨cl, none, wt⟩)), some (.val (encR ⟨bc, bf, bw⟩)), some (.val (.int n)), some (.val (.list (encL cl))), some (.val .none), some (.val (.list (encL wt))), none], [], 0⟩ = .ok .next ⟨[some (.val (encR ⟨cl, none, wt⟩)), some (.val (encR ⟨bc, bf, bw⟩)), some (.val (.int n)), some (.own (encL cl)), some (.val .none), some (.val (.list (encL wt))), none], [], 0⟩ := (ex_assign (ev_copy (f := .val (.list (encL cl))) rfl rfl (okLen_of (by rw [encL_len]; exact big (four hz).1.1)))).trans rfl
  have e2 : ex Γ (.assign (.loc 5) (.peek .copy (.loc 5) .nil)) ⟨[some (.val (encR ⟨cl, none, wt⟩)), some (.val (encR ⟨bc, bf, bw⟩)), some (.val (.int n)), some (.own (encL cl)), some (.val .none), some (.val (.list (encL wt))), none], [], 0⟩ = .ok .next (jS (.val (encR ⟨cl, none, wt⟩)) (.val (encR ⟨bc, bf, bw⟩)) n cl wt none) := (ex_assign (ev_copy (f := .val (.list (encL wt))) rfl rfl (okLen_of (by rw [encL_len]; exact big (four hz).1.2)))).trans rfl
  have e3 := ex_loop (many := false) (is := [6]) (body := jB) (it_of (kd := 0) (e := .op .idx (n_2 q_1 l_0)) (Γ := Γ) (st := jS (.val (encR ⟨cl, none, wt⟩)) (.val (encR ⟨bc, bf, bw⟩)) n cl wt none) (fs := [.val (.list (encL bc))]) (xs := encL bc) rfl (by
   show (((none : Option (List PyData)).or (gd (okLen (encL bc).length) (encL bc))).or none) = _
   rw [okLen_of (by rw [encL_len]; exact big (four hz).2.1.1)]; rfl))
  have e4 : ∀ {t : CS}, ex Γ (.seq (.iff (.cmp .IsNot (n_2 q_4 (.lit .none))) (.seq (.ret q_0) .nil) .nil) t) ⟨[some (.val (encR ⟨cl, none, wt⟩)), some (.val (encR ⟨bc, bf, bw⟩)), some (.val (.int n)), some (.val (.list (encL cl))), some (.val .none), some (.val (.list (encL wt))), none], [], 0⟩ = ex Γ t ⟨[some (.val (encR ⟨cl, none, wt⟩)), some (.val (encR ⟨bc, bf, bw⟩)), some (.val (.int n)), some (.val (.list (encL cl))), some (.val .none), some (.val (.list (encL wt))), none], [], 0⟩ := ex_skip rfl
  cases hj : jl n bc cl wt with
  | inl r =>
   rw [hj] at hl
   rw [join_l (a := ⟨cl, none, wt⟩) (b := ⟨bc, bf, bw⟩) rfl hj]
   exact run_of rfl ((ex_next e0).trans (e4.trans ((ex_next e1).trans ((ex_next e2).trans (ex_done (e3.trans hl))))))
  | inr q =>
   obtain ⟨cl', wt'⟩ := q
   rw [hj] at hl
   have hq := jl_sz hj
   cases bf with
   | some f =>
    rw [join_f (a := ⟨cl, none, wt⟩) (b := ⟨bc, some f, bw⟩) rfl hj rfl]
    exact run_of rfl ((ex_next e0).trans (e4.trans ((ex_next e1).trans ((ex_next e2).trans ((ex_next (e3.trans hl)).trans (ex_done ((ex_then (ev_cmp (u := encM f) (v := .none) rfl rfl)).trans (ex_done (ret_val (d := encR ⟨cl', some (low n f), []⟩)
     ((ev_op (fs := [.val (.list (encL cl')), .val (encM (low n f)), .val (.list [])]) (ev_cons (f := .val (.list (encL cl'))) rfl (ev_cons (f := .val (encM (low n f))) (ev_fn (fs := [.val (encM f), .val (.int n)]) (ev_cons (f := .val (encM f)) rfl (ev_ci (i := n) rfl rfl)) rfl (h7 f n)) rfl))).trans rfl))))))))))
   | none =>
    rw [join_r (a := ⟨cl, none, wt⟩) (b := ⟨bc, none, bw⟩) rfl hj rfl]
    have hb : okLen (encL bw).length = true := okLen_of (by rw [encL_len]; exact big (four hz).2.1.2)
    have e5 : ∀ vv, vv.length = 7 → slot vv 1 = some (.val (encR ⟨bc, none, bw⟩)) → slot vv 2 = some (.val (.int n)) → ev Γ (.comp 7 0 (.op .idx (n_2 q_1 l_2)) (.call true 7 (n_2 q_7 q_2)) .nil) ⟨vv, [], 0⟩ = .ok [.own (encL (bw.map (low n)))] ⟨vv, [], 0⟩ := fun vv hv h1 h2 => by
     have g1 : ∀ {st : St} {i : Nat} {d : PyData}, slot st.v i = some (.val d) → ev Γ (.get (.loc i)) st = .ok [.val d] st := fun {st i d} h => ev_get h
     refine (ev_comp (g := fun d => match d with | .tuple [x, .int r, y] => .tuple [x, .int (r + n), y] | _ => d) (it_of (fs := [.val (.list (encL bw))]) (xs := encL bw) ((ev_op (fs := [.val (encR ⟨bc, none, bw⟩), .val (.int 2)]) (ev_cons (f := .val (encR ⟨bc, none, bw⟩)) (g1 h1) rfl)).trans rfl) (by
      show (((none : Option (List PyData)).or (gd (okLen (encL bw).length) (encL bw))).or none) = _
      rw [hb]; rfl)) (fun d hd => ?_) hb (by rw [hv]; rfl)).trans ?_
     · obtain ⟨k, hk, rfl⟩ := List.mem_map.mp hd
       exact ev_fn (fs := [.val (encM k), .val (.int n)]) (ev_cons (f := .val (encM k)) (g1 (inV_last hv)) (ev_ci (i := n) (g1 (inV_at h2)) rfl)) rfl (h7 k n)
     · refine congrArg (fun l => R.ok [F.own l] _) ?_
       unfold encL
       rw [List.map_map, List.map_map]; rfl
    have e6 : ∀ st, opE (.bin .Add) [.val (.list (encL wt')), .val (.list (encL (bw.map (low n))))] st = .ok [.own (encL (wt' ++ bw.map (low n)))] st := fun st => by
     show oneO (((none : Option F).or none).or ((gd (okLen ((encL wt').length + (encL (bw.map (low n))).length)) (.own (encL wt' ++ encL (bw.map (low n))))).or none)) _ = _
     rw [okLen_of (by rw [encL_len, encL_len, lmp]; exact four' hz hq)]
     unfold encL; rw [List.map_append]; rfl
    exact run_of rfl ((ex_next e0).trans (e4.trans ((ex_next e1).trans ((ex_next e2).trans ((ex_next (e3.trans hl)).trans ((ex_skip rfl).trans (ex_done (ret_val (d := encR ⟨cl', none, wt' ++ bw.map (low n)⟩)
     ((ev_op (fs := [.val (.list (encL cl')), .val .none, .val (.list (encL (wt' ++ bw.map (low n))))]) (ev_cons (f := .val (.list (encL cl'))) rfl (ev_cons (f := .val .none) rfl (ev_cons (f := .own (encL (wt' ++ bw.map (low n)))) ((ev_op (fs := [.val (.list (encL wt')), .val (.list (encL (bw.map (low n))))]) (ev_cons (f := .val (.list (encL wt'))) rfl (ev_cons (f := .own (encL (bw.map (low n)))) (e5 _ rfl rfl rfl) rfl))).trans (e6 _)) rfl)))).trans rfl)))))))))
end
end Mine.Internal.S
end
section
namespace Mine.Internal.S
theorem in_none {l w : List Nat} (hw : w ≠ []) (h : ∀ c ∈ w, c ∉ l) : inStr (S l) (S w) = false := by
 cases hi : inStr (S l) (S w) with
 | false => rfl
 | true =>
  exfalso
  unfold inStr at hi
  obtain ⟨i, h1, h2⟩ := (PySem.StrLaws.found_iff _ _).mp hi
  cases w with
  | nil => exact hw rfl
  | cons c w =>
   have hm : c ∈ l := by
    rw [PySem.StrLaws.subAt_eq, beq_iff_eq] at h2
    have h3 : (l.drop i).take (S (c :: w)).length = c :: w := by simpa [S] using h2
    have h4 : c ∈ (l.drop i).take (S (c :: w)).length := by rw [h3]; exact .head _
    exact List.mem_of_mem_drop (List.mem_of_mem_take h4)
   exact h c (.head _) hm
theorem is_bracket_word {Γ : Nat → Fn} {w : List Nat} (hw : w ≠ []) (h : ∀ c ∈ w, isBr c = false) : B Γ d_is_bracket [.val (strD w)] = .ret (.val (.bool false)) [] := by
 have h1 : inStr (S [40, 91, 123]) (S w) = false := in_none hw fun c hc hm => by
  have := h c hc
  rw [isBr_is] at this
  unfold isOp at this
  rw [dtt hm] at this; cases this
 have h2 : openF (S w) = none := by
  unfold openF
  rw [cs_S]
  have n : ∀ k, isBr k = true → w ≠ [k] := fun k hk e => by rw [h k (by rw [e]; exact .head _)] at hk; cases hk
  rw [if_neg (n 41 (by rw [isBr_is]; rfl)), if_neg (n 93 (by rw [isBr_is]; rfl)), if_neg (n 125 (by rw [isBr_is]; rfl))]
 refine run_of rfl (ex_done (ret_val ((ev_or (x := false) (y := false) (ev_cmp (op := .In) (u := strD w) (v := strD [40, 91, 123]) rfl (show cmpF .In (strD w) (strD [40, 91, 123]) = some false from congrArg some h1)) fun _ => ?_).trans rfl)))
 show oneO ((some (S w)).map fun s => bV (openF s).isSome) _ = _
 show Mine.Internal.R.ok [bV (openF (S w)).isSome] _ = _
 rw [h2]; rfl
noncomputable def Sp4 (Γ : Nat → Fn) : Prop := (∀ c, Γ 4 [] [.val (sgn c)] = .ret (.val (.bool (isBr c))) []) ∧ ∀ w, w ≠ [] → (∀ c ∈ w, isBr c = false) → Γ 4 [] [.val (strD w)] = .ret (.val (.bool false)) []
inductive Tk where
 | word (b : Nat) (w : List Nat) (e : Nat)
 | br (p c : Nat)
noncomputable def encT : Tk → PyData
 | .word b w e => .tuple [.int b, strD w, .int e]
 | .br p c => .tuple [.int p, sgn c, .int (p + 1)]
noncomputable def Tk.good : Tk → Prop
 | .word _ w _ => w ≠ [] ∧ ∀ c ∈ w, isBr c = false
 | .br _ c => isBr c = true
noncomputable def marksT : List Tk → List Mk
 | [] => []
 | .word .. :: r => marksT r
 | .br p c :: r => (c, 0, p) :: marksT r
theorem marksT_b {p c : Nat} {r : List Tk} : marksT (.br p c :: r) = (c, 0, p) :: marksT r := rfl
theorem marksT_append : ∀ a b, marksT (a ++ b) = marksT a ++ marksT b
 | [], b => rfl
 | .word .. :: r, b => marksT_append r b
 | .br p c :: r, b => by rw [List.cons_append, marksT_b, marksT_b, marksT_append r b]; rfl
section
variable {Γ : Nat → Fn}
noncomputable abbrev rS (T : F) (R : Rd) (a b c d e : Option F) : St := ⟨[some T, some (.val (encR R)), a, b, c, d, e], [], 0⟩
theorem joinOne (a : Rd) (m : Mk) : join a (step .nil m) 0 = step a m := join_run a 0 [m]
theorem step_sz (R : Rd) (m : Mk) : (step R m).sz ≤ R.sz + 1 := run_sz R [m]
theorem reading_loop (h4 : Sp4 Γ) (h9 : Sp9 Γ) (T : F) : ∀ (ts : List Tk) (R : Rd) (a b c d e : Option F), (∀ k ∈ ts, k.good) → R.sz + ts.length ≤ 50000 → ∃ a' b' c' d' e', forL (stepB Γ true [2, 3, 4] rB) (ts.map encT) (rS T R a b c d e) = .ok .next (rS T (run R (marksT ts)) a' b' c' d' e')
 | [], R, a, b, c, d, e, _, _ => ⟨a, b, c, d, e, rfl⟩
 | .word p w q :: ts, R, a, b, c, d, e, hg, hz => by
  obtain ⟨h1, h2⟩ := hg _ (.head _)
  obtain ⟨a', b', c', d', e', ih⟩ := reading_loop h4 h9 T ts R (sI p) (sT w) (sI q) d e (fun k hk => hg k (.tail _ hk)) (by simp at hz; lia)
  exact ⟨a', b', c', d', e', (for_next ((step_of rfl).trans (ex_skip (ev_fn (fs := [.val (strD w)]) (ev_cs (l := w) rfl rfl) rfl (h4.2 w h1 h2))))).trans ih⟩
 | .br p k :: ts, R, a, b, c, d, e, hg, hz => by
  have hb : isBr k = true := hg _ (.head _)
  have hs := step_sz R (k, 0, p)
  obtain ⟨a', b', c', d', e', ih⟩ := reading_loop h4 h9 T ts (step R (k, 0, p)) (sI p) (sG k) (sI (p + 1)) (some (.val (encM (k, 0, p)))) (some (.val (encR (step .nil (k, 0, p))))) (fun k hk => hg k (.tail _ hk)) (by simp at hz; lia)
  have e1 : ev Γ (.call true 4 (n_1 q_3)) (rS T R (sI p) (sG k) (sI (p + 1)) d e) = .ok [bV true] (rS T R (sI p) (sG k) (sI (p + 1)) d e) := ev_fn (fs := [.val (sgn k)]) (ev_cons (f := .val (sgn k)) rfl rfl) rfl ((h4.1 k).trans (by rw [hb]; rfl))
  have e2 : ∀ {d0 e0 : Option F}, ev Γ (.inOpen q_3) (rS T R (sI p) (sG k) (sI (p + 1)) d0 e0) = .ok [bV (isCl k)] (rS T R (sI p) (sG k) (sI (p + 1)) d0 e0) := fun {d0 e0} => by
   show Mine.Internal.R.ok [bV (openF (S [k])).isSome] _ = _
   rw [open_one]
   cases isCl k <;> rfl
  have e3 : ∀ {d0 : Option F}, ex Γ (.assign (.loc 1) (.call true 9 (n_3 q_1 q_6 l_0))) (rS T R (sI p) (sG k) (sI (p + 1)) d0 (some (.val (encR (step .nil (k, 0, p)))))) = .ok .next (rS T (step R (k, 0, p)) (sI p) (sG k) (sI (p + 1)) d0 (some (.val (encR (step .nil (k, 0, p)))))) := fun {d0} =>
   (ex_assign (ev_fn (fs := [.val (encR R), .val (encR (step .nil (k, 0, p))), .val (.int 0)]) (ev_cons (f := .val (encR R)) rfl (ev_cons (f := .val (encR (step .nil (k, 0, p)))) rfl rfl)) rfl ((h9 R (step .nil (k, 0, p)) 0 (run_cl .nil (fun m hm => (nomatch hm)) [(k, 0, p)]) (by have := step_sz .nil (k, 0, p); simp at hz; have : Rd.nil.sz = 0 := rfl; lia)).trans (by rw [joinOne])))).trans rfl
  refine ⟨a', b', c', d', e', (for_next ((step_of rfl).trans ((ex_next ((ex_then e1).trans ((ex_next rfl).trans ((ex_next rfl).trans ?_)))).trans rfl))).trans ih⟩
  cases hc : isCl k with
  | true =>
   have hst : step .nil (k, 0, p) = ⟨[(k, 0, p)], none, []⟩ := step_a rfl hc rfl
   rw [hc] at e2
   rw [hst] at e3 ⊢
   exact (ex_next ((ex_then e2).trans rfl)).trans ((ex_next e3).trans rfl)
  | false =>
   have hst : step .nil (k, 0, p) = ⟨[], none, [(k, 0, p)]⟩ := step_d rfl hc
   rw [hc] at e2
   rw [hst] at e3 ⊢
   exact (ex_skip e2).trans ((ex_next e3).trans rfl)
theorem reading_of_ok (h4 : Sp4 Γ) (h9 : Sp9 Γ) (ts : List Tk) (hg : ∀ k ∈ ts, k.good) (hz : ts.length ≤ 40000) : B Γ d_reading_of [.val (.list (ts.map encT))] = .ret (.val (encR (run .nil (marksT ts)))) [] := by
 obtain ⟨a', b', c', d', e', h⟩ := reading_loop h4 h9 (.val (.list (ts.map encT))) ts .nil none none none none none hg (by have : Rd.nil.sz = 0 := rfl; lia)
 have e1 := ex_loop (many := true) (is := [2, 3, 4]) (body := rB) (it_of (kd := 0) (e := .get (.loc 0)) (Γ := Γ) (st := rS (.val (.list (ts.map encT))) .nil none none none none none) (fs := [.val (.list (ts.map encT))]) (xs := ts.map encT) rfl (by
  show (((none : Option (List PyData)).or (gd (okLen (ts.map encT).length) (ts.map encT))).or none) = _
  rw [okLen_of (by rw [lmp]; lia)]; rfl))
 exact run_of rfl ((ex_next rfl).trans ((ex_next (e1.trans h)).trans (ex_done (ret_val rfl))))
noncomputable def Sp8 (Γ : Nat → Fn) : Prop := ∀ ts : List Tk, (∀ k ∈ ts, k.good) → ts.length ≤ 40000 → Γ 8 [] [.val (.list (ts.map encT))] = .ret (.val (encR (run .nil (marksT ts)))) []
end
noncomputable def ends (c : Nat) : Bool := decide (c = 32) || isBr c
noncomputable def tkStep (L : List Nat) (i : Nat) (bg : Option Nat) (c : Nat) : List Tk :=
 (if ends c then (match bg with | some b => [.word b ((L.take i).drop b) i] | none => []) else []) ++ (if isBr c then [.br i c] else [])
noncomputable def bgStep (i : Nat) (bg : Option Nat) (c : Nat) : Option Nat := if ends c then none else (match bg with | some b => some b | none => some i)
noncomputable def tk (L : List Nat) : Nat → Option Nat → List Nat → List Tk
 | _, _, [] => []
 | i, bg, c :: rest => tkStep L i bg c ++ tk L (i + 1) (bgStep i bg c) rest
theorem tk_c {L rest : List Nat} {i c : Nat} {bg : Option Nat} : tk L i bg (c :: rest) = tkStep L i bg c ++ tk L (i + 1) (bgStep i bg c) rest := rfl
noncomputable def toks (L : List Nat) : List Tk := tk L 0 none (L ++ [32])
noncomputable def marksFrom : Nat → List Nat → List Mk
 | _, [] => []
 | i, c :: l => if isBr c then (c, 0, i) :: marksFrom (i + 1) l else marksFrom (i + 1) l
theorem marksFrom_n {i : Nat} : marksFrom i [] = [] := rfl
theorem marksFrom_c {i c : Nat} {l : List Nat} : marksFrom i (c :: l) = if isBr c then (c, 0, i) :: marksFrom (i + 1) l else marksFrom (i + 1) l := rfl
theorem marks_tkStep (L : List Nat) (i : Nat) (bg : Option Nat) (c : Nat) : marksT (tkStep L i bg c) = if isBr c then [(c, 0, i)] else [] := by
 unfold tkStep
 rw [marksT_append]
 cases isBr c <;> cases ends c <;> cases bg <;> rfl
theorem marks_tk (L : List Nat) : ∀ (rest : List Nat) (i : Nat) (bg : Option Nat), marksT (tk L i bg rest) = marksFrom i rest
 | [], _, _ => rfl
 | c :: rest, i, bg => by
  rw [tk_c, marksT_append, marks_tkStep, marks_tk L rest, marksFrom_c]
  cases isBr c <;> rfl
theorem marksFrom_append : ∀ (a b : List Nat) (i : Nat), marksFrom i (a ++ b) = marksFrom i a ++ marksFrom (i + a.length) b
 | [], b, i => by simp [marksFrom_n]
 | c :: a, b, i => by
  rw [List.cons_append, marksFrom_c, marksFrom_c, marksFrom_append a b (i + 1)]
  have : i + 1 + a.length = i + (c :: a).length := by simp; lia
  rw [this]
  cases isBr c <;> simp
theorem marks_toks (L : List Nat) : marksT (toks L) = marksFrom 0 L := by
 unfold toks
 rw [marks_tk, marksFrom_append]
 simp [marksFrom_c, marksFrom_n, isBr_is, isOp, isCl]
theorem tkStep_len (L : List Nat) (i : Nat) (bg : Option Nat) (c : Nat) : (tkStep L i bg c).length ≤ 2 := by
 unfold tkStep
 cases isBr c <;> cases ends c <;> cases bg <;> simp
theorem tk_len (L : List Nat) : ∀ (rest : List Nat) (i : Nat) (bg : Option Nat), (tk L i bg rest).length ≤ 2 * rest.length
 | [], _, _ => Nat.le_refl _
 | c :: rest, i, bg => by
  rw [tk_c, lap, List.length_cons]
  have := tkStep_len L i bg c
  have := tk_len L rest (i + 1) (bgStep i bg c)
  lia
theorem toks_len (L : List Nat) : (toks L).length ≤ 2 * L.length + 2 := by
 have := tk_len L (L ++ [32]) 0 none
 unfold toks
 simp at this ⊢
 lia
noncomputable def BgOk (L : List Nat) (i : Nat) : Option Nat → Prop
 | none => True
 | some b => b < i ∧ i ≤ L.length ∧ ∀ c ∈ (L.take i).drop b, isBr c = false
theorem tk_good (L : List Nat) : ∀ (rest pre : List Nat) (bg : Option Nat), L ++ [32] = pre ++ rest → BgOk L pre.length bg → ∀ k ∈ tk L pre.length bg rest, k.good
 | [], _, _, _, _ => fun k hk => nomatch hk
 | c :: rest, pre, bg, hL, hb => by
  intro k hk
  rw [tk_c] at hk
  rcases List.mem_append.mp hk with hk | hk
  · unfold tkStep at hk
    rcases List.mem_append.mp hk with hk | hk
    · split at hk
      · split at hk
        · rename_i b
          rw [lsm hk]
          obtain ⟨h1, h2, h3⟩ := hb
          refine ⟨fun e => ?_, h3⟩
          have := congrArg List.length e
          simp at this
          lia
        · cases hk
      · cases hk
    · split at hk
      · rename_i hbr
        rw [lsm hk]; exact hbr
      · cases hk
  · have hp : (pre ++ [c]).length = pre.length + 1 := by simp
    rw [← hp] at hk
    refine tk_good L rest (pre ++ [c]) _ (by rw [hL]; simp) ?_ k hk
    unfold bgStep
    cases he : ends c with
    | true => simp [BgOk]
    | false =>
     simp only [Bool.false_eq_true, if_false]
     unfold ends at he
     simp only [Bool.or_eq_false_iff, decide_eq_false_iff_not] at he
     have hlt : pre.length < L.length := by
      rcases Nat.lt_or_ge pre.length L.length with q | q
      · exact q
      · exfalso
        have h1 := congrArg List.length hL
        simp at h1
        have hr : rest = [] := by cases rest with | nil => rfl | cons _ _ => simp at h1; lia
        subst hr
        have : (L ++ [32]).getLast? = some c := by rw [hL]; simp
        simp at this
        exact he.1 this.symm
     have hc : L[pre.length]? = some c := by
      have h1 : (L ++ [32])[pre.length]? = some c := by rw [hL]; simp
      rwa [List.getElem?_append_left hlt] at h1
     have htake : L.take (pre.length + 1) = L.take pre.length ++ [c] := by
      rw [List.take_add_one, hc]; rfl
     cases bg with
     | none =>
      refine ⟨by rw [hp]; exact Nat.lt_succ_self _, by rw [hp]; exact hlt, fun d hd => ?_⟩
      rw [hp, htake] at hd
      have hl : (L.take pre.length).length = pre.length := by rw [List.length_take]; exact Nat.min_eq_left (Nat.le_of_lt hlt)
      rw [List.drop_append_of_le_length (Nat.le_of_eq hl.symm), List.drop_of_length_le (Nat.le_of_eq hl)] at hd
      have hdc : d = c := by simpa using hd
      rw [hdc]; exact he.2
     | some b =>
      obtain ⟨h1, h2, h3⟩ := hb
      refine ⟨by rw [hp]; exact Nat.lt_succ_of_lt h1, by rw [hp]; exact hlt, fun d hd => ?_⟩
      rw [hp, htake] at hd
      have hl : (L.take pre.length).length = pre.length := by rw [List.length_take]; exact Nat.min_eq_left (Nat.le_of_lt hlt)
      rw [List.drop_append_of_le_length (by rw [hl]; exact Nat.le_of_lt h1)] at hd
      rcases List.mem_append.mp hd with hd | hd
      · exact h3 d hd
      · rw [lsm hd]; exact he.2
theorem toks_good (L : List Nat) : ∀ k ∈ toks L, k.good := tk_good L (L ++ [32]) [] none rfl trivial
noncomputable def encN : Option Nat → PyData
 | none => .none
 | some b => .int b
section
variable {Γ : Nat → Fn} {L : List Nat} {ts : List Tk} {bg : Option Nat} {i c : Nat} {en : Bool} {a3 a4 a5 : Option F}
noncomputable abbrev aS (L : List Nat) (ts : List Tk) (bg : Option Nat) (a3 a4 a5 : Option F) : St := ⟨[some (.val (strD L)), some (.own (ts.map encT)), some (.val (encN bg)), a3, a4, a5], [], 0⟩
noncomputable def tkA (L : List Nat) (i : Nat) (en : Bool) (bg : Option Nat) : List Tk := if en then (match bg with | some b => [.word b ((L.take i).drop b) i] | none => []) else []
theorem bnd_ok {b d : Nat} (h : b ≤ 100000) : bnd (some (.int b)) d = some b := by
 unfold bnd
 dsimp only
 rw [asI_int, Option.bind_some]
 rw [show decide ((0 : Int) ≤ (b : Int) ∧ (b : Int) < 4611686018427387904) = true from dtt (by lia)]; rfl
theorem cut_ok {α : Type} {xs : List α} {b : Nat} (hL : xs.length ≤ 100000) (hb : b ≤ 100000) (hi : i ≤ 100000) : cutL xs (some (.int b)) (some (.int i)) = some ((xs.take i).drop b) := by
 unfold cutL lenL
 rw [okLen_of (by lia), show gd true xs.length = some xs.length from rfl, Option.bind_some, bnd_ok hb, Option.bind_some, bnd_ok hi]; rfl
theorem slc_is {b : Nat} (hL : L.length ≤ 1000) (hb : b ≤ 1000) (hi : i ≤ 1000) {st : St} : opE (.slc true true) [.val (strD L), .val (.int b), .val (.int i)] st = .ok [.val (strD ((L.take i).drop b))] st := by
 show oneO (((cutL L (some (.int b)) (some (.int i))).map fun l => F.val (.str (S l))).or none) st = _
 rw [cut_ok (by lia) (by lia) (by lia)]; rfl
theorem encT_snoc {x : Tk} : ts.map encT ++ [encT x] = (ts ++ [x]).map encT := by rw [List.map_append]; rfl
theorem stepA (hL : L.length ≤ 1000) (hi : i ≤ 1000) (hb : ∀ b, bg = some b → b ≤ 1000) (hz : ts.length ≤ 100000) : ex Γ aA (aS L ts bg (sI i) a4 (some (.val (.bool en)))) = .ok .next (aS L (ts ++ tkA L i en bg) (if en then none else bg) (sI i) a4 (some (.val (.bool en)))) := by
 cases en with
 | false => rw [show ts ++ tkA L i false bg = ts from List.append_nil _]; exact (ex_else (ev_and (x := false) (y := false) rfl fun q => nomatch q)).trans rfl
 | true =>
  cases bg with
  | none => rw [show ts ++ tkA L i true none = ts from List.append_nil _]; exact (ex_else (ev_and (x := true) (y := false) rfl fun _ => rfl)).trans rfl
  | some b =>
   refine (ex_then (ev_and (x := true) (y := true) rfl fun _ => rfl)).trans ((ex_next (ex_append (xs := ts.map encT) (d := encT (.word b ((L.take i).drop b) i)) rfl (okLen_of (by rw [lmp]; lia)) ((ev_op (fs := [.val (.int b), .val (strD ((L.take i).drop b)), .val (.int i)]) (ev_ci (i := b) rfl (ev_cs (l := ((L.take i).drop b)) ((ev_op (fs := [.val (strD L), .val (.int b), .val (.int i)]) rfl).trans (slc_is hL (hb b rfl) hi)) rfl))).trans rfl) (show 1 < 6 by decide))).trans ((ex_next rfl).trans ?_))
   exact congrArg (fun l => Mine.Internal.R.ok Fl.next ⟨[some (.val (strD L)), some (.own l), some (.val .none), some (.val (.int i)), a4, some (.val (.bool true))], [], 0⟩) encT_snoc
theorem stepC' (h4 : Sp4 Γ) (hz : ts.length ≤ 100000) : ex Γ aC (aS L ts bg (sI i) (sG c) (some (.val (.bool en)))) = .ok .next (aS L (ts ++ if isBr c then [.br i c] else []) (if isBr c then bg else if en then bg else some (bg.getD i)) (sI i) (sG c) (some (.val (.bool en)))) := by
 have e1 : ev Γ (.call true 4 (n_1 q_4)) (aS L ts bg (sI i) (sG c) (some (.val (.bool en)))) = .ok [bV (isBr c)] _ := ev_fn (fs := [.val (sgn c)]) (ev_cons (f := .val (sgn c)) rfl rfl) rfl (h4.1 c)
 cases hb : isBr c with
 | true =>
  rw [hb] at e1
  refine (ex_then e1).trans ((ex_next (ex_append (xs := ts.map encT) (d := encT (.br i c)) rfl (okLen_of (by rw [lmp]; lia)) rfl (show 1 < 6 by decide))).trans ?_)
  exact congrArg (fun l => Mine.Internal.R.ok Fl.next ⟨[some (.val (strD L)), some (.own l), some (.val (encN bg)), some (.val (.int i)), some (.val (sgn c)), some (.val (.bool en))], [], 0⟩) encT_snoc
 | false =>
  rw [hb] at e1
  rw [if_neg Bool.false_ne_true, if_neg Bool.false_ne_true, List.append_nil]
  refine (ex_else e1).trans ?_
  cases en with
  | true => exact (ex_skip (ev_and (x := false) (y := false) rfl fun q => nomatch q)).trans rfl
  | false =>
   cases bg with
   | none => exact (ex_next ((ex_then (ev_and (x := true) (y := true) rfl fun _ => rfl)).trans rfl)).trans rfl
   | some b => exact (ex_skip (ev_and (x := true) (y := false) rfl fun _ => rfl)).trans rfl
theorem ends_ok (h4 : Sp4 Γ) : ev Γ aE (aS L ts bg (sI i) (sG c) a5) = .ok [bV (ends c)] (aS L ts bg (sI i) (sG c) a5) := by
 refine ev_or (ev_cmp (op := .Eq) (u := sgn c) (v := strD [32]) rfl ?_) fun _ => ev_fn (fs := [.val (sgn c)]) (ev_cons (f := .val (sgn c)) rfl rfl) rfl (h4.1 c)
 show some ([c] == [32]) = _
 by_cases h : c = 32
 · rw [h]; rfl
 · rw [dff h]
   exact congrArg some (bfi fun q => h (List.cons.inj (eq_of_beq q)).1)
theorem apart_loop (h4 : Sp4 Γ) (L : List Nat) (hL : L.length ≤ 500) : ∀ (rest : List Nat) (i : Nat) (bg : Option Nat) (ts : List Tk) (a3 a4 a5 : Option F), i + rest.length ≤ 600 → (∀ b, bg = some b → b ≤ 600) → ts.length + 2 * rest.length ≤ 5000 →
  ∃ b' a3' a4' a5', forL (stepB Γ true [3, 4] aB) (enumFrom i (rest.map sgn)) (aS L ts bg a3 a4 a5) = .ok .next (aS L (ts ++ tk L i bg rest) b' a3' a4' a5')
 | [], i, bg, ts, a3, a4, a5, _, _, _ => ⟨bg, a3, a4, a5, by rw [show tk _ _ _ [] = [] from rfl, List.append_nil]; rfl⟩
 | c :: rest, i, bg, ts, a3, a4, a5, hi, hb, hz => by
  simp only [List.length_cons] at hi hz
  have hA : (tkA L i (ends c) bg).length ≤ 1 := by unfold tkA; cases ends c <;> cases bg <;> first | exact Nat.le_refl _ | exact Nat.zero_le _
  have hst : ts ++ tkA L i (ends c) bg ++ (if isBr c then [.br i c] else []) = ts ++ tkStep L i bg c := by rw [List.append_assoc]; rfl
  have hbg : (if isBr c then (if ends c then none else bg) else if ends c then (if ends c then none else bg) else some ((if ends c then none else bg : Option Nat).getD i)) = bgStep i bg c := by
   unfold bgStep ends
   cases isBr c <;> cases decide (c = 32) <;> cases bg <;> rfl
  obtain ⟨b', a3', a4', a5', ih⟩ := apart_loop h4 L hL rest (i + 1) (bgStep i bg c) (ts ++ tkStep L i bg c) (sI i) (sG c) (some (.val (.bool (ends c)))) (by rw [Nat.add_assoc, Nat.add_comm 1]; exact hi) (fun b h => by
   unfold bgStep at h
   split at h
   · cases h
   · cases bg with
     | none => cases h; exact nlt (Nat.le_add_right i _) hi
     | some b0 => cases h; exact hb _ rfl) (by have := tkStep_len L i bg c; rw [lap]; lia)
  refine ⟨b', a3', a4', a5', (for_next ((step_of rfl).trans ((ex_next ((ex_assign (ends_ok h4)).trans rfl)).trans ((ex_next (stepA (big hL) (big (nlt (Nat.le_add_right i _) hi)) (fun b h => big (hb b h)) (big (nlt (Nat.le_add_right _ _) hz)))).trans ((ex_next ((stepC' h4 (by rw [lap]; exact big (Nat.add_le_add (nlt (Nat.le_add_right _ _) hz) hA))).trans (by rw [hst, hbg]))).trans rfl))))).trans (ih.trans ?_)⟩
  rw [tk_c, List.append_assoc]
theorem taken_apart_ok (h4 : Sp4 Γ) (hL : L.length ≤ 500) : B Γ d_taken_apart [.val (strD L)] = .ret (.val (.list ((toks L).map encT))) [] := by
 obtain ⟨b', a3, a4, a5, h⟩ := apart_loop h4 L hL (L ++ [32]) 0 none [] none none none (by simp; lia) (fun b h => nomatch h) (by simp; lia)
 have e1 := ex_loop (many := true) (is := [3, 4]) (body := aB) (it_of (kd := 2) (e := .cons (bA q_0 (.lit (.str (S [32])))) .nil) (Γ := Γ) (st := aS L [] none none none none) (fs := [.val (strD (L ++ [32]))]) (st1 := aS L [] none none none none) (xs := enumFrom 0 ((L ++ [32]).map sgn)) (ev_cs (l := (L ++ [32])) ((ev_op (fs := [.val (strD L), .val (strD [32])]) rfl).trans (by
  show oneO (((none : Option F).or (gd (okLen (L.length + 1)) (.val (.str (S (L ++ [32])))))).or ((none : Option F).or none)) _ = _
  rw [okLen_of (by lia)]; rfl)) rfl) (by
  show (((gd (okLen (L ++ [32]).length) ((L ++ [32]).map sgn)).or none)).map (enumFrom 0) = _
  rw [okLen_of (by simp; lia)]; rfl))
 exact run_of rfl ((ex_next rfl).trans ((ex_next rfl).trans ((ex_next (e1.trans h)).trans (ex_done (ret_val rfl)))))
noncomputable def Sp5 (Γ : Nat → Fn) : Prop := ∀ L : List Nat, L.length ≤ 500 → Γ 5 [] [.val (strD L)] = .ret (.val (.list ((toks L).map encT))) []
end
noncomputable def okLines (rows : LL) : Prop := ∀ l ∈ rows, okLine l = true
structure OkText (rows : LL) : Prop where
 one : 1 ≤ rows.length
 most : rows.length ≤ 64
 rows : okLines rows
theorem okLine_len {l : List Nat} (h : okLine l = true) : l.length ≤ 120 := odt (and2 h).1
noncomputable def sRows (rows : LL) : List PyData := rows.map strD
noncomputable abbrev sR (r : LL) : Option F := some (.val (.list (sRows r)))
noncomputable abbrev vR (r : LL) : F := .val (.list (sRows r))
theorem sRows_len (rows : LL) : (sRows rows).length = rows.length := lmp ..
theorem text_of {rows : LL} (h : OkText rows) : okTextD (sRows rows) = true := by
 unfold okTextD
 rw [sRows_len, dtt (by have := h.one; lia), dtt (by have := h.most; lia)]
 refine List.all_eq_true.mpr fun d hd => ?_
 obtain ⟨l, hl, rfl⟩ := List.mem_map.mp hd
 exact h.rows l hl
theorem like_of {rows : LL} (h : ∀ l ∈ rows, l.length ≤ 200000) : (sRows rows).all rowLike = true := List.all_eq_true.mpr fun d hd => by
 obtain ⟨l, hl, rfl⟩ := List.mem_map.mp hd
 exact okLen_of (h l hl)
theorem OkText.like {rows : LL} (h : OkText rows) : (sRows rows).all rowLike = true := like_of fun l hl => by have := okLine_len (h.rows l hl); lia
noncomputable def encFa : Fa → PyData
 | .ok => .none
 | .no r p => .tuple [.int r, .int p, strD [99, 108, 111, 115, 101, 115, 32, 110, 111, 116, 104, 105, 110, 103]]
 | .ano r p => .tuple [.int r, .int p, strD [99, 108, 111, 115, 101, 115, 32, 97, 110, 111, 116, 104, 101, 114]]
 | .lft r p => .tuple [.int r, .int p, strD [108, 101, 102, 116, 32, 111, 112, 101, 110]]
section
variable {Γ : Nat → Fn} {R : Rd} {rows : LL} {ds : List PyData}
theorem at_head {d : PyData} {ds : List PyData} (h : (d :: ds).length ≤ 200000) : atL (d :: ds) 0 = some d := by
 unfold atL lenL
 rw [okLen_of h]
 show (at? (d :: ds).length 0).bind _ = _
 have : at? (d :: ds).length 0 = some 0 := by
  unfold at? seqIndex?
  simp
 rw [this]; rfl
theorem at_last {d : PyData} {ds : List PyData} (h : ds.length < 200000) : atL (ds ++ [d]) (-1) = some d := by
 unfold atL lenL
 rw [okLen_of (by rw [lap]; exact h)]
 have : at? (ds ++ [d]).length (-1) = some ds.length := by
  unfold at? seqIndex?
  have h1 : (-1 : Int) < 0 := by decide
  have h2 : (-1 : Int) + ((ds ++ [d]).length : Nat) = (ds.length : Int) := by rw [lap]; simp; lia
  rw [if_pos h1, h2]
  simp
  lia
 show (at? (ds ++ [d]).length (-1)).bind _ = _
 rw [this]
 show (ds ++ [d])[ds.length]? = _
 rw [List.getElem?_append_right (Nat.le_refl _), Nat.sub_self]; rfl
theorem fault_in_ok (hz : R.sz ≤ 100000) : B Γ d_fault_in [.val (encR R)] = .ret (.val (encFa (faultR R))) [] := by
 obtain ⟨cl, ft, wt⟩ := R
 unfold Rd.sz at hz
 dsimp only at hz
 have e1 : ev Γ (.cmpNil true (.loc 1)) ⟨[some (.val (encR ⟨cl, ft, wt⟩)), some (.val (.list (encL cl))), some (.val (encO ft)), some (.val (.list (encL wt)))], [], 0⟩ = .ok [bV (!(encL cl).isEmpty)] _ := ev_nil (f := .val (.list (encL cl))) rfl rfl
 have e2 : ev Γ (.cmpNil true (.loc 3)) ⟨[some (.val (encR ⟨cl, ft, wt⟩)), some (.val (.list (encL cl))), some (.val (encO ft)), some (.val (.list (encL wt)))], [], 0⟩ = .ok [bV (!(encL wt).isEmpty)] _ := ev_nil (f := .val (.list (encL wt))) rfl rfl
 cases cl with
 | cons m cl =>
  have e3 : ev Γ (.peek .idx (.loc 1) (n_1 l_0)) ⟨[some (.val (encR ⟨m :: cl, ft, wt⟩)), some (.val (.list (encL (m :: cl)))), some (.val (encO ft)), some (.val (.list (encL wt)))], [], 0⟩ = .ok [.val (encM m)] ⟨[some (.val (encR ⟨m :: cl, ft, wt⟩)), some (.val (.list (encL (m :: cl)))), some (.val (encO ft)), some (.val (.list (encL wt)))], [], 0⟩ := ev_pidx (f := .val (.list (encL (m :: cl)))) (m := 0) rfl rfl rfl (at_head (by have := encL_len cl; simp at hz ⊢; lia))
  exact run_of rfl ((ex_next rfl).trans (ex_done ((ex_then e1).trans (ex_done (ret_val (d := encFa (.no m.2.1 m.2.2)) ((ev_op (fs := [.val (.int m.2.1), .val (.int m.2.2), .val (strD [99, 108, 111, 115, 101, 115, 32, 110, 111, 116, 104, 105, 110, 103])]) (ev_ci (i := m.2.1) ((ev_op (fs := [.val (encM m), .val (.int 1)]) (ev_cons e3 rfl)).trans rfl) (ev_ci (i := m.2.2) ((ev_op (fs := [.val (encM m), .val (.int 2)]) (ev_cons e3 rfl)).trans rfl) rfl))).trans rfl))))))
 | nil =>
  cases ft with
  | some m => exact run_of rfl ((ex_next rfl).trans ((ex_skip e1).trans (ex_done ((ex_then (ev_cmp (u := encM m) (v := .none) rfl rfl)).trans (ex_done (ret_val rfl))))))
  | none =>
   cases hw : wt.getLast? with
   | none =>
    cases List.getLast?_eq_none_iff.mp hw
    exact run_of rfl ((ex_next rfl).trans ((ex_skip e1).trans ((ex_skip rfl).trans ((ex_skip e2).trans (ex_done (ret_val rfl))))))
   | some m =>
    obtain ⟨ws, rfl⟩ := List.getLast?_eq_some_iff.mp hw
    have he : encL (ws ++ [m]) = encL ws ++ [encM m] := by unfold encL; rw [List.map_append]; rfl
    have hf : faultR ⟨[], none, ws ++ [m]⟩ = .lft m.2.1 m.2.2 := by unfold faultR; dsimp only; rw [hw]
    rw [hf]
    have e3 : ev Γ (.peek .idx (.loc 3) (n_1 (.op .neg (n_1 l_1)))) ⟨[some (.val (encR ⟨[], none, ws ++ [m]⟩)), some (.val (.list (encL []))), some (.val (encO none)), some (.val (.list (encL (ws ++ [m]))))], [], 0⟩ = .ok [.val (encM m)] ⟨[some (.val (encR ⟨[], none, ws ++ [m]⟩)), some (.val (.list (encL []))), some (.val (encO none)), some (.val (.list (encL (ws ++ [m]))))], [], 0⟩ := ev_pidx (f := .val (.list (encL (ws ++ [m])))) (m := -1) rfl rfl rfl (by rw [he]; exact at_last (by rw [encL_len]; simp at hz; lia))
    have e4 : (!(encL (ws ++ [m])).isEmpty) = true := by rw [he]; cases encL ws <;> rfl
    rw [e4] at e2
    exact run_of rfl ((ex_next rfl).trans ((ex_skip e1).trans ((ex_skip rfl).trans (ex_done ((ex_then e2).trans (ex_done (ret_val (d := encFa (.lft m.2.1 m.2.2)) ((ev_op (fs := [.val (.int m.2.1), .val (.int m.2.2), .val (strD [108, 101, 102, 116, 32, 111, 112, 101, 110])]) (ev_ci (i := m.2.1) ((ev_op (fs := [.val (encM m), .val (.int 1)]) (ev_cons e3 rfl)).trans rfl) (ev_ci (i := m.2.2) ((ev_op (fs := [.val (encM m), .val (.int 2)]) (ev_cons e3 rfl)).trans rfl) rfl))).trans rfl))))))))
noncomputable def Sp10 (Γ : Nat → Fn) : Prop := ∀ R : Rd, R.sz ≤ 100000 → Γ 10 [] [.val (encR R)] = .ret (.val (encFa (faultR R))) []
noncomputable def encP (l : List Nat) : PyData := .list ((toks l).map encT)
noncomputable def marksAll : Nat → LL → List Mk
 | _, [] => []
 | n, l :: ls => (marksFrom 0 l).map (low n) ++ marksAll (n + 1) ls
theorem marksAll_n {n : Nat} : marksAll n [] = [] := rfl
theorem marksAll_c {n : Nat} {l : List Nat} {ls : LL} : marksAll n (l :: ls) = (marksFrom 0 l).map (low n) ++ marksAll (n + 1) ls := rfl
theorem marksFrom_len : ∀ (l : List Nat) (i : Nat), (marksFrom i l).length ≤ l.length
 | [], _ => Nat.le_refl _
 | c :: l, i => by
  rw [marksFrom_c]
  have := marksFrom_len l (i + 1)
  split <;> simp <;> lia
theorem marksAll_len : ∀ (rows : LL) (n : Nat), okLines rows → (marksAll n rows).length ≤ 120 * rows.length
 | [], _, _ => Nat.le_refl _
 | l :: rows, n, h => by
  rw [marksAll_c, lap, lmp, List.length_cons]
  have := marksAll_len rows (n + 1) fun k hk => h k (.tail _ hk)
  have := nlt (marksFrom_len l 0) (okLine_len (h l (.head _)))
  lia
noncomputable def rd (rows : LL) : Rd := run .nil (marksAll 0 rows)
theorem row_read (h8 : Sp8 Γ) {l : List Nat} (hl : okLine l = true) : Γ 8 [] [.val (encP l)] = .ret (.val (encR (run .nil (marksFrom 0 l)))) [] := by
 have := h8 (toks l) (toks_good l) (by have := toks_len l; have := okLine_len hl; lia)
 rwa [marks_toks] at this
theorem rd_sz (h : OkText rows) : (rd rows).sz ≤ 8000 := by
 have h1 := run_sz .nil (marksAll 0 rows)
 have h2 := marksAll_len rows 0 h.rows
 have h3 := h.most
 have h4 : (Rd.nil).sz = 0 := rfl
 unfold rd; lia
end
end Mine.Internal.S
end
section
namespace Mine.Internal
section
variable {st : St} {a b n : Int} {l r : List Nat}
theorem op_mul (h : small a = true ∨ small b = true) : opE (.bin .Mult) [.val (.int a), .val (.int b)] st = .ok [.val (.int (a * b))] st := by
 show oneO (binF .Mult (.int a) (.int b)) st = _
 have e : op2 asI (.int a) (.int b) (fun a b => gd (small a || small b) (F.val (.int (a * b)))) = some (.val (.int (a * b))) := by
  show gd (small a || small b) _ = _
  rw [show (small a || small b) = true from Bool.or_eq_true_iff.mpr h]; rfl
 unfold binF
 dsimp only
 rw [e]; rfl
theorem op_cat (h : l.length + r.length ≤ 200000) : opE (.bin .Add) [.val (.str (S l)), .val (.str (S r))] st = .ok [.val (.str (S (l ++ r)))] st := by
 show oneO (((none : Option F).or (gd (okLen (l.length + r.length)) (.val (.str (S (l ++ r)))))).or ((none : Option F).or none)) st = _
 rw [okLen_of h]; rfl
theorem at_of {α : Type} {l : List α} (hz : l.length ≤ 200000) (h0 : 0 ≤ n) (h1 : n < l.length) : atL l n = l[n.toNat]? := by
 unfold atL lenL
 rw [okLen_of hz, show gd true l.length = some l.length from rfl, Option.bind_some]
 have : at? l.length n = some n.toNat := by
  unfold at? seqIndex?
  have : ¬ n < 0 := by lia
  simp [this, h0, h1]
 rw [this, Option.bind_some]
theorem op_sidx (hz : l.length ≤ 200000) (h0 : 0 ≤ n) (h1 : n < l.length) : opE .idx [.val (.str (S l)), .val (.int n)] st = .ok [.val (sgn (l[n.toNat]?.getD 32))] st := by
 show oneO (((((atL l n).map sgn).or none).or none).map .val) st = _
 rw [at_of hz h0 h1]
 have : n.toNat < l.length := by lia
 rw [geg this]; rfl
end
end Mine.Internal
namespace Mine.Internal.S
theorem fmod_lo (a : Int) {b : Int} (hb : 0 < b) : 0 ≤ a.fmod b := Int.fmod_nonneg_of_pos a hb
theorem fmod_hi (a : Int) {b : Int} (hb : 0 < b) : a.fmod b < b := Int.fmod_lt_of_pos a hb
noncomputable def signs : List Nat := [32, 33, 34, 35, 36, 38, 39, 40, 41, 42, 43, 44, 45, 46, 47, 48, 49, 50, 51, 52, 53, 54, 55, 56, 57, 58, 59, 60, 61, 62, 63, 64, 65, 66, 67, 68, 69, 70, 71, 72, 73, 74, 75, 76, 77, 78, 79, 80, 81, 82, 83, 84, 85, 86, 87, 88, 89, 90, 91, 92, 93, 94, 95, 96, 97, 98, 99, 100, 101, 102, 103, 104, 105, 106, 107, 108, 109, 110, 111, 112, 113, 114, 115, 116, 117, 118, 119, 120, 121, 122, 123, 124, 125, 126]
noncomputable def anyS (c : Int) : Nat := (signs[(c.fmod 94).toNat]?).getD 32
theorem signs_ok : ∀ c ∈ signs, isSign c = true := by decide +kernel
theorem anyS_ok (c : Int) : isSign (anyS c) = true := by
 unfold anyS
 cases e : signs[(c.fmod 94).toNat]? with
 | none => rfl
 | some d => exact signs_ok d (mog e)
noncomputable def nl (l : List Nat) : Nat := (l.filter (· == 10)).length
noncomputable def nn (l : List Nat) : Nat := (l.filter (· != 10)).length
theorem nl_append (a b : List Nat) : nl (a ++ b) = nl a + nl b := by simp [nl]
theorem nn_append (a b : List Nat) : nn (a ++ b) = nn a + nn b := by simp [nn]
noncomputable def goodC (c : Nat) : Prop := isSign c = true ∨ c = 10
theorem sign_ne {c : Nat} (h : isSign c = true) : c ≠ 10 := fun e => by subst e; cases h
theorem nl_sign {c : Nat} (h : isSign c = true) : nl [c] = 0 := by have := sign_ne h; simp [nl, this]
theorem nn_sign {c : Nat} (h : isSign c = true) : nn [c] = 1 := by have := sign_ne h; simp [nn, this]
theorem nl_ten : nl [10] = 1 := rfl
theorem nn_ten : nn [10] = 0 := rfl
theorem nl_signs : ∀ {l : List Nat}, (∀ c ∈ l, isSign c = true) → nl l = 0
 | [], _ => rfl
 | c :: l, h => by
  have : nl (c :: l) = nl [c] + nl l := nl_append [c] l
  rw [this, nl_sign (h c (.head _)), nl_signs fun d hd => h d (.tail _ hd)]
theorem nn_le (l : List Nat) : nn l ≤ l.length := List.length_filter_le _ _
structure Inv (pt : Bool) (i : Nat) (sg op : List Nat) : Prop where
 hsg : ∀ c ∈ sg, goodC c
 hop : ∀ c ∈ op, isSign c = true
 hnl : nl sg ≤ if pt then i / 2 else i
 hnn : nn sg + op.length ≤ if pt then 2 * ((i + 1) / 2) else 2 * i
theorem Inv.line {pt : Bool} {i : Nat} {sg op : List Nat} (h : Inv pt i sg op) (hi : pt = true → i % 2 = 1) : Inv pt (i + 1) (sg ++ [10]) op := by
 refine ⟨fun c hc => ?_, h.hop, ?_, ?_⟩
 · rcases List.mem_append.mp hc with hc | hc
   · exact h.hsg c hc
   · rw [lsm hc]; exact .inr rfl
 · have := h.hnl
   rw [nl_append, nl_ten]
   cases pt with
   | false => simp at this ⊢; lia
   | true => have := hi rfl; simp at *; lia
 · have := h.hnn
   rw [nn_append, nn_ten]
   cases pt with
   | false => simp at this ⊢; lia
   | true => simp at *; lia
theorem Inv.sign {pt : Bool} {i x : Nat} {sg op op' : List Nat} (h : Inv pt i sg op) (hx : isSign x = true) (hi : pt = true → i % 2 = 0) (ho : ∀ c ∈ op', isSign c = true) (hl : op'.length ≤ op.length + 1) : Inv pt (i + 1) (sg ++ [x]) op' := by
 refine ⟨fun c hc => ?_, ho, ?_, ?_⟩
 · rcases List.mem_append.mp hc with hc | hc
   · exact h.hsg c hc
   · rw [lsm hc]; exact .inl hx
 · have := h.hnl
   rw [nl_append, nl_sign hx]
   cases pt with
   | false => simp at this ⊢; lia
   | true => have := hi rfl; simp at *; lia
 · have := h.hnn
   rw [nn_append, nn_sign hx]
   cases pt with
   | false => simp at this ⊢; lia
   | true => have := hi rfl; simp at *; lia
theorem sgn2 {l : List Nat} (h : ∀ c ∈ l, isSign c = true) (n : Nat) : isSign (l[n]?.getD 32) = true := by
 cases e : l[n]? with
 | none => rfl
 | some d => exact h d (mog e)
section
variable {Γ : Nat → Fn} {xs : List Int} {j : Nat}
noncomputable abbrev lS (xs : List Int) : PyData := .list (xs.map .int)
theorem cell_ok (h : xs.length ≤ 63) : B Γ d_law_cell_at [.val (lS xs), .val (.int j)] = .ret (.val (.int (xs.getD j 0))) [] := by
 have hl : ev Γ (.op .len (n_1 q_0)) ⟨[some (.val (lS xs)), some (.val (.int j))], [], 0⟩ = .ok [.val (.int xs.length)] ⟨[some (.val (lS xs)), some (.val (.int j))], [], 0⟩ := (ev_op (fs := [.val (lS xs)]) (ev_cons (f := .val (lS xs)) rfl rfl)).trans (by
  show oneO ((((none : Option Nat).or (lenL (xs.map PyData.int))).or none).map intV) _ = _
  unfold lenL
  rw [lmp, okLen_of (by lia)]; rfl)
 have hc := ev_cmp (op := .Lt) (ev_cons (a := .get (.loc 1)) (st := ⟨[some (.val (lS xs)), some (.val (.int j))], [], 0⟩) (f := .val (.int j)) rfl (ev_cons (b := .nil) hl rfl)) rfl
 by_cases q : j < xs.length
 · rw [show decide ((j : Int) < xs.length) = true from dtt (by lia)] at hc
   have hi : ev Γ (.op .idx (n_2 q_0 q_1)) ⟨[some (.val (lS xs)), some (.val (.int j))], [], 0⟩ = .ok [.val (.int (xs.getD j 0))] ⟨[some (.val (lS xs)), some (.val (.int j))], [], 0⟩ := (ev_op (fs := [.val (lS xs), .val (.int j)]) (ev_cons (f := .val (lS xs)) rfl (ev_ci (i := j) rfl rfl))).trans (by
    show oneO ((((none : Option PyData).or (atL (xs.map PyData.int) j)).or none).map .val) _ = _
    rw [at_of (by rw [lmp]; lia) (by lia) (by rw [lmp]; lia), Int.toNat_natCast, List.getElem?_map, geg q, List.getD_eq_getElem?_getD, geg q]; rfl)
   exact run_of rfl (ex_done ((ex_then hc).trans (ex_done (ret_val hi))))
 · rw [show decide ((j : Int) < xs.length) = false from dff (by lia)] at hc
   rw [show xs.getD j 0 = 0 by rw [List.getD_eq_getElem?_getD, List.getElem?_eq_none (Nat.le_of_not_lt q)]; rfl]
   exact run_of rfl ((ex_skip hc).trans (ex_done (ret_val rfl)))
noncomputable def Sp30 (Γ : Nat → Fn) : Prop := ∀ xs : List Int, xs.length ≤ 63 → ∀ j : Nat, Γ 30 [] [.val (lS xs), .val (.int j)] = .ret (.val (.int (xs.getD j 0))) []
theorem any_sign_ok {c : Int} : B Γ d_law_any_sign [.val (.int c)] = .ret (.val (sgn (anyS c))) [] :=
 run_of rfl ((ex_next rfl).trans ((ex_next rfl).trans (ex_done (ret_val ((ev_op (fs := [.val (strD signs), .val (.int (c.fmod 94))]) rfl).trans (op_sidx (l := signs) (by decide) (fmod_lo _ (by decide)) (fmod_hi _ (by decide))))))))
noncomputable def Sp31 (Γ : Nat → Fn) : Prop := ∀ c : Int, Γ 31 [] [.val (.int c)] = .ret (.val (sgn (anyS c))) []
end
section
variable {Γ : Nat → Fn} {c sz : Option F} {pt : Bool} {i : Nat} {sg op : List Nat} {N W : Int} {x8 : Option F}
noncomputable abbrev tS (c sz : Option F) (pt : Bool) (sg op : List Nat) (N : Int) (i : Nat) (W : Int) (x8 : Option F) : St := ⟨[c, sz, some (.val (.bool pt)), some (.val (strD sg)), some (.val (strD op)), some (.val (.int N)), some (.val (.int i)), some (.val (.int W)), x8], [], 0⟩
noncomputable def pick (l : List Nat) (N : Int) : Nat := l[((N.fdiv 63).fmod l.length).toNat]?.getD 32
theorem pick_ok {l : List Nat} {n : Int} (hn : n = l.length) (h0 : 0 < l.length) (hz : l.length ≤ 1000) (hnn : (n != 0) = true) : ev Γ (.op .idx (n_2 (.lit (.str (S l))) (bM (bF q_5 l_63) (.lit (.int n))))) (tS c sz pt sg op N i W x8) = .ok [.val (sgn (pick l N))] (tS c sz pt sg op N i W x8) := by
 have e1 : ev Γ (bM (bF q_5 l_63) (.lit (.int n))) (tS c sz pt sg op N i W x8) = .ok [.val (.int ((N.fdiv 63).fmod n))] (tS c sz pt sg op N i W x8) := by
  refine (ev_op (fs := [.val (.int (N.fdiv 63)), .val (.int n)]) rfl).trans ?_
  show oneO (gd (n != 0) (.val (.int ((N.fdiv 63).fmod n)))) _ = _
  rw [hnn]; rfl
 refine (ev_op (fs := [.val (strD l), .val (.int ((N.fdiv 63).fmod n))]) (ev_cs (l := l) rfl (ev_cons e1 rfl))).trans ?_
 subst hn
 exact op_sidx (by lia) (fmod_lo _ (by lia)) (fmod_hi _ (by lia))
theorem s4_ok (h31 : Sp31 Γ) (hz : sg.length ≤ 1000) : ∃ x x8', isSign x = true ∧ ex Γ s4 (tS c sz pt sg op N i W x8) = .ok .next (tS c sz pt (sg ++ [x]) op N i W x8') := by
 have hc : ev Γ (.cmp .Eq (n_2 q_7 l_7)) (tS c sz pt sg op N i W x8) = .ok [bV (W == 7)] (tS c sz pt sg op N i W x8) := rfl
 cases h7 : W == 7 with
 | true =>
  rw [h7] at hc
  have e1 : ex Γ (.assign (.loc 8) (.call true 31 (n_1 (bF q_5 l_63)))) (tS c sz pt sg op N i W x8) = .ok .next (tS c sz pt sg op N i W (some (.val (sgn (anyS (N.fdiv 63)))))) := (ex_assign (ev_fn (fs := [.val (.int (N.fdiv 63))]) rfl rfl (h31 _))).trans rfl
  have e2 : ev Γ (.cmp .NotIn (n_2 q_8 (.lit (.str (S [40, 41, 91, 93, 123, 125]))))) (tS c sz pt sg op N i W (some (.val (sgn (anyS (N.fdiv 63)))))) = .ok [bV (!decide (anyS (N.fdiv 63) ∈ [40, 41, 91, 93, 123, 125]))] (tS c sz pt sg op N i W (some (.val (sgn (anyS (N.fdiv 63)))))) := (ev_cmp (op := .NotIn) (u := sgn (anyS (N.fdiv 63))) (v := strD [40, 41, 91, 93, 123, 125]) rfl rfl).trans (by rw [in_one])
  have key : ∀ {q : Bool} {x : Nat}, (!decide (anyS (N.fdiv 63) ∈ [40, 41, 91, 93, 123, 125])) = q → (∀ st : St, opE .idx [.val (.list [strD [97], sgn (anyS (N.fdiv 63))]), .val (.int (if q then 1 else 0))] st = .ok [.val (sgn x)] st) → ex Γ s4 (tS c sz pt sg op N i W x8) = .ok .next (tS c sz pt (sg ++ [x]) op N i W (some (.val (sgn (anyS (N.fdiv 63)))))) := fun {q x} hq hi => by
   rw [hq] at e2
   have e3 := ev_op (o := .toInt) (ev_cons (b := .nil) e2 rfl)
   exact (ex_then hc).trans ((ex_next e1).trans ((ex_next ((ex_assign ((ev_op (fs := [.val (strD sg), .val (sgn x)]) (ev_cs (l := sg) rfl (ev_cons (f := .val (sgn x)) ((ev_op (fs := [.val (.list [strD [97], sgn (anyS (N.fdiv 63))]), .val (.int (if q then 1 else 0))]) (ev_cons (f := .own [strD [97], sgn (anyS (N.fdiv 63))]) rfl (ev_cons (b := .nil) e3 rfl))).trans (hi _)) rfl))).trans (op_cat (by simp; lia)))).trans rfl)).trans rfl))
  cases hq : (!decide (anyS (N.fdiv 63) ∈ [40, 41, 91, 93, 123, 125])) with
  | true => exact ⟨_, _, anyS_ok (N.fdiv 63), key hq fun _ => rfl⟩
  | false => exact ⟨97, _, rfl, key hq fun _ => rfl⟩
 | false =>
  rw [h7] at hc
  refine ⟨pick [32, 120] N, x8, sgn2 (by decide) _, (ex_else hc).trans ((ex_next ((ex_assign ((ev_op (fs := [.val (strD sg), .val (sgn (pick [32, 120] N))]) (ev_cs (l := sg) rfl (ev_cons (pick_ok rfl (by decide) (by decide) rfl) rfl))).trans (op_cat (by simp; lia)))).trans rfl)).trans rfl)⟩
theorem s3_ok (h31 : Sp31 Γ) (hz : sg.length ≤ 1000) (hz2 : op.length ≤ 1000) (hop : ∀ c ∈ op, isSign c = true) : ∃ x op' x8', isSign x = true ∧ op'.length ≤ op.length ∧ (∀ c ∈ op', isSign c = true) ∧ ex Γ s3 (tS c sz pt sg op N i W x8) = .ok .next (tS c sz pt (sg ++ [x]) op' N i W x8') := by
 have hc : ev Γ (.and (.cmp .Lt (n_2 q_7 l_5)) (.cmp .NotEq (n_2 q_4 (.lit (.str (S [])))))) (tS c sz pt sg op N i W x8) = .ok [bV (decide (W < 5) && !(op == []))] _ := ev_and (ev_cmp (op := .Lt) (u := .int W) (v := .int 5) rfl rfl) fun _ => ev_cmp (op := .NotEq) (u := strD op) (v := strD []) rfl rfl
 cases hb : (decide (W < 5) && !(op == [])) with
 | false =>
  rw [hb] at hc
  obtain ⟨x, x8', hx, h4⟩ := s4_ok (c := c) (sz := sz) (pt := pt) (i := i) (op := op) (N := N) (W := W) (x8 := x8) h31 hz
  exact ⟨x, op, x8', hx, Nat.le_refl _, hop, (ex_else hc).trans ((ex_next h4).trans rfl)⟩
 | true =>
  rw [hb] at hc
  cases op with
  | nil => cases (and2 hb).2
  | cons d op =>
   have z : op.length + 1 ≤ 1000 := hz2
   have e5 : ex Γ (.assign (.loc 3) (bA q_3 (.op .idx (n_2 q_4 l_0)))) (tS c sz pt sg (d :: op) N i W x8) = .ok .next (tS c sz pt (sg ++ [d]) (d :: op) N i W x8) := (ex_assign ((ev_op (fs := [.val (strD sg), .val (sgn d)]) (ev_cs (l := sg) rfl (ev_cons (f := .val (sgn d)) ((ev_op (fs := [.val (strD (d :: op)), .val (.int 0)]) rfl).trans (op_sidx (l := d :: op) (n := 0) (by simp; lia) (by decide) (by simp))) rfl))).trans (op_cat (by simp; lia)))).trans rfl
   have e6 : opE (.slc true false) [.val (strD (d :: op)), .val (.int 1)] (tS c sz pt (sg ++ [d]) (d :: op) N i W x8) = .ok [.val (strD op)] (tS c sz pt (sg ++ [d]) (d :: op) N i W x8) := by
    show oneO (((cutL (d :: op) (some (.int 1)) none).map fun l => F.val (.str (S l))).or none) _ = _
    unfold cutL lenL
    rw [okLen_of (by simp; lia), show gd true (d :: op).length = some (d :: op).length from rfl, Option.bind_some, show (bnd (some (.int 1)) 0) = some 1 from bnd_ok (b := 1) (by decide), Option.bind_some]
    show oneO ((some (F.val (.str (S (((d :: op).take (d :: op).length).drop 1))))).or none) _ = _
    rw [List.take_length]; rfl
   exact ⟨d, op, x8, hop d (.head _), Nat.le_succ _, fun k hk => hop k (.tail _ hk), (ex_then hc).trans ((ex_next e5).trans ((ex_next ((ex_assign ((ev_op (fs := [.val (strD (d :: op)), .val (.int 1)]) rfl).trans e6)).trans rfl)).trans rfl))⟩
end
end Mine.Internal.S
end
section
namespace Mine.Internal.S
section
variable {Γ : Nat → Fn} {c sz : Option F} {pt : Bool} {i : Nat} {sg op : List Nat} {N W : Int} {x8 : Option F}
theorem s2_ok (h31 : Sp31 Γ) (hz : sg.length ≤ 1000) (hz2 : op.length ≤ 1000) (hop : ∀ c ∈ op, isSign c = true) : ∃ x op' x8', isSign x = true ∧ op'.length ≤ op.length + 1 ∧ (∀ c ∈ op', isSign c = true) ∧ ex Γ s2 (tS c sz pt sg op N i W x8) = .ok .next (tS c sz pt (sg ++ [x]) op' N i W x8') := by
 have hc : ev Γ (.cmp .Lt (n_2 q_7 l_2)) (tS c sz pt sg op N i W x8) = .ok [bV (decide (W < 2))] (tS c sz pt sg op N i W x8) := rfl
 cases hb : decide (W < 2) with
 | false =>
  rw [hb] at hc
  obtain ⟨x, op', x8', hx, hl, ho, h3⟩ := s3_ok (c := c) (sz := sz) (pt := pt) (i := i) (N := N) (W := W) (x8 := x8) h31 hz hz2 hop
  exact ⟨x, op', x8', hx, by lia, ho, (ex_else hc).trans ((ex_next h3).trans rfl)⟩
 | true =>
  rw [hb] at hc
  have e5 : ex Γ (.assign (.loc 4) (bA (.op .idx (n_2 (.lit (.str (S [41, 93, 125]))) (bM (bF q_5 l_63) l_3))) q_4)) (tS c sz pt sg op N i W x8) = .ok .next (tS c sz pt sg (pick [41, 93, 125] N :: op) N i W x8) := (ex_assign ((ev_op (fs := [.val (sgn (pick [41, 93, 125] N)), .val (strD op)]) (ev_cons (f := .val (sgn (pick [41, 93, 125] N))) (pick_ok rfl (by decide) (by decide) rfl) rfl)).trans (op_cat (l := [pick [41, 93, 125] N]) (by simp; lia)))).trans rfl
  have e6 : ex Γ (.assign (.loc 3) (bA q_3 (.op .idx (n_2 (.lit (.str (S [40, 91, 123]))) (bM (bF q_5 l_63) l_3))))) (tS c sz pt sg (pick [41, 93, 125] N :: op) N i W x8) = .ok .next (tS c sz pt (sg ++ [pick [40, 91, 123] N]) (pick [41, 93, 125] N :: op) N i W x8) := (ex_assign ((ev_op (fs := [.val (strD sg), .val (sgn (pick [40, 91, 123] N))]) (ev_cs (l := sg) rfl (ev_cons (pick_ok rfl (by decide) (by decide) rfl) rfl))).trans (op_cat (by simp; lia)))).trans rfl
  refine ⟨pick [40, 91, 123] N, pick [41, 93, 125] N :: op, x8, sgn2 (by decide) _, Nat.le_refl _, fun k hk => ?_, (ex_then hc).trans ((ex_next e5).trans ((ex_next e6).trans rfl))⟩
  rcases List.mem_cons.mp hk with rfl | hk
  · exact sgn2 (by decide) _
  · exact hop k hk
theorem s1_ok (h31 : Sp31 Γ) (hz : sg.length ≤ 1000) (hz2 : op.length ≤ 1000) (hI : Inv pt i sg op) : ∃ sg' op' x8', Inv pt (i + 1) sg' op' ∧ ex Γ s1 (tS c sz pt sg op N i W x8) = .ok .next (tS c sz pt sg' op' N i W x8') := by
 have hc : ev Γ (.or (.and q_2 (.cmp .Eq (n_2 (bM q_6 l_2) l_1))) (.and (.cmp .Eq (n_2 q_7 l_6)) (.not q_2))) (tS c sz pt sg op N i W x8) = .ok [bV ((pt && ((i : Int).fmod 2 == 1)) || ((W == 6) && !pt))] (tS c sz pt sg op N i W x8) :=
  ev_or (ev_and (x := pt) rfl fun _ => rfl) fun _ => ev_and (x := W == 6) rfl fun _ => rfl
 have hm : ((i : Int).fmod 2) = ((i % 2 : Nat) : Int) := by rw [Int.fmod_eq_emod_of_nonneg _ (by lia)]; lia
 cases hb : (pt && ((i : Int).fmod 2 == 1)) || ((W == 6) && !pt) with
 | true =>
  rw [hb] at hc
  refine ⟨sg ++ [10], op, x8, hI.line fun hp => ?_, (ex_then hc).trans ((ex_next ((ex_assign ((ev_op (fs := [.val (strD sg), .val (strD [10])]) rfl).trans (op_cat (by simp; lia)))).trans rfl)).trans rfl)⟩
  rw [hp, hm] at hb
  have : ((i % 2 : Nat) : Int) = 1 := by simpa using hb
  lia
 | false =>
  rw [hb] at hc
  obtain ⟨x, op', x8', hx, hl, ho, h2⟩ := s2_ok (c := c) (sz := sz) (pt := pt) (i := i) (N := N) (W := W) (x8 := x8) h31 hz hz2 hI.hop
  refine ⟨sg ++ [x], op', x8', hI.sign hx (fun hp => ?_) ho hl, (ex_else hc).trans ((ex_next h2).trans rfl)⟩
  rw [hp, hm] at hb
  have : ¬ ((i % 2 : Nat) : Int) = 1 := by simpa using hb
  lia
theorem turn_ok (h31 : Sp31 Γ) (hz : sg.length ≤ 1000) (hz2 : op.length ≤ 1000) (hI : Inv pt i sg op) {x6 x7 : Option F} : ∃ sg' op' N' x7' x8', Inv pt (i + 1) sg' op' ∧
  stepB Γ false [6] sB (.int i) ⟨[c, sz, some (.val (.bool pt)), some (.val (strD sg)), some (.val (strD op)), some (.val (.int N)), x6, x7, x8], [], 0⟩ = .ok .next ⟨[c, sz, some (.val (.bool pt)), some (.val (strD sg')), some (.val (strD op')), some (.val (.int N')), some (.val (.int i)), x7', x8'], [], 0⟩ := by
 obtain ⟨sg', op', x8', hI', h1⟩ := s1_ok (Γ := Γ) (c := c) (sz := sz) (N := ((N * 48271 + 11 * i + 7).fmod 2147483647)) (W := (((N * 48271 + 11 * i + 7).fmod 2147483647).fdiv 7).fmod 9) (x8 := x8) h31 hz hz2 hI
 refine ⟨sg', op', (N * 48271 + 11 * i + 7).fmod 2147483647, some (.val (.int ((((N * 48271 + 11 * i + 7).fmod 2147483647).fdiv 7).fmod 9))), x8', hI', ?_⟩
 exact (step_of rfl).trans ((ex_next ((ex_assign ((ev_op (fs := [.val (.int (N * 48271 + 11 * i + 7)), .val (.int 2147483647)]) (ev_ci (i := (N * 48271 + 11 * i + 7)) ((ev_op (fs := [.val (.int (N * 48271 + 11 * i)), .val (.int 7)]) (ev_ci (i := (N * 48271 + 11 * i)) ((ev_op (fs := [.val (.int (N * 48271)), .val (.int (11 * i))]) (ev_ci (i := (N * 48271)) ((ev_op (fs := [.val (.int N), .val (.int 48271)]) rfl).trans (op_mul (.inr (by decide)))) rfl)).trans rfl) rfl)).trans rfl) rfl)).trans rfl)).trans rfl)).trans ((ex_next rfl).trans ((ex_next h1).trans rfl)))
end
theorem len_split' : ∀ l : List Nat, l.length = nl l + nn l
 | [] => rfl
 | c :: l => by
  have ih := len_split' l
  unfold nl nn at ih ⊢
  rw [List.length_cons, ih, List.filter_cons, List.filter_cons]
  cases hc : c == 10
  · rw [show (c != 10) = true by unfold bne; rw [hc]; rfl]; exact Nat.add_assoc ..
  · rw [show (c != 10) = false by unfold bne; rw [hc]; rfl]; exact Nat.add_right_comm ..
theorem inv_a {pt : Bool} {i : Nat} : (if pt then i / 2 else i) ≤ i := by cases pt with | false => exact Nat.le_refl _ | true => exact Nat.div_le_self ..
theorem inv_b {pt : Bool} {i : Nat} : (if pt then 2 * ((i + 1) / 2) else 2 * i) ≤ 2 * i + 2 := by cases pt with | false => exact Nat.le_add_right .. | true => exact nlt (Nat.mul_div_le ..) (by lia)
theorem inv_len {pt : Bool} {i : Nat} {sg op : List Nat} (h : Inv pt i sg op) : sg.length ≤ 3 * i + 2 ∧ op.length ≤ 2 * i + 2 := by
 have h1 := nlt h.hnl inv_a
 have h2 := nlt h.hnn inv_b
 exact ⟨by rw [len_split']; exact nlt (Nat.add_le_add h1 (nlt (Nat.le_add_right ..) h2)) (by lia), nlt (Nat.le_add_left ..) h2⟩
theorem len3 {a i n : Nat} (h : a ≤ 3 * i + 2) (hb : i + (n + 1) ≤ 200) : a ≤ 1000 := by lia
theorem len2 {a i n : Nat} (h : a ≤ 2 * i + 2) (hb : i + (n + 1) ≤ 200) : a ≤ 1000 := by lia
theorem stream_loop {Γ : Nat → Fn} {c sz : Option F} {pt : Bool} (h31 : Sp31 Γ) : ∀ (n i : Nat) (sg op : List Nat) (N : Int) (x6 x7 x8 : Option F), i + n ≤ 200 → Inv pt i sg op →
  ∃ sg' op' N' x6' x7' x8', Inv pt (i + n) sg' op' ∧ forL (stepB Γ false [6] sB) ((List.range' i n).map fun (k : Nat) => PyData.int k) ⟨[c, sz, some (.val (.bool pt)), some (.val (strD sg)), some (.val (strD op)), some (.val (.int N)), x6, x7, x8], [], 0⟩ =
   .ok .next ⟨[c, sz, some (.val (.bool pt)), some (.val (strD sg')), some (.val (strD op')), some (.val (.int N')), x6', x7', x8'], [], 0⟩
 | 0, i, sg, op, N, x6, x7, x8, _, hI => ⟨sg, op, N, x6, x7, x8, hI, rfl⟩
 | n + 1, i, sg, op, N, x6, x7, x8, hb, hI => by
  obtain ⟨l1, l2⟩ := inv_len hI
  obtain ⟨sg1, op1, N1, x71, x81, hI1, e1⟩ := turn_ok (Γ := Γ) (c := c) (sz := sz) (N := N) (x8 := x8) (x6 := x6) (x7 := x7) h31 (len3 l1 hb) (len2 l2 hb) hI
  obtain ⟨sg', op', N', x6', x7', x8', hI', e2⟩ := stream_loop (Γ := Γ) (c := c) (sz := sz) h31 n (i + 1) sg1 op1 N1 (sI i) x71 x81 (by rw [Nat.add_assoc, Nat.add_comm 1]; exact hb) hI1
  refine ⟨sg', op', N', x6', x7', x8', by rw [Nat.add_comm n 1, ← Nat.add_assoc]; exact hI', ?_⟩
  rw [List.range'_succ, List.map_cons]
  exact (for_next e1).trans e2
structure OkStream (l : List Nat) (m : Nat) : Prop where
 good : ∀ c ∈ l, goodC c
 hnl : nl l ≤ 55
 hnn : nn l ≤ m
theorem len_split (l : List Nat) : l.length = nl l + nn l := by
 unfold nl nn
 induction l with
 | nil => rfl
 | cons c l ih => by_cases hc : c = 10 <;> simp [hc] <;> lia
theorem sz110 {pt : Bool} {n : Nat} (hs : if pt then n ≤ 110 else n ≤ 55) : n ≤ 110 := by cases pt with | false => exact big (show n ≤ 55 from hs) | true => exact hs
theorem nl55 {pt : Bool} {a n : Nat} (h : a ≤ if pt then n / 2 else n) (hs : if pt then n ≤ 110 else n ≤ 55) : a + 0 ≤ 55 := by
 cases pt with
 | false => exact nlt h hs
 | true => exact nlt h (Nat.div_le_of_le_mul hs)
theorem nn110 {pt : Bool} {a b c n : Nat} (h : a + b ≤ if pt then 2 * ((n + 1) / 2) else 2 * n) (hb : c ≤ b) (hs : if pt then n ≤ 110 else n ≤ 55) : a + c ≤ 110 := by
 refine nlt (Nat.add_le_add_left hb a) (nlt h ?_)
 cases pt with
 | false => exact Nat.mul_le_mul_left 2 hs
 | true => have hs : n ≤ 110 := hs; show 2 * ((n + 1) / 2) ≤ 110; lia
theorem range_s {n : Nat} (h : n ≤ 110) : rangeF 0 (n : Int) = some ((List.range' 0 n).map fun (k : Nat) => PyData.int k) := by
 unfold rangeF
 rw [show (okInt 0 && okInt (n : Int) && okLen ((n : Int) - 0).toNat) = true by
  have h2 : okLen ((n : Int) - 0).toNat = true := okLen_of (by lia)
  rw [okI (big h), h2]; rfl]
 show some _ = _
 rw [show ((n : Int) - 0).toNat = n by lia, List.range_eq_range']
 simp
theorem stream_ok {Γ : Nat → Fn} (h31 : Sp31 Γ) (cell : Int) (size : Nat) (pt : Bool) (hs : if pt then size ≤ 110 else size ≤ 55) : ∃ l, OkStream l 110 ∧ B Γ d_law_stream [.val (.int cell), .val (.int size), .val (.bool pt)] = .ret (.val (strD l)) [] := by
 have hs' : size ≤ 110 := sz110 hs
 have hI0 : Inv pt 0 [] [] := ⟨fun c hc => (nomatch hc), fun c hc => (nomatch hc), by cases pt <;> simp [nl], by cases pt <;> simp [nn]⟩
 obtain ⟨sg, op, N, x6, x7, x8, hI, hloop⟩ := stream_loop (Γ := Γ) (c := some (.val (.int cell))) (sz := some (.val (.int size))) (pt := pt) h31 size 0 [] [] cell.natAbs none none none (by rw [Nat.zero_add]; exact big hs') hI0
 rw [Nat.zero_add] at hI
 obtain ⟨l1, l2⟩ := inv_len hI
 have hops : nl op = 0 := nl_signs hI.hop
 refine ⟨sg ++ op, ⟨fun c hc => ?_, ?_, ?_⟩, ?_⟩
 · rcases List.mem_append.mp hc with hc | hc
   · exact hI.hsg c hc
   · exact .inl (hI.hop c hc)
 · rw [nl_append, hops]
   exact nl55 hI.hnl hs
 · rw [nn_append]
   exact nn110 hI.hnn (nn_le op) hs
 · have e1 := ex_loop (many := false) (is := [6]) (body := sB) (it_of (kd := 1) (e := .cons q_1 .nil) (Γ := Γ) (st := ⟨[some (.val (.int cell)), some (.val (.int size)), some (.val (.bool pt)), some (.val (strD [])), some (.val (strD [])), some (.val (.int cell.natAbs)), none, none, none], [], 0⟩) (fs := [.val (.int size)]) (xs := (List.range' 0 size).map fun (k : Nat) => PyData.int k) rfl (by
    show ((rangeF 0 (size : Int)).or _) = _
    rw [range_s hs']; rfl))
   exact run_of rfl ((ex_next rfl).trans ((ex_next rfl).trans ((ex_next rfl).trans ((ex_next (e1.trans hloop)).trans (ex_done (ret_val ((ev_op (fs := [.val (strD sg), .val (strD op)]) rfl).trans (op_cat (big (Nat.add_le_add (nlt l1 (Nat.add_le_add_right (Nat.mul_le_mul_left 3 hs') 2)) (nlt l2 (Nat.add_le_add_right (Nat.mul_le_mul_left 2 hs') 2))))))))))))
noncomputable def Sp32 (Γ : Nat → Fn) : Prop := ∀ (cell : Int) (size : Nat) (pt : Bool), (if pt then size ≤ 110 else size ≤ 55) → ∃ l, OkStream l 110 ∧ Γ 32 [] [.val (.int cell), .val (.int size), .val (.bool pt)] = .ret (.val (strD l)) []
end Mine.Internal.S
end
section
namespace Mine.Internal
section
variable {st : St} {l : List Nat} {a : Nat}
theorem op_lo (hl : l.length ≤ 100000) (ha : a ≤ 100000) : opE (.slc false true) [.val (.str (S l)), .val (.int a)] st = .ok [.val (.str (S (l.take a)))] st := by
 show oneO (((cutL l none (some (.int a))).map fun l => F.val (.str (S l))).or none) st = _
 unfold cutL lenL
 rw [okLen_of (by lia), show gd true l.length = some l.length from rfl, Option.bind_some, show bnd none 0 = some 0 from rfl, Option.bind_some, S.bnd_ok ha]; rfl
theorem op_hi (hl : l.length ≤ 100000) (ha : a ≤ 100000) : opE (.slc true false) [.val (.str (S l)), .val (.int a)] st = .ok [.val (.str (S (l.drop a)))] st := by
 show oneO (((cutL l (some (.int a)) none).map fun l => F.val (.str (S l))).or none) st = _
 unfold cutL lenL
 rw [okLen_of (by lia), show gd true l.length = some l.length from rfl, Option.bind_some, S.bnd_ok ha, Option.bind_some]
 show oneO ((some (F.val (.str (S ((l.take l.length).drop a))))).or none) st = _
 rw [List.take_length]; rfl
theorem op_len (hl : l.length ≤ 200000) : opE .len [.val (.str (S l))] st = .ok [.val (.int l.length)] st := by
 show oneO ((((lenL l).or none).or none).map intV) st = _
 unfold lenL; rw [okLen_of hl]; rfl
end
end Mine.Internal
namespace Mine.Internal.S
theorem nl_sub {a b : List Nat} (h : a.Sublist b) : nl a ≤ nl b := (h.filter _).length_le
theorem nn_sub {a b : List Nat} (h : a.Sublist b) : nn a ≤ nn b := (h.filter _).length_le
theorem OkStream.sub {a b : List Nat} {m : Nat} (h : OkStream b m) (s : a.Sublist b) : OkStream a m := ⟨fun c hc => h.good c (s.subset hc), nlt (nl_sub s) h.hnl, nlt (nn_sub s) h.hnn⟩
theorem OkStream.ins {l : List Nat} {m a x : Nat} (h : OkStream l m) (hx : isSign x = true) : OkStream (l.take a ++ [x] ++ l.drop a) (m + 1) := by
 have e1 : nl l = nl (l.take a) + nl (l.drop a) := by rw [← nl_append, List.take_append_drop]
 have e2 : nn l = nn (l.take a) + nn (l.drop a) := by rw [← nn_append, List.take_append_drop]
 refine ⟨fun c hc => ?_, ?_, ?_⟩
 · simp only [List.mem_append, List.mem_singleton] at hc
   rcases hc with (hc | hc) | hc
   · exact h.good c (List.mem_of_mem_take hc)
   · rw [hc]; exact .inl hx
   · exact h.good c (List.mem_of_mem_drop hc)
 · rw [nl_append, nl_append, nl_sign hx]; have := h.hnl; lia
 · rw [nn_append, nn_append, nn_sign hx]; have := h.hnn; lia
theorem OkStream.more {l : List Nat} {m : Nat} (h : OkStream l m) : OkStream l (m + 1) := ⟨h.good, h.hnl, Nat.le_succ_of_le h.hnn⟩
theorem cut_sub {l : List Nat} (a : Nat) : (l.take a ++ l.drop (a + 1)).Sublist l := by
 have : (l.take a ++ l.drop (a + 1)).Sublist (l.take a ++ l.drop a) := (List.Sublist.refl _).append (by rw [← List.drop_drop]; exact List.drop_sublist ..)
 rwa [List.take_append_drop] at this
theorem OkStream.len {l : List Nat} {m : Nat} (h : OkStream l m) : l.length ≤ 55 + m := by rw [len_split]; have := h.hnl; have := h.hnn; lia
theorem split_len : ∀ l : List Nat, (splitNL l).length = nl l + 1
 | [] => rfl
 | c :: r => by
  have ih := split_len r
  rw [splitNL_c]
  by_cases hc : c = 10
  · rw [if_pos hc]
    have : nl (c :: r) = nl r + 1 := by subst hc; simp [nl]
    rw [List.length_cons, ih, this]
  · rw [if_neg hc]
    have : nl (c :: r) = nl r := by simp [nl, hc]
    rw [this, ← ih]
    cases hs : splitNL r with
    | nil => rw [hs] at ih; simp at ih
    | cons h t => rfl
theorem split_row : ∀ (l : List Nat), ∀ row ∈ splitNL l, (∀ c ∈ row, c ∈ l ∧ c ≠ 10) ∧ row.length ≤ nn l
 | [] => fun row h => by simp [splitNL_n] at h; subst h; exact ⟨fun c hc => (nomatch hc), Nat.le_refl _⟩
 | c :: r => fun row h => by
  have ih := split_row r
  have hl := split_len r
  rw [splitNL_c] at h
  by_cases hc : c = 10
  · rw [if_pos hc] at h
    have hn : nn (c :: r) = nn r := by subst hc; simp [nn]
    rcases List.mem_cons.mp h with rfl | h
    · exact ⟨fun c hc => (nomatch hc), Nat.zero_le _⟩
    · obtain ⟨h1, h2⟩ := ih row h
      exact ⟨fun d hd => ⟨.tail _ (h1 d hd).1, (h1 d hd).2⟩, by rw [hn]; exact h2⟩
  · rw [if_neg hc] at h
    have hn : nn (c :: r) = nn r + 1 := by simp [nn, hc]
    cases hs : splitNL r with
    | nil => rw [hs] at hl; simp at hl
    | cons a t =>
     rw [hs] at h ih
     dsimp only at h
     rcases List.mem_cons.mp h with rfl | h
     · obtain ⟨h1, h2⟩ := ih a (.head _)
       refine ⟨fun d hd => ?_, by rw [hn, List.length_cons]; lia⟩
       rcases List.mem_cons.mp hd with rfl | hd
       · exact ⟨.head _, hc⟩
       · exact ⟨.tail _ (h1 d hd).1, (h1 d hd).2⟩
     · obtain ⟨h1, h2⟩ := ih row (.tail _ h)
       exact ⟨fun d hd => ⟨.tail _ (h1 d hd).1, (h1 d hd).2⟩, by rw [hn]; lia⟩
structure OkRows (rows : LL) (k m : Nat) : Prop where
 one : 1 ≤ rows.length
 most : rows.length ≤ k
 row : ∀ l ∈ rows, l.length ≤ m ∧ ∀ c ∈ l, isSign c = true
theorem OkStream.rows {l : List Nat} {m : Nat} (h : OkStream l m) : OkRows (splitNL l) 56 m := by
 refine ⟨by rw [split_len]; lia, by rw [split_len]; have := h.hnl; lia, fun row hr => ?_⟩
 obtain ⟨h1, h2⟩ := split_row l row hr
 refine ⟨nlt h2 h.hnn, fun c hc => ?_⟩
 rcases h.good c (h1 c hc).1 with q | q
 · exact q
 · exact absurd q (h1 c hc).2
section
variable {Γ : Nat → Fn} {xs : List Int} {W : Int} {pt : Bool} {l : List Nat} {a m : Nat}
noncomputable abbrev uS (xs : List Int) (W : Int) (pt : Bool) (l : List Nat) (a : Nat) : St := ⟨[some (.val (lS xs)), some (.val (.int W)), some (.val (.bool pt)), some (.val (strD l)), some (.val (.int a)), none, none], [], 0⟩
theorem cell_at {v : Slots} {j : Nat} (h30 : Sp30 Γ) (hx : xs.length ≤ 63) (hv : slot v 0 = some (.val (lS xs))) : ev Γ (.call true 30 (n_2 q_0 (.lit (.int j)))) ⟨v, [], 0⟩ = .ok [.val (.int (xs.getD j 0))] ⟨v, [], 0⟩ :=
 ev_fn (fs := [.val (lS xs), .val (.int j)]) (ev_cons (f := .val (lS xs)) (ev_get hv) rfl) rfl (h30 xs hx j)
theorem mod4 {n : Int} (h30 : Sp30 Γ) (hx : xs.length ≤ 63) : ev Γ (.cmp .Eq (n_2 (bM (.call true 30 (n_2 q_0 l_2)) l_4) (.lit (.int n)))) (uS xs W pt l a) = .ok [bV ((xs.getD 2 0).fmod 4 == n)] (uS xs W pt l a) :=
 ev_cmp (u := .int ((xs.getD 2 0).fmod 4)) (v := .int n) (ev_ci (i := ((xs.getD 2 0).fmod 4)) ((ev_op (fs := [.val (.int (xs.getD 2 0)), .val (.int 4)]) (ev_ci (i := (xs.getD 2 0)) (cell_at (j := 2) h30 hx rfl) rfl)).trans rfl) rfl) rfl
theorem t5_ok (h30 : Sp30 Γ) (hx : xs.length ≤ 63) (h : OkStream l m) (hm : m ≤ 120) (ha : a ≤ 10000) : ∃ l', OkStream l' (m + 1) ∧ ex Γ t5 (uS xs W pt l a) = .ok .next (uS xs W pt l' a) := by
 have hlen := h.len
 cases hb : (xs.getD 2 0).fmod 4 == 1 with
 | false => exact ⟨l, h.more, (ex_else ((mod4 h30 hx).trans (by rw [hb]))).trans rfl⟩
 | true =>
  have hL : l.length ≤ 175 := nlt hlen (Nat.add_le_add_left hm 55)
  have e1 : ev Γ (.op .idx (n_2 (.lit (.str (S [40, 91, 123, 41, 93, 125, 32, 122]))) (bM (bM (bX q_1 l_16807) l_10009) l_8))) (uS xs W pt l a) = .ok [.val (sgn (([40, 91, 123, 41, 93, 125, 32, 122][(((W * 16807).fmod 10009).fmod 8).toNat]?).getD 32))] (uS xs W pt l a) :=
   (ev_op (fs := [.val (strD [40, 91, 123, 41, 93, 125, 32, 122]), .val (.int (((W * 16807).fmod 10009).fmod 8))]) (ev_cs (l := [40, 91, 123, 41, 93, 125, 32, 122]) rfl (ev_ci (i := (((W * 16807).fmod 10009).fmod 8)) ((ev_op (fs := [.val (.int ((W * 16807).fmod 10009)), .val (.int 8)]) (ev_ci (i := ((W * 16807).fmod 10009)) ((ev_op (fs := [.val (.int (W * 16807)), .val (.int 10009)]) (ev_ci (i := (W * 16807)) ((ev_op (fs := [.val (.int W), .val (.int 16807)]) rfl).trans (op_mul (.inr (by decide)))) rfl)).trans rfl) rfl)).trans rfl) rfl))).trans (op_sidx (by decide) (fmod_lo _ (by decide)) (fmod_hi _ (by decide)))
  generalize hg : ([40, 91, 123, 41, 93, 125, 32, 122][(((W * 16807).fmod 10009).fmod 8).toNat]?).getD 32 = x at e1
  have hxs : isSign x = true := by rw [← hg]; exact sgn2 (by decide) _
  have z1 : (l.take a).length ≤ 175 := nlt (List.length_take_le' ..) hL
  have z2 : (l.drop a).length ≤ 175 := by rw [List.length_drop]; exact nlt (Nat.sub_le ..) hL
  exact ⟨_, h.ins (a := a) hxs, (ex_then ((mod4 h30 hx).trans (by rw [hb]))).trans ((ex_next ((ex_assign ((ev_op (fs := [.val (strD (l.take a ++ [x])), .val (strD (l.drop a))]) (ev_cs (l := (l.take a ++ [x])) ((ev_op (fs := [.val (strD (l.take a)), .val (sgn x)]) (ev_cs (l := (l.take a)) ((ev_op (fs := [.val (strD l), .val (.int a)]) rfl).trans (op_lo (big hL) (big ha))) (ev_cons e1 rfl))).trans (op_cat (r := [x]) (big (Nat.add_le_add_right z1 1)))) (ev_cs (l := (l.drop a)) ((ev_op (fs := [.val (strD l), .val (.int a)]) rfl).trans (op_hi (big hL) (big ha))) rfl))).trans (op_cat (by rw [lap]; exact big (Nat.add_le_add (Nat.add_le_add_right z1 1) z2))))).trans rfl)).trans rfl)⟩
theorem t6_ok (h30 : Sp30 Γ) (hx : xs.length ≤ 63) (h : OkStream l m) (hm : m ≤ 120) (ha : a ≤ 10000) : ∃ l', OkStream l' m ∧ ex Γ t6 (uS xs W pt l a) = .ok .next (uS xs W pt l' a) := by
 have hlen := h.len
 cases hb : (xs.getD 2 0).fmod 4 == 2 with
 | false => exact ⟨l, h, (ex_else ((mod4 h30 hx).trans (by rw [hb]))).trans rfl⟩
 | true =>
  have hL : l.length ≤ 175 := nlt hlen (Nat.add_le_add_left hm 55)
  have z1 : (l.take a).length ≤ 175 := nlt (List.length_take_le' ..) hL
  have z2 : (l.drop (a + 1)).length ≤ 175 := by rw [List.length_drop]; exact nlt (Nat.sub_le ..) hL
  exact ⟨l.take a ++ l.drop (a + 1), h.sub (cut_sub a), (ex_then ((mod4 h30 hx).trans (by rw [hb]))).trans ((ex_next ((ex_assign ((ev_op (fs := [.val (strD (l.take a)), .val (strD (l.drop (a + 1)))]) (ev_cs (l := (l.take a)) ((ev_op (fs := [.val (strD l), .val (.int a)]) rfl).trans (op_lo (big hL) (big ha))) (ev_cs (l := (l.drop (a + 1))) ((ev_op (fs := [.val (strD l), .val (.int (a + 1 : Nat))]) rfl).trans (op_hi (big hL) (big (Nat.succ_le_succ ha)))) rfl))).trans (op_cat (big (Nat.add_le_add z1 z2))))).trans rfl)).trans rfl)⟩
theorem t7_ok (h30 : Sp30 Γ) (hx : xs.length ≤ 63) (h : OkStream l m) (hm : m ≤ 120) (ha : a ≤ 10000) : ∃ l', OkStream l' m ∧ ex Γ t7 (uS xs W pt l a) = .ok .next (uS xs W pt l' a) := by
 have hlen := h.len
 cases hb : (xs.getD 2 0).fmod 4 == 3 with
 | false => exact ⟨l, h, (ex_else ((mod4 h30 hx).trans (by rw [hb]))).trans rfl⟩
 | true => exact ⟨l.take a, h.sub (List.take_sublist ..), (ex_then ((mod4 h30 hx).trans (by rw [hb]))).trans ((ex_next ((ex_assign ((ev_op (fs := [.val (strD l), .val (.int a)]) rfl).trans (op_lo (by lia) (by lia)))).trans rfl)).trans rfl)⟩
end
end Mine.Internal.S
end
section
namespace Mine.Internal
section
variable {Γ : Nat → Fn} {st : St} {src elt cond e ke : CE} {xs : List PyData} {vv : Slots} {k kd n i : Nat} {d : PyData}
theorem ev_compF {g : PyData → PyData} {pr : PyData → Bool} {pp : List Slots} (hs : (ev Γ src st).bind (itE kd) = .ok xs ⟨vv, pp, n⟩) (h0 : (cond.ctorIdx == 0) = false) (hc : ∀ d ∈ xs, ev Γ cond ⟨inV vv d, pp, 0⟩ = .ok [bV (pr d)] ⟨inV vv d, pp, 0⟩)
  (he : ∀ d ∈ xs, ev Γ elt ⟨inV vv d, pp, 0⟩ = .ok [.val (g d)] ⟨inV vv d, pp, 0⟩) (hz : okLen xs.length = true) (hl : (vv.length == k) = true) : ev Γ (.comp k kd src elt cond) st = .ok [.own ((xs.filter pr).map g)] ⟨vv, pp, n⟩ := by
 show ((ev Γ src st).bind (itE kd)).bind (fun xs st => compE k (stepC Γ elt cond st.v) xs st) = _
 rw [hs]
 have hm : ∀ ys : List PyData, (∀ d ∈ ys, d ∈ xs) → mapR (stepC Γ elt cond vv) ys pp = some ((ys.filter pr).map g, pp) := fun ys => by
  induction ys with
  | nil => exact fun _ => rfl
  | cons y ys ih =>
   intro h
   have e1 : stepC Γ elt cond vv y pp = .ok (if pr y then [g y] else []) ⟨inV vv y, pp, 0⟩ := by
    show (cndE (cond.ctorIdx == 0) (ev Γ cond ⟨inV vv y, pp, 0⟩) ⟨inV vv y, pp, 0⟩).bind _ = _
    rw [h0, hc y (h y (.head _))]
    cases pr y with
    | false => rfl
    | true =>
     show ((ev Γ elt ⟨inV vv y, pp, 0⟩).bind eltE) = _
     rw [he y (h y (.head _))]; rfl
   show (match stepC Γ elt cond vv y pp with | .ok ys st => _ | _ => none) = _
   rw [e1]
   show (mapR (stepC Γ elt cond vv) ys pp).map _ = _
   rw [ih fun d hd => h d (.tail _ hd), List.filter_cons]
   cases pr y <;> rfl
 show (match mapR (stepC Γ elt cond vv) xs pp with | some q => (if okLen xs.length && vv.length == k then R.ok [F.own q.1] ⟨vv, q.2, n⟩ else .stuck) | none => .stuck) = _
 rw [hm xs fun _ h => h]
 show (if okLen xs.length && vv.length == k then R.ok [F.own ((xs.filter pr).map g)] ⟨vv, pp, n⟩ else .stuck) = _
 rw [hz, hl]; rfl
theorem ex_setidx {m : Nat} (hv : ev Γ e st = .ok [.val d] st) (hk : ev Γ ke st = .ok [.val (.int m)] st) (hs : slot st.v i = some (.own xs)) (hz : okLen xs.length = true) (hm : m < xs.length) (hi : i < st.v.length) : ex Γ (.setidx (.loc i) ke e) st = .ok .next { st with v := st.v.set i (some (.own (xs.set m d))) } := by
 show (ev Γ e st).bind _ = _
 rw [hv]
 show (if (slot st.v i).isSome then (ev Γ ke st).bind fun y st => setE (.loc i) [.val d] y st else .stuck) = _
 rw [hs, hk]
 show nextO (((slot st.v i).bind ownOf).bind fun xs => (gd (okLen xs.length && decide (0 ≤ (m : Int) ∧ (m : Int) < xs.length)) ()).bind fun _ => setP st (some (.own (xs.set (m : Int).toNat d))) (.loc i)) = _
 rw [hs]
 show nextO ((gd (okLen xs.length && decide (0 ≤ (m : Int) ∧ (m : Int) < xs.length)) ()).bind fun _ => gd (decide (i < st.v.length)) { st with v := st.v.set i (some (.own (xs.set (m : Int).toNat d))) }) = _
 rw [hz, dtt (show 0 ≤ (m : Int) ∧ (m : Int) < xs.length by lia), dtt hi]; rfl
theorem op_rep {c m : Nat} (h : m ≤ 100000) {n : Int} (hn : n.toNat = m) (hl : -100000 ≤ n) : opE (.bin .Mult) [.val (sgn c), .val (.int n)] st = .ok [.val (.str (S (List.replicate m c)))] st := by
 have h1 : okInt n = true := by unfold okInt; rw [dtt (by lia), dtt (by lia)]; rfl
 have e : ((asS (sgn c)).bind fun x => (asI (.int n)).bind fun n => gd (okLen ((cs x).length * n.toNat) && okInt n) (F.val (.str (S (List.replicate n.toNat (cs x)).flatten)))) = some (.val (.str (S (List.replicate m [c]).flatten))) := by
  show gd (okLen (1 * n.toNat) && okInt n) (F.val (.str (S (List.replicate n.toNat [c]).flatten))) = _
  rw [h1, hn, okLen_of (by lia)]; rfl
 have : (List.replicate m [c]).flatten = List.replicate m c := by
  clear h hn e
  induction m with
  | zero => rfl
  | succ m ih => rw [List.replicate_succ, List.flatten_cons, ih]; rfl
 show oneO (binF .Mult (sgn c) (.int n)) st = _
 unfold binF
 dsimp only
 rw [e, this]; rfl
theorem joins : ∀ l : List Nat, strsF (l.map sgn) = some (l.map fun c => [c])
 | [] => rfl
 | c :: l => by
  show (asS (sgn c)).bind _ = _
  rw [show asS (sgn c) = some (S [c]) from rfl, Option.bind_some, joins l]; rfl
theorem flat_one : ∀ l : List Nat, (l.map fun c => [c]).flatten = l
 | [] => rfl
 | c :: l => by rw [List.map_cons, List.flatten_cons, flat_one l]; rfl
end
end Mine.Internal
namespace Mine.Internal.S
section
variable {Γ : Nat → Fn} {xs : List Int} {W : Int} {x2 x3 x4 x6 : Option F} {rows : LL}
noncomputable abbrev wS (xs : List Int) (W : Int) (x2 x3 x4 : Option F) (rows : LL) (x6 : Option F) : St := ⟨[some (.val (lS xs)), some (.val (.int W)), x2, x3, x4, some (.own (sRows rows)), x6], [], 0⟩
theorem modq {k n : Int} (h30 : Sp30 Γ) (hx : xs.length ≤ 63) (hk : (small k && k != 0) = true) : ev Γ (.cmp .Eq (n_2 (bM (bF (.call true 30 (n_2 q_0 l_2)) (.lit (.int k))) l_6) (.lit (.int n)))) (wS xs W x2 x3 x4 rows x6) = .ok [bV (((xs.getD 2 0).fdiv k).fmod 6 == n)] (wS xs W x2 x3 x4 rows x6) :=
 ev_cmp (u := .int (((xs.getD 2 0).fdiv k).fmod 6)) (v := .int n) (ev_ci (i := (((xs.getD 2 0).fdiv k).fmod 6)) ((ev_op (fs := [.val (.int ((xs.getD 2 0).fdiv k)), .val (.int 6)]) (ev_ci (i := ((xs.getD 2 0).fdiv k)) ((ev_op (fs := [.val (.int (xs.getD 2 0)), .val (.int k)]) (ev_ci (i := (xs.getD 2 0)) (cell_at (j := 2) h30 hx rfl) rfl)).trans (by
  show oneO (gd (small k && k != 0) (.val (.int ((xs.getD 2 0).fdiv k)))) _ = _
  rw [hk]; rfl)) rfl)).trans rfl) rfl) rfl
theorem range_ok {n : Int} (h0 : -100000 ≤ n) (h : n ≤ 100000) : rangeF 0 n = some ((List.range n.toNat).map fun (k : Nat) => PyData.int k) := by
 unfold rangeF
 have h1 : okInt n = true := by unfold okInt; rw [dtt (by lia), dtt (by lia)]; rfl
 rw [h1, okLen_of (by lia)]
 show some _ = _
 rw [Int.sub_zero]
 simp
theorem c1_ok (h30 : Sp30 Γ) (h31 : Sp31 Γ) (hx : xs.length ≤ 63) : ∃ l : List Nat, l.length ≤ 100 ∧ (∀ c ∈ l, isSign c = true) ∧ ev Γ c1 (wS xs W x2 x3 x4 rows x6) = .ok [.own (l.map sgn)] (wS xs W x2 x3 x4 rows x6) := by
 have f1 := fmod_lo W (b := 56) (by lia)
 have f2 := fmod_hi W (b := 56) (by lia)
 refine ⟨(List.range (100 - W.fmod 56).toNat).map fun (k : Nat) => anyS (xs.getD 0 0 + 7 * k), by simp; lia, fun c hc => ?_, ?_⟩
 · obtain ⟨k, _, rfl⟩ := List.mem_map.mp hc; exact anyS_ok _
 · refine (ev_comp (g := fun d => match asI d with | some k => sgn (anyS (xs.getD 0 0 + 7 * k)) | none => d) (xs := (List.range (100 - W.fmod 56).toNat).map fun (k : Nat) => PyData.int k) (it_of (fs := [.val (.int (100 - W.fmod 56))]) rfl (by
    show ((rangeF 0 (100 - W.fmod 56)).or _) = _
    rw [range_ok (by lia) (by lia)]; rfl)) (fun d hd => ?_) (okLen_of (by simp; lia)) rfl).trans ?_
   · obtain ⟨k, _, rfl⟩ := List.mem_map.mp hd
     exact ev_fn (fs := [.val (.int (xs.getD 0 0 + 7 * k))]) (ev_ci (i := (xs.getD 0 0 + 7 * k)) ((ev_op (fs := [.val (.int (xs.getD 0 0)), .val (.int (7 * k))]) (ev_ci (i := (xs.getD 0 0)) (cell_at (j := 0) h30 hx rfl) rfl)).trans rfl) rfl) rfl (h31 _)
   · refine congrArg (fun l => Mine.Internal.R.ok [F.own l] _) ?_
     rw [List.map_map, List.map_map]; rfl
theorem range_n {n : Nat} (h : n ≤ 100000) : rangeF 0 (n : Int) = some ((List.range n).map fun (k : Nat) => PyData.int k) := range_ok (by lia) (by lia)
structure OkB (rows : LL) (k m : Nat) : Prop where
 one : 1 ≤ rows.length
 most : rows.length ≤ k
 row : ∀ l ∈ rows, l.length ≤ m ∧ ∀ c ∈ l, isSign c = true
theorem okL {l : List Nat} (h : l.length ≤ 120) (hs : ∀ c ∈ l, isSign c = true) : okLine l = true := by
 unfold okLine
 rw [dtt h, List.all_eq_true.mpr hs]; rfl
theorem t9_ok (h30 : Sp30 Γ) (h31 : Sp31 Γ) (hx : xs.length ≤ 63) (h : OkRows rows 56 111) : ∃ rows' x6', OkRows rows' 57 111 ∧ ex Γ t9 (wS xs W x2 x3 x4 rows none) = .ok .next (wS xs W x2 x3 x4 rows' x6') := by
 cases hb : ((xs.getD 2 0).fdiv 4).fmod 6 == 1 with
 | false => exact ⟨rows, none, ⟨h.one, Nat.le_succ_of_le h.most, h.row⟩, (ex_else ((modq h30 hx (by decide)).trans (by rw [hb]))).trans rfl⟩
 | true =>
  obtain ⟨l, hl1, hl2, hc1⟩ := c1_ok (W := W) (x2 := x2) (x3 := x3) (x4 := x4) (rows := rows) (x6 := none) h30 h31 hx
  have e1 : ex Γ (.assign (.loc 6) c1) (wS xs W x2 x3 x4 rows none) = .ok .next (wS xs W x2 x3 x4 rows (some (.own (l.map sgn)))) := (ex_assign hc1).trans rfl
  have e2 : ev Γ c2 (wS xs W x2 x3 x4 rows (some (.own (l.map sgn)))) = .ok [.own (((l.map sgn).filter fun d => match asS d with | some x => !inStr (S [32, 40, 41, 91, 93, 123, 125]) x | none => false).map id)] (wS xs W x2 x3 x4 rows (some (.val (.list (l.map sgn))))) :=
   ev_compF (it_of (st1 := wS xs W x2 x3 x4 rows (some (.val (.list (l.map sgn))))) (fs := [.val (.list (l.map sgn))]) (xs := l.map sgn) rfl (by
    show (((none : Option (List PyData)).or (gd (okLen (l.map sgn).length) (l.map sgn))).or none) = _
    rw [okLen_of (by rw [lmp]; lia)]; rfl)) rfl (fun d hd => by
    obtain ⟨c, _, rfl⟩ := List.mem_map.mp hd
    exact ev_cmp (op := .NotIn) (u := sgn c) (v := strD [32, 40, 41, 91, 93, 123, 125]) rfl rfl) (fun d hd => rfl) (okLen_of (by rw [lmp]; lia)) rfl
  have e3 : ((l.map sgn).filter fun d => match asS d with | some x => !inStr (S [32, 40, 41, 91, 93, 123, 125]) x | none => false).map id = (l.filter fun c => !inStr (S [32, 40, 41, 91, 93, 123, 125]) (S [c])).map sgn := by rw [List.map_id, List.filter_map]; rfl
  rw [e3] at e2
  generalize hf : (l.filter fun c => !inStr (S [32, 40, 41, 91, 93, 123, 125]) (S [c])) = l' at e2
  have hl' : l'.length ≤ 100 := by rw [← hf]; exact nlt (List.length_filter_le _ _) hl1
  have hs' : ∀ c ∈ l', isSign c = true := fun c hc => by rw [← hf] at hc; exact hl2 c (List.mem_filter.mp hc).1
  have e4 : ev Γ (.sm .join (.lit (.str (S []))) (n_1 c2)) (wS xs W x2 x3 x4 rows (some (.own (l.map sgn)))) = .ok [.val (strD l')] (wS xs W x2 x3 x4 rows (some (.val (.list (l.map sgn))))) := by
   show (ev Γ (n_1 c2) (wS xs W x2 x3 x4 rows (some (.own (l.map sgn))))).bind _ = _
   rw [ev_cons (b := .nil) e2 rfl]
   show oneO ((strsF (l'.map sgn)).bind fun ls => gd ((cs (S [])).isEmpty && okLen ls.flatten.length) (.val (.str (S ls.flatten)))) _ = _
   rw [joins, Option.bind_some, flat_one, okLen_of (by lia)]; rfl
  have hmost := h.most
  have e5 : ex Γ (.append (.loc 5) (.sm .join (.lit (.str (S []))) (n_1 c2))) (wS xs W x2 x3 x4 rows (some (.own (l.map sgn)))) = .ok .next (wS xs W x2 x3 x4 (rows ++ [l']) (some (.val (.list (l.map sgn))))) := by
   show (ev Γ _ _).bind _ = _
   rw [e4]
   show nextO ((gd (okLen (sRows rows).length) ()).bind fun _ => some _) = _
   rw [okLen_of (by rw [sRows_len]; lia)]
   unfold wS sRows
   rw [List.map_append]; rfl
  refine ⟨rows ++ [l'], some (.val (.list (l.map sgn))), ⟨by have := h.one; simp, by simp; lia, fun r hr => ?_⟩, (ex_then ((modq h30 hx (by decide)).trans (by rw [hb]))).trans ((ex_next e1).trans ((ex_next e5).trans rfl))⟩
  rcases List.mem_append.mp hr with hr | hr
  · exact h.row r hr
  · rw [lsm hr]; exact ⟨by lia, hs'⟩
end
end Mine.Internal.S
end
section
namespace Mine.Internal.S
section
variable {Γ : Nat → Fn} {xs : List Int} {W : Int} {x2 x3 x4 x6 : Option F} {rows : LL}
theorem pad_i {n : Nat} (h : n ≤ 111) : ((118 : Int) - n).toNat = 118 - n ∧ -100000 ≤ (118 : Int) - n := by lia
theorem t10_ok (h30 : Sp30 Γ) (hx : xs.length ≤ 63) (h : OkRows rows 57 111) : ∃ rows', (OkText rows' ∧ rows'.length ≤ 57 ∧ ∀ l ∈ rows', l.length ≤ 118) ∧ ex Γ t10 (wS xs W x2 x3 x4 rows x6) = .ok .next (wS xs W x2 x3 x4 rows' x6) := by
 cases hb : ((xs.getD 2 0).fdiv 24).fmod 6 == 1 with
 | false => exact ⟨rows, ⟨⟨h.one, big h.most, fun l hl => okL (big (h.row l hl).1) (h.row l hl).2⟩, h.most, fun l hl => big (h.row l hl).1⟩, (ex_else ((modq h30 hx (by decide)).trans (by rw [hb]))).trans rfl⟩
 | true =>
  cases rows with
  | nil => cases h.one
  | cons r0 rest =>
   have hr0 := h.row r0 (.head _)
   have e1 : ev Γ (.peek .idx (.loc 5) (n_1 l_0)) (wS xs W x2 x3 x4 (r0 :: rest) x6) = .ok [.val (strD r0)] (wS xs W x2 x3 x4 (r0 :: rest) x6) := ev_pidx (f := .own (sRows (r0 :: rest))) (m := 0) rfl rfl rfl (at_head (by show (sRows (r0 :: rest)).length ≤ _; rw [sRows_len]; exact big h.most))
   have e2 : ev Γ (.op .idx (n_2 (.lit (.str (S [32, 120]))) (bM q_1 l_2))) (wS xs W x2 x3 x4 (r0 :: rest) x6) = .ok [.val (sgn (([32, 120][(W.fmod 2).toNat]?).getD 32))] (wS xs W x2 x3 x4 (r0 :: rest) x6) := (ev_op (fs := [.val (strD [32, 120]), .val (.int (W.fmod 2))]) rfl).trans (op_sidx (by decide) (fmod_lo _ (by decide)) (fmod_hi _ (by decide)))
   generalize hg : ([32, 120][(W.fmod 2).toNat]?).getD 32 = x at e2
   have hxs : isSign x = true := by rw [← hg]; exact sgn2 (by decide) _
   have e3 : ev Γ (bS_ l_118 (.op .len (n_1 (.peek .idx (.loc 5) (n_1 l_0))))) (wS xs W x2 x3 x4 (r0 :: rest) x6) = .ok [.val (.int (118 - r0.length))] _ := (ev_op (fs := [.val (.int 118), .val (.int r0.length)]) (ev_ci (i := 118) rfl (ev_ci (i := r0.length) ((ev_op (fs := [.val (strD r0)]) (ev_cons (b := .nil) e1 rfl)).trans (op_len (big hr0.1))) rfl))).trans rfl
   have hpl : (List.replicate (118 - r0.length) x ++ r0).length = 118 := by rw [lap, List.length_replicate]; exact Nat.sub_add_cancel (big hr0.1)
   have e4 := ev_op (o := .bin .Add) (ev_cs (l := (List.replicate (118 - r0.length) x)) ((ev_op (fs := [.val (sgn x), .val (.int (118 - r0.length))]) (ev_cons e2 (ev_cons (b := .nil) e3 rfl))).trans (op_rep (big (Nat.sub_le _ _)) (pad_i hr0.1).1 (pad_i hr0.1).2)) (ev_cons (b := .nil) e1 rfl))
   have e5 := ex_setidx (i := 5) (xs := sRows (r0 :: rest)) (ke := .lit (.int 0)) (m := 0) (e4.trans (op_cat (by rw [List.length_replicate]; exact big (Nat.add_le_add (Nat.sub_le _ _) hr0.1)))) rfl rfl (okLen_of (by rw [sRows_len]; exact big h.most)) (by rw [sRows_len]; exact Nat.succ_pos _) (show 5 < 7 by decide)
   refine ⟨(List.replicate (118 - r0.length) x ++ r0) :: rest, ⟨⟨Nat.succ_pos _, big h.most, fun l hl => ?_⟩, h.most, fun l hl => ?_⟩, (ex_then ((modq h30 hx (by decide)).trans (by rw [hb]))).trans ((ex_next e5).trans rfl)⟩
   · rcases List.mem_cons.mp hl with rfl | hl
     · refine okL (by rw [hpl]; decide) fun c hc => ?_
       rcases List.mem_append.mp hc with hc | hc
       · rw [(List.mem_replicate.mp hc).2]; exact hxs
       · exact hr0.2 c hc
     · have := h.row l (.tail _ hl); exact okL (big this.1) this.2
   · rcases List.mem_cons.mp hl with rfl | hl
     · rw [hpl]; exact Nat.le_refl _
     · exact big (h.row l (.tail _ hl)).1
theorem sz_ok {n : Nat} (h : n ≤ 55) (pt : Bool) : if pt then n * (1 + if pt then 1 else 0) ≤ 110 else n * (1 + if pt then 1 else 0) ≤ 55 := by cases pt <;> simp <;> lia
theorem sz_i {x : Int} (h : 0 ≤ x) (pt : Bool) : ((x.toNat * (1 + if pt then 1 else 0) : Nat) : Int) = x * (1 + if pt then 1 else 0) := by cases pt <;> simp <;> lia
theorem pos_l {n : Nat} : (0 : Int) < (n : Int) + 1 := by lia
theorem a_le {a n : Nat} {x : Int} (ha : (a : Int) = x) (h : x < (n : Int) + 1) (hn : n ≤ 9000) : a ≤ 10000 := by lia
theorem w_le {x : Int} (h : x < 56) : x.toNat ≤ 55 := by lia
theorem text_ok (h30 : Sp30 Γ) (h31 : Sp31 Γ) (h32 : Sp32 Γ) (hx : xs.length ≤ 63) : ∃ rows, (OkText rows ∧ rows.length ≤ 57 ∧ ∀ l ∈ rows, l.length ≤ 118) ∧ B Γ d_law_text [.val (lS xs)] = .ret (vR rows) [] := by
 generalize hW : xs.getD 1 0 = W
 have f1 := fmod_lo W (b := 56) (by decide)
 have f2 := fmod_hi W (b := 56) (by decide)
 generalize hpt : ((W.fdiv 56).fmod 6 == 1) = pt
 obtain ⟨l, hl, e32⟩ := h32 (xs.getD 0 0) ((W.fmod 56).toNat * (1 + if pt then 1 else 0)) pt (sz_ok (w_le f2) pt)
 have hsz := sz_i f1 pt
 rw [hsz] at e32
 have hlen := hl.len
 have f3 := fmod_lo ((W * 48271).fmod 100003) (b := (l.length : Int) + 1) pos_l
 have f4 := fmod_hi ((W * 48271).fmod 100003) (b := (l.length : Int) + 1) pos_l
 obtain ⟨a, ha⟩ : ∃ a : Nat, (a : Int) = ((W * 48271).fmod 100003).fmod ((l.length : Int) + 1) := ⟨_, Int.toNat_of_nonneg f3⟩
 have ha' : a ≤ 10000 := a_le ha f4 (big hlen)
 obtain ⟨l5, h5, e5⟩ := t5_ok (W := W) (pt := pt) h30 hx hl (by decide) ha'
 obtain ⟨l6, h6, e6⟩ := t6_ok (W := W) (pt := pt) h30 hx h5 (by decide) ha'
 obtain ⟨l7, h7, e7⟩ := t7_ok (W := W) (pt := pt) h30 hx h6 (by decide) ha'
 have h7l := h7.len
 obtain ⟨r9, x6, h9, e9⟩ := t9_ok (Γ := Γ) (W := W) (x2 := some (.val (.bool pt))) (x3 := some (.val (strD l7))) (x4 := some (.val (.int a))) h30 h31 hx h7.rows
 obtain ⟨r10, h10, e10⟩ := t10_ok (Γ := Γ) (W := W) (x2 := some (.val (.bool pt))) (x3 := some (.val (strD l7))) (x4 := some (.val (.int a))) (x6 := x6) h30 hx h9
 have e1 : ex Γ (.assign (.loc 1) (.call true 30 (n_2 q_0 l_1))) ⟨[some (.val (lS xs)), none, none, none, none, none, none], [], 0⟩ = .ok .next ⟨[some (.val (lS xs)), some (.val (.int W)), none, none, none, none, none], [], 0⟩ := (ex_assign ((cell_at (j := 1) h30 hx rfl).trans (by rw [hW]))).trans rfl
 have e2 : ex Γ (.assign (.loc 2) (.cmp .Eq (n_2 (bM (bF q_1 l_56) l_6) l_1))) ⟨[some (.val (lS xs)), some (.val (.int W)), none, none, none, none, none], [], 0⟩ = .ok .next ⟨[some (.val (lS xs)), some (.val (.int W)), some (.val (.bool pt)), none, none, none, none], [], 0⟩ := by rw [← hpt]; rfl
 have e3 : ex Γ (.assign (.loc 3) (.call true 32 (n_3 (.call true 30 (n_2 q_0 l_0)) (bX (bM q_1 l_56) (bA l_1 (.op .toInt (n_1 q_2)))) q_2))) ⟨[some (.val (lS xs)), some (.val (.int W)), some (.val (.bool pt)), none, none, none, none], [], 0⟩ = .ok .next ⟨[some (.val (lS xs)), some (.val (.int W)), some (.val (.bool pt)), some (.val (strD l)), none, none, none], [], 0⟩ :=
  (ex_assign (ev_fn (fs := [.val (.int (xs.getD 0 0)), .val (.int (W.fmod 56 * (1 + if pt then 1 else 0))), .val (.bool pt)]) (ev_ci (i := (xs.getD 0 0)) (cell_at (j := 0) h30 hx rfl) (ev_ci (i := (W.fmod 56 * (1 + if pt then 1 else 0))) ((ev_op (fs := [.val (.int (W.fmod 56)), .val (.int (1 + if pt then 1 else 0))]) rfl).trans (op_mul (.inr (by cases pt <;> rfl)))) rfl)) rfl e32)).trans rfl
 have e4 : ex Γ (.assign (.loc 4) (bM (bM (bX q_1 l_48271) l_100003) (bA (.op .len (n_1 q_3)) l_1))) ⟨[some (.val (lS xs)), some (.val (.int W)), some (.val (.bool pt)), some (.val (strD l)), none, none, none], [], 0⟩ = .ok .next (uS xs W pt l a) :=
  (ex_assign (fs := [.val (.int a)]) ((ev_op (fs := [.val (.int ((W * 48271).fmod 100003)), .val (.int (l.length + 1))]) (ev_ci (i := ((W * 48271).fmod 100003)) ((ev_op (fs := [.val (.int (W * 48271)), .val (.int 100003)]) (ev_ci (i := (W * 48271)) ((ev_op (fs := [.val (.int W), .val (.int 48271)]) rfl).trans (op_mul (.inr (by decide)))) rfl)).trans rfl) (ev_ci (i := (l.length + 1)) ((ev_op (fs := [.val (.int l.length), .val (.int 1)]) (ev_ci (i := l.length) ((ev_op (fs := [.val (strD l)]) rfl).trans (op_len (big hlen))) rfl)).trans rfl) rfl))).trans (by
   show oneO (gd ((l.length + 1 : Int) != 0) (.val (.int (((W * 48271).fmod 100003).fmod (l.length + 1))))) _ = _
   rw [← ha, show ((l.length + 1 : Int) != 0) = true from bne_iff_ne.mpr (Int.ne_of_gt pos_l)]; rfl))).trans rfl
 have e8 : ex Γ (.assign (.loc 5) (.sm .splitNl q_3 .nil)) (uS xs W pt l7 a) = .ok .next (wS xs W (some (.val (.bool pt))) (sT l7) (sI a) (splitNL l7) none) := by
  refine (ex_assign (fs := [.own (sRows (splitNL l7))]) (st1 := uS xs W pt l7 a) ?_).trans rfl
  show oneO (gd (okLen (l7.length + 1)) (.own ((splitNL l7).map fun l => .str (S l)))) _ = _
  rw [okLen_of (big (Nat.succ_le_succ h7l))]; rfl
 exact ⟨r10, h10, run_of rfl ((ex_next e1).trans ((ex_next e2).trans ((ex_next e3).trans ((ex_next e4).trans ((ex_next e5).trans ((ex_next e6).trans ((ex_next e7).trans ((ex_next e8).trans ((ex_next e9).trans ((ex_next e10).trans (ex_done (ret_val rfl))))))))))))⟩
noncomputable def Sp33 (Γ : Nat → Fn) : Prop := ∀ xs : List Int, xs.length ≤ 63 → ∃ rows, (OkText rows ∧ rows.length ≤ 57 ∧ ∀ l ∈ rows, l.length ≤ 118) ∧ Γ 33 [] [.val (lS xs)] = .ret (vR rows) []
end
end Mine.Internal.S
end
section
namespace Mine.Internal
section
variable {Γ : Nat → Fn} {st st1 : St} {f : F} {fs ys as : List F} {r e es ke : CE} {k n : Nat} {p : Pl} {d : PyData} {xs : List PyData} {p' : List Slots} {et : List (List Int × PyData)} {q : List Int}
theorem pk_len (hs : getP st p = some f) (hl : lstOf f = some xs) (hz : okLen xs.length = true) : ev Γ (.peek .len p .nil) st = .ok [.val (.int xs.length)] st := by
 show (if (getP st p).isSome then oneO (((getP st p).bind lstOf).bind fun xs => (lenL xs).map intV) st else .stuck) = _
 rw [hs]
 show oneO ((lstOf f).bind fun xs => (lenL xs).map intV) st = _
 rw [hl]
 show oneO ((lenL xs).map intV) st = _
 unfold lenL; rw [hz]; rfl
theorem pk_copy (hs : getP st p = some f) (hl : lstOf f = some xs) (hz : okLen xs.length = true) : ev Γ (.peek .copy p .nil) st = .ok [.own xs] st := by
 show (if (getP st p).isSome then oneO (((getP st p).bind lstOf).bind fun xs => gd (okLen xs.length) (.own xs)) st else .stuck) = _
 rw [hs]
 show oneO ((lstOf f).bind fun xs => gd (okLen xs.length) (.own xs)) st = _
 rw [hl]
 show oneO (gd (okLen xs.length) (.own xs)) st = _
 rw [hz]; rfl
theorem pk_idx {m : Int} (hs : getP st p = some f) (hl : lstOf f = some xs) (he : ev Γ es st = .ok [.val (.int m)] st) (ha : atL xs m = some d) : ev Γ (.peek .idx p es) st = .ok [.val d] st := by
 show (if (getP st p).isSome then (ev Γ es st).bind fun x st' => peekE .idx p x st' else .stuck) = _
 rw [hs, he]
 show oneO (((getP st p).bind lstOf).bind fun xs => (atL xs m).map .val) st = _
 rw [hs]
 show oneO ((lstOf f).bind fun xs => (atL xs m).map .val) st = _
 rw [hl]
 show oneO ((atL xs m).map .val) st = _
 rw [ha]; rfl
theorem pk_key {kd : PyData} (hs : getP st p = some (.dct et)) (he : ev Γ es st = .ok [.val kd] st) (hk : keyI kd = some q) (ha : keyF et q = some d) : ev Γ (.peek .key p es) st = .ok [.val d] st := by
 show (if (getP st p).isSome then (ev Γ es st).bind fun x st' => peekE .key p x st' else .stuck) = _
 rw [hs, he]
 show oneO ((keyI kd).bind fun k => ((getP st p).bind dctOf).bind fun es => (keyF es k).map .val) st = _
 rw [hk, hs]
 show oneO ((keyF et q).map .val) st = _
 rw [ha]; rfl
theorem ex_setkey {kd : PyData} (hv : ev Γ e st = .ok [.val d] st) (hk : ev Γ ke st = .ok [.val kd] st) (hq : keyI kd = some q) (hs : getP st p = some (.dct et)) (hz : okLen et.length = true) (hp : setP st (some (.dct (putF et q d))) p = some st1) : ex Γ (.setkey p ke e) st = .ok .next st1 := by
 show (ev Γ e st).bind _ = _
 rw [hv]
 show (if (getP st p).isSome then (ev Γ ke st).bind fun y st => keyE p [.val d] y st else .stuck) = _
 rw [hs, hk]
 show nextO ((keyI kd).bind fun q => ((getP st p).bind dctOf).bind fun es => (gd (okLen es.length) ()).bind fun _ => setP st (some (.dct (putF es q d))) p) = _
 rw [hq, hs]
 show nextO ((gd (okLen et.length) ()).bind fun _ => setP st (some (.dct (putF et q d))) p) = _
 rw [hz]
 show nextO (setP st (some (.dct (putF et q d))) p) = _
 rw [hp]; rfl
theorem ev_meth (hr : ev Γ r st = .ok [.pg n] st) (he : ev Γ es st = .ok ys st1) (ha : args st1.v (.pg n :: ys) = some as) (hg : Γ k st1.p as = .ret f p') : ev Γ (.meth k r es) st = .ok [f] { st1 with p := p' } := by
 show (ev Γ r st).bind _ = _
 rw [hr]
 show (ev Γ es st).bind _ = _
 rw [he]
 show (match args st1.v (.pg n :: ys) with | some as => outE false (Γ k st1.p as) st1 | none => .stuck) = _
 rw [ha]
 show outE false (Γ k st1.p as) st1 = _
 rw [hg]; rfl
theorem ex_drop (h : ev Γ e st = .ok fs st1) : ex Γ (.drop e) st = .ok .next st1 := by show (ev Γ e st).bind _ = _; rw [h]; rfl
theorem run_none {np nv x' : Nat} {v' : Slots} {pg p' : List Slots} {body : CS} (hl : ys.length = np) (h : ex Γ body ⟨ys.map some ++ List.replicate nv none, pg, 0⟩ = .ok .next ⟨v', p', x'⟩) : runDef Γ np nv body pg ys = .ret (.val .none) p' := by unfold runDef; rw [if_pos hl, h]; rfl
end
end Mine.Internal
namespace Mine.Internal.S
noncomputable abbrev M (Γ : Nat → Fn) (d : FnDef) (p : List Slots) (fs : List F) : Out := runDef Γ d.ps.length d.vs.length d.body p fs
theorem marksAll_up : ∀ (rows : LL) (n k : Nat), marksAll (n + k) rows = (marksAll n rows).map (low k)
 | [], _, _ => rfl
 | l :: rows, n, k => by
  rw [marksAll_c, marksAll_c, List.map_append, List.map_map, show n + k + 1 = (n + 1) + k by lia, marksAll_up rows (n + 1) k]
  refine congrArg (· ++ _) (List.map_congr_left fun m _ => ?_)
  show (m.1, m.2.1 + (n + k), m.2.2) = (m.1, m.2.1 + n + k, m.2.2)
  rw [Nat.add_assoc]
theorem marksAll_append : ∀ (a b : LL) (n : Nat), marksAll n (a ++ b) = marksAll n a ++ marksAll (n + a.length) b
 | [], b, n => rfl
 | l :: a, b, n => by
  rw [List.cons_append, marksAll_c, marksAll_c, marksAll_append a b (n + 1), List.append_assoc, show n + 1 + a.length = n + (l :: a).length by simp; lia]
theorem rd_join (a b : LL) : join (rd a) (rd b) a.length = rd (a ++ b) := by
 unfold rd
 rw [join_run, marksAll_append, run_append, Nat.zero_add, show marksAll a.length b = (marksAll 0 b).map (low a.length) by rw [← marksAll_up, Nat.zero_add]]
theorem rd_one (l : List Nat) : rd [l] = run .nil (marksFrom 0 l) := by
 unfold rd
 rw [marksAll_c, marksAll_n, List.append_nil]
 exact congrArg (run .nil) (List.map_id _)
noncomputable abbrev pS (a : Option F) (parts : List PyData) (b : Option F) (es : List (List Int × PyData)) (m : Int) (e : Option F) : Slots := [a, some (.own parts), b, some (.dct es), some (.val (.int m)), e]
noncomputable def seg (rows : LL) (lo hi : Nat) : LL := (rows.take hi).drop lo
theorem seg_len {rows : LL} {lo hi : Nat} (h : hi ≤ rows.length) : (seg rows lo hi).length = hi - lo := by unfold seg; rw [List.length_drop, List.length_take, Nat.min_eq_left h]
theorem seg_cat {rows : LL} {lo mi hi : Nat} (h1 : lo ≤ mi) (h2 : mi ≤ hi) : seg rows lo mi ++ seg rows mi hi = seg rows lo hi := by
 unfold seg
 rw [show (rows.take hi).drop mi = ((rows.take hi).drop lo).drop (mi - lo) by rw [List.drop_drop]; congr 1; lia]
 rw [show (rows.take mi).drop lo = ((rows.take hi).drop lo).take (mi - lo) by rw [List.take_drop, show lo + (mi - lo) = mi by lia, List.take_take, Nat.min_eq_left h2]]
 exact List.take_append_drop ..
theorem seg_one {rows : LL} {lo : Nat} (h : lo < rows.length) : seg rows lo (lo + 1) = [rows[lo]] := by
 unfold seg
 rw [List.take_add_one, geg h, List.drop_append_of_le_length (by rw [List.length_take]; lia)]
 rw [List.drop_eq_nil_of_le (by rw [List.length_take]; lia)]; rfl
theorem put_len (es : List (List Int × PyData)) (k : List Int) (d : PyData) : (putF es k d).length ≤ es.length + 1 := by
 unfold putF
 split
 · rw [lmp]; lia
 · rw [lap]; exact Nat.le_refl _
end Mine.Internal.S
end
section
namespace Mine.Internal.S
noncomputable abbrev Es := List (List Int × PyData)
theorem key_put (es : Es) (k q : List Int) (d : PyData) : keyF (putF es k d) q = if q = k then some d else keyF es q := by
 unfold putF
 have fm : ∀ l : Es, (keyF l k).isSome = true → keyF (l.map fun e => if e.1 = k then (e.1, d) else e) q = if q = k then some d else keyF l q := fun l => by
  induction l with
  | nil => intro h; cases h
  | cons e l ih =>
   intro h
   unfold keyF at h ih ⊢
   rw [List.map_cons, List.find?_cons, List.find?_cons]
   by_cases h1 : e.1 = k
   · rw [if_pos h1]
     dsimp only
     by_cases h2 : e.1 = q
     · rw [dtt h2, if_pos (h2.symm.trans h1)]; rfl
     · rw [dff h2, if_neg fun z => h2 (h1.trans z.symm)]
       have : ∀ l : Es, ((l.map fun e => if e.1 = k then (e.1, d) else e).find? fun e => decide (e.1 = q)).map (·.2) = (l.find? fun e => decide (e.1 = q)).map (·.2) := fun l => by
        induction l with
        | nil => rfl
        | cons e' l ih' =>
         rw [List.map_cons, List.find?_cons, List.find?_cons]
         by_cases h3 : e'.1 = k
         · rw [if_pos h3]
           dsimp only
           rw [dff fun z : e'.1 = q => h2 (h1.trans (h3.symm.trans z))]
           exact ih'
         · rw [if_neg h3]
           cases decide (e'.1 = q) with
           | true => rfl
           | false => exact ih'
       exact this l
   · rw [if_neg h1]
     rw [List.find?_cons, dff h1] at h
     by_cases h2 : e.1 = q
     · rw [dtt h2, if_neg fun z => h1 (h2.trans z)]
     · rw [dff h2]; exact ih h
 cases hk : (keyF es k).isSome with
 | true => rw [if_pos rfl]; exact fm es hk
 | false =>
  rw [if_neg Bool.false_ne_true]
  unfold keyF at hk ⊢
  rw [List.find?_append]
  by_cases h : q = k
  · subst h
    rw [if_pos rfl]
    cases hq : es.find? fun e => decide (e.1 = q) with
    | some x => rw [hq] at hk; cases hk
    | none => rw [Option.none_or, List.find?_cons, dtt rfl]; rfl
  · rw [if_neg h]
    cases es.find? fun e => decide (e.1 = q) with
    | some x => rfl
    | none => rw [Option.none_or, List.find?_cons, dff fun z : k = q => h z.symm]; rfl
noncomputable def At (rows : LL) (es : Es) (lo hi : Nat) : Prop := keyF es [lo, hi] = some (encR (rd (seg rows lo hi)))
noncomputable def Kn (rows : LL) (es : Es) : Nat → Nat → Nat → Prop
 | 0, lo, hi => At rows es lo hi
 | k + 1, lo, hi => At rows es lo hi ∧ (2 ≤ hi - lo → Kn rows es k lo (lo + (hi - lo) / 2) ∧ Kn rows es k (lo + (hi - lo) / 2) hi)
noncomputable def Out' (ch : Option Nat) (lo hi : Nat) : Bool := match ch with
 | none => false
 | some r => decide (r < lo) || decide (hi ≤ r)
noncomputable def Pre (rows : LL) (es : Es) (ch : Option Nat) : Nat → Nat → Nat → Prop
 | 0, lo, hi => Out' ch lo hi = true → Kn rows es 0 lo hi
 | k + 1, lo, hi => if Out' ch lo hi then Kn rows es (k + 1) lo hi else (2 ≤ hi - lo → Pre rows es ch k lo (lo + (hi - lo) / 2) ∧ Pre rows es ch k (lo + (hi - lo) / 2) hi)
noncomputable def cnt (ch : Option Nat) : Nat → Nat → Nat → Nat
 | 0, _, _ => 0
 | k + 1, lo, hi => if Out' ch lo hi then 0 else if 2 ≤ hi - lo then cnt ch k lo (lo + (hi - lo) / 2) + cnt ch k (lo + (hi - lo) / 2) hi + 1 else 0
noncomputable def Same (es es' : Es) (lo hi : Nat) : Prop := ∀ x y : Nat, x < y → ¬ (lo ≤ x ∧ y ≤ hi) → keyF es' [x, y] = keyF es [x, y]
section
variable {rows : LL} {es es' es'' : Es} {lo hi x y k : Nat} {ch : Option Nat}
theorem At.same (h : At rows es lo hi) (s : Same es es' x y) (hl : lo < hi) (ho : ¬ (x ≤ lo ∧ hi ≤ y)) : At rows es' lo hi := (s lo hi hl ho).trans h
theorem mid_2 (h2 : 2 ≤ hi - lo) : lo < lo + (hi - lo) / 2 ∧ lo + (hi - lo) / 2 < hi := ⟨Nat.lt_add_of_pos_right (Nat.div_pos h2 Nat.zero_lt_two), by rw [Nat.add_comm]; exact Nat.add_lt_of_lt_sub (Nat.div_lt_self (Nat.lt_of_lt_of_le Nat.zero_lt_two h2) Nat.one_lt_two)⟩
theorem mid_out (ho : y ≤ lo ∨ hi ≤ x) (hl : lo < hi) (h2 : 2 ≤ hi - lo) : ((y ≤ lo ∨ lo + (hi - lo) / 2 ≤ x) ∧ lo < lo + (hi - lo) / 2) ∧ (y ≤ lo + (hi - lo) / 2 ∨ hi ≤ x) ∧ lo + (hi - lo) / 2 < hi := ⟨⟨ho.imp id (nlt (Nat.le_of_lt (mid_2 h2).2)), (mid_2 h2).1⟩, ho.imp (fun h => nlt h (Nat.le_of_lt (mid_2 h2).1)) id, (mid_2 h2).2⟩
theorem out_no (ho : y ≤ lo ∨ hi ≤ x) (hl : lo < hi) : ¬ (x ≤ lo ∧ hi ≤ y) := by lia
theorem Kn.same (s : Same es es' x y) (ho : y ≤ lo ∨ hi ≤ x) (hl : lo < hi) : ∀ {k}, Kn rows es k lo hi → Kn rows es' k lo hi := fun {k} => by
 induction k generalizing lo hi with
 | zero => exact fun h => At.same h s hl (out_no ho hl)
 | succ k ih => exact fun h => ⟨At.same h.1 s hl (out_no ho hl), fun h2 => ⟨ih (mid_out ho hl h2).1.1 (mid_out ho hl h2).1.2 (h.2 h2).1, ih (mid_out ho hl h2).2.1 (mid_out ho hl h2).2.2 (h.2 h2).2⟩⟩
theorem Pre.same (s : Same es es' x y) (ho : y ≤ lo ∨ hi ≤ x) (hl : lo < hi) : ∀ {k}, Pre rows es ch k lo hi → Pre rows es' ch k lo hi := fun {k} => by
 induction k generalizing lo hi with
 | zero => exact fun h q => Kn.same s ho hl (h q)
 | succ k ih =>
  intro h
  change @ite _ _ _ _ _ at h ⊢
  split
  · rename_i q; rw [if_pos q] at h; exact h.same s ho hl
  · rename_i q; rw [if_neg q] at h; exact fun h2 => ⟨ih (mid_out ho hl h2).1.1 (mid_out ho hl h2).1.2 (h h2).1, ih (mid_out ho hl h2).2.1 (mid_out ho hl h2).2.2 (h h2).2⟩
theorem Same.refl : Same es es lo hi := fun _ _ _ _ => rfl
theorem Same.trans {lo' hi' lo'' hi'' : Nat} (s : Same es es' lo' hi') (t : Same es' es'' lo'' hi'') (h1 : lo ≤ lo') (h2 : hi' ≤ hi) (h3 : lo ≤ lo'') (h4 : hi'' ≤ hi) : Same es es'' lo hi := fun x y hxy ho => (t x y hxy (by lia)).trans (s x y hxy (by lia))
theorem Same.put {d : PyData} (s : Same es es' lo hi) : Same es (putF es' [lo, hi] d) lo hi := fun x y hxy ho => by
 rw [key_put, if_neg ?_]
 · exact s x y hxy ho
 · intro q
   have h1 := (List.cons.inj q).1
   have h2 := (List.cons.inj (List.cons.inj q).2).1
   lia
theorem At.put {d : PyData} (h : At rows es x y) (hn : ¬ (x = lo ∧ y = hi)) : At rows (putF es [lo, hi] d) x y := by
 unfold At
 rw [key_put, if_neg ?_]
 · exact h
 · intro q
   have h1 := (List.cons.inj q).1
   have h2 := (List.cons.inj (List.cons.inj q).2).1
   lia
theorem At.new : At rows (putF es [lo, hi] (encR (rd (seg rows lo hi)))) lo hi := by unfold At; rw [key_put, if_pos rfl]
theorem mid_lt (hn : hi - lo > y - x) (h2 : 2 ≤ y - x) : hi - lo > x + (y - x) / 2 - x ∧ hi - lo > y - (x + (y - x) / 2) := ⟨by rw [Nat.add_sub_cancel_left]; exact Nat.lt_trans (Nat.div_lt_self (Nat.lt_of_lt_of_le Nat.zero_lt_two h2) Nat.one_lt_two) hn, Nat.lt_of_le_of_lt (by rw [Nat.sub_add_eq]; exact Nat.sub_le ..) hn⟩
theorem put_no (hn : hi - lo > y - x) : ¬ (x = lo ∧ y = hi) := fun q => by rw [q.1, q.2] at hn; exact Nat.lt_irrefl _ hn
theorem Kn.put {d : PyData} (hn : hi - lo > y - x) : ∀ {k}, Kn rows es k x y → Kn rows (putF es [lo, hi] d) k x y := fun {k} => by
 induction k generalizing x y with
 | zero => exact fun h => At.put h (put_no hn)
 | succ k ih => exact fun h => ⟨At.put h.1 (put_no hn), fun h2 => ⟨ih (mid_lt hn h2).1 (h.2 h2).1, ih (mid_lt hn h2).2 (h.2 h2).2⟩⟩
theorem Kn.root : ∀ {k}, Kn rows es k lo hi → At rows es lo hi := fun {k} h => by cases k with | zero => exact h | succ k => exact h.1
end
section
variable {Γ : Nat → Fn} {rows : LL} {lo hi : Nat} {a b e : Option F} {es : Es} {m : Int} {x y z : Option F} {ch : Option Nat}
noncomputable def chD : Option Nat → PyData
 | none => .none
 | some r => .int r
noncomputable abbrev oS (ch : Option Nat) (lo hi : Nat) (x y z : Option F) (a : Option F) (rows : LL) (b : Option F) (es : Es) (m : Int) (e : Option F) : St := ⟨[some (.pg 0), some (.val (.int lo)), some (.val (.int hi)), some (.val (chD ch)), x, y, z], [pS a (rows.map encP) b es m e], 0⟩
structure Jn (rows : LL) (ch : Option Nat) (k lo hi : Nat) (es es' : Es) : Prop where
 len : es'.length + 1 ≤ es.length + 2 * (hi - lo)
 kn : Kn rows es' k lo hi
 same : Same es es' lo hi
noncomputable def J (k : Nat) (Γ : Nat → Fn) (rows : LL) : Prop := ∀ ch lo hi, lo < hi → hi - lo ≤ 2 ^ k → hi ≤ rows.length → ∀ a b e es m, es.length + 2 * (hi - lo) ≤ 10000 → Pre rows es ch k lo hi → ∃ es', Jn rows ch k lo hi es es' ∧
 Γ 16 [pS a (rows.map encP) b es m e] [.pg 0, .val (.int lo), .val (.int hi), .val (chD ch)] = .ret (.val (encR (rd (seg rows lo hi)))) [pS a (rows.map encP) b es' (m + (cnt ch k lo hi : Nat)) e]
theorem seg_text (h : OkText rows) (hl : lo < hi) (hh : hi ≤ rows.length) : OkText (seg rows lo hi) :=
 ⟨by rw [seg_len hh]; lia, by rw [seg_len hh]; have := h.most; lia, fun l hl => h.rows l (List.mem_of_mem_take (List.mem_of_mem_drop hl))⟩
theorem out_ok : ev Γ (.and (.cmp .IsNot (n_2 q_3 (.lit .none))) (.not (.chain (n_2 q_1 q_3) .LtE .Lt q_2))) (oS ch lo hi x y z a rows b es m e) = .ok [bV (Out' ch lo hi)] (oS ch lo hi x y z a rows b es m e) := by
 cases ch with
 | none => exact ev_and (x := false) (y := false) rfl fun q => nomatch q
 | some r =>
  refine (ev_and (x := true) (y := !(decide ((lo : Int) ≤ r) && decide ((r : Int) < hi))) rfl fun _ => ev_not (ev_chain (u := .int lo) (v := .int r) (w := .int hi) rfl rfl rfl rfl)).trans ?_
  rw [Bool.true_and, Bool.not_and]
  have h1 : (!decide ((lo : Int) ≤ r)) = decide (r < lo) := by by_cases h : r < lo <;> simp [h] <;> lia
  have h2 : (!decide ((r : Int) < hi)) = decide (hi ≤ r) := by by_cases h : hi ≤ r <;> simp [h] <;> lia
  rw [h1, h2]; rfl
theorem fin_ok (hz : es.length ≤ 10000) : ex Γ (.seq (.setkey (.fld 0 3) (.op .tup (n_2 q_1 q_2)) q_4) (.seq (.ret q_4) .nil)) (oS ch lo hi (some (.val (encR (rd (seg rows lo hi))))) y z a rows b es m e) = .ok (.ret (.val (encR (rd (seg rows lo hi))))) (oS ch lo hi (some (.val (encR (rd (seg rows lo hi))))) y z a rows b (putF es [lo, hi] (encR (rd (seg rows lo hi)))) m e) :=
 (ex_next (ex_setkey (kd := .tuple [.int lo, .int hi]) (q := [lo, hi]) rfl rfl rfl rfl (okLen_of (by lia)) rfl)).trans (ex_done (ret_val rfl))
theorem join_out {k : Nat} (ho : Out' ch lo hi = true) (hp : Pre rows es ch k lo hi) (hl : lo < hi) : ∃ es', Jn rows ch k lo hi es es' ∧ M Γ m_join_over [pS a (rows.map encP) b es m e] [.pg 0, .val (.int lo), .val (.int hi), .val (chD ch)] = .ret (.val (encR (rd (seg rows lo hi)))) [pS a (rows.map encP) b es' (m + (cnt ch k lo hi : Nat)) e] := by
 have hk : Kn rows es k lo hi := by
  cases k with
  | zero => exact hp ho
  | succ k => exact Eq.mp (if_pos ho) hp
 have hc : cnt ch k lo hi = 0 := by
  cases k with
  | zero => rfl
  | succ k => exact if_pos ho
 rw [hc, show m + ((0 : Nat) : Int) = m from Int.add_zero m]
 have e0 : ev Γ _ (oS ch lo hi none none none a rows b es m e) = _ := out_ok
 rw [ho] at e0
 exact ⟨es, ⟨by lia, hk, Same.refl⟩, run_of rfl (ex_done ((ex_then e0).trans (ex_done (ret_val (pk_key (et := es) (kd := .tuple [.int lo, .int hi]) (q := [lo, hi]) rfl rfl rfl hk.root)))))⟩
theorem not_two (lo : Nat) : ¬ 2 ≤ lo + 1 - lo := by lia
theorem one_i (lo : Nat) : ((((lo + 1 : Nat) : Int) - lo) == 1) = true := beq_iff_eq.mpr (by lia)
theorem len_one {a b lo : Nat} (h : a ≤ b + 1) : a + 1 ≤ b + 2 * (lo + 1 - lo) := by lia
theorem join_one {k : Nat} (h8 : Sp8 Γ) (h : OkText rows) (ho : Out' ch lo hi = false) (h1 : hi = lo + 1) (hh : hi ≤ rows.length) (hz : es.length ≤ 9998) : ∃ es', Jn rows ch k lo hi es es' ∧ M Γ m_join_over [pS a (rows.map encP) b es m e] [.pg 0, .val (.int lo), .val (.int hi), .val (chD ch)] = .ret (.val (encR (rd (seg rows lo hi)))) [pS a (rows.map encP) b es' (m + (cnt ch k lo hi : Nat)) e] := by
 subst h1
 have hc : cnt ch k lo (lo + 1) = 0 := by
  cases k with
  | zero => rfl
  | succ k => exact (if_neg (by rw [ho]; exact Bool.false_ne_true)).trans (if_neg (not_two lo))
 rw [hc, show m + ((0 : Nat) : Int) = m by lia]
 have e0 : ev Γ _ (oS ch lo (lo + 1) none none none a rows b es m e) = _ := out_ok
 rw [ho] at e0
 have hlt : lo < rows.length := hh
 have hc : ev Γ (.cmp .Eq (n_2 (bS_ q_2 q_1) l_1)) (oS ch lo (lo + 1) none none none a rows b es m e) = .ok [bV ((((lo + 1 : Nat) : Int) - lo) == 1)] (oS ch lo (lo + 1) none none none a rows b es m e) := rfl
 rw [one_i] at hc
 have e1 : ev Γ (.peek .idx (.fld 0 1) (n_1 q_1)) (oS ch lo (lo + 1) none none none a rows b es m e) = .ok [.val (encP rows[lo])] (oS ch lo (lo + 1) none none none a rows b es m e) := pk_idx (f := .own (rows.map encP)) (m := lo) rfl rfl rfl (by
  have := h.most
  rw [at_of (by rw [lmp]; exact big this) (Int.natCast_nonneg _) (by rw [lmp]; exact Int.ofNat_lt.mpr hlt), Int.toNat_natCast, List.getElem?_map, geg hlt]; rfl)
 have e2 : ex Γ (.assign (.loc 4) (.call true 8 (n_1 (.peek .idx (.fld 0 1) (n_1 q_1))))) (oS ch lo (lo + 1) none none none a rows b es m e) = .ok .next (oS ch lo (lo + 1) (some (.val (encR (rd (seg rows lo (lo + 1)))))) none none a rows b es m e) := (ex_assign (ev_fn (f := .val (encR (rd (seg rows lo (lo + 1))))) (fs := [.val (encP rows[lo])]) (ev_cons (b := .nil) e1 rfl) rfl ((row_read h8 (h.rows _ (List.getElem_mem hlt))).trans (by rw [seg_one hlt, rd_one])))).trans rfl
 exact ⟨_, ⟨len_one (put_len es [lo, (lo + 1 : Nat)] (encR (rd (seg rows lo (lo + 1))))), by
  cases k with
  | zero => exact At.new
  | succ k => exact ⟨At.new, fun q => absurd q (not_two lo)⟩, Same.refl.put⟩, run_of rfl ((ex_skip e0).trans ((ex_next ((ex_then hc).trans ((ex_next e2).trans rfl))).trans (fin_ok (big hz))))⟩
theorem half_up {n b : Nat} (h : n ≤ b * 2) : n - n / 2 ≤ b := by lia
theorem mid {lo hi k n : Nat} (h1 : 2 ≤ hi - lo) (hk : hi - lo ≤ 2 ^ (k + 1)) (hh : hi ≤ n) : (lo < lo + (hi - lo) / 2 ∧ lo + (hi - lo) / 2 < hi) ∧ lo + (hi - lo) / 2 - lo ≤ 2 ^ k ∧ hi - (lo + (hi - lo) / 2) ≤ 2 ^ k ∧ lo + (hi - lo) / 2 ≤ n := by
 rw [Nat.pow_succ] at hk
 refine ⟨mid_2 h1, ?_, ?_, nlt (Nat.le_of_lt (mid_2 h1).2) hh⟩
 · rw [Nat.add_sub_cancel_left]; exact Nat.div_le_of_le_mul (by rw [Nat.mul_comm]; exact hk)
 · rw [Nat.sub_add_eq]; exact half_up hk
theorem mid_i {lo hi : Nat} (h : lo < hi) : ((lo : Int) + ((hi : Int) - lo).fdiv 2) = (lo + (hi - lo) / 2 : Nat) := by rw [show ((hi : Int) - lo).fdiv 2 = (((hi - lo) / 2 : Nat) : Int) by rw [Int.fdiv_eq_ediv_of_nonneg _ (by decide)]; lia]; lia
theorem len_sp {lo mi hi : Nat} (h : lo < mi ∧ mi < hi) : hi - lo = hi - mi + (mi - lo) := (Nat.sub_add_sub_cancel (Nat.le_of_lt h.2) (Nat.le_of_lt h.1)).symm
theorem two_sp {a x y : Nat} : a + 2 * (x + y) = a + 2 * y + 2 * x := by rw [Nat.mul_add, Nat.add_comm (2 * x), Nat.add_assoc]
theorem len_a {a b lo mi hi : Nat} (h : lo < mi ∧ mi < hi) (hz : a + 2 * (hi - lo) ≤ 10000) (h1 : b + 1 ≤ a + 2 * (mi - lo)) : b + 2 * (hi - mi) ≤ 10000 ∧ a + 2 * (mi - lo) ≤ 10000 := by
 rw [len_sp h, two_sp] at hz
 exact ⟨nlt (Nat.add_le_add_right (Nat.le_of_succ_le h1) _) hz, nlt (Nat.le_add_right _ _) hz⟩
theorem len_b {a b c d lo mi hi : Nat} (h : lo < mi ∧ mi < hi) (hz : a + 2 * (hi - lo) ≤ 10000) (h1 : b + 1 ≤ a + 2 * (mi - lo)) (h2 : c + 1 ≤ b + 2 * (hi - mi)) (h3 : d ≤ c + 1) : d + 1 ≤ a + 2 * (hi - lo) ∧ c ≤ 10000 := by
 rw [len_sp h, two_sp] at hz ⊢
 have e : b + 2 * (hi - mi) + 1 ≤ a + 2 * (mi - lo) + 2 * (hi - mi) := by rw [Nat.add_right_comm]; exact Nat.add_le_add_right h1 _
 have e2 : c + 1 + 1 ≤ a + 2 * (mi - lo) + 2 * (hi - mi) := nlt (Nat.succ_le_succ h2) e
 exact ⟨nlt (Nat.succ_le_succ h3) e2, nlt (Nat.le_of_succ_le (Nat.le_of_succ_le e2)) hz⟩
theorem len_c {a lo mi hi : Nat} (h : lo < mi ∧ mi < hi) (hz : a + 2 * (hi - lo) ≤ 10000) : a + 2 * (mi - lo) ≤ 10000 ∧ hi - lo > mi - lo ∧ hi - lo > hi - mi := by
 rw [len_sp h, two_sp] at hz
 rw [len_sp h]
 exact ⟨nlt (Nat.le_add_right _ _) hz, Nat.lt_add_of_pos_left (Nat.sub_pos_of_lt h.2), Nat.lt_add_of_pos_right (Nat.sub_pos_of_lt h.1)⟩
theorem ne_one {lo hi : Nat} (h : 2 ≤ hi - lo) : (((hi : Int) - lo) == 1) = false := bfi fun q => by have := eq_of_beq q; lia
theorem sub_i {lo hi : Nat} (h : lo < hi) : ((hi - lo : Nat) : Int) = (hi : Int) - lo := by lia
theorem add_i (m : Int) (a b : Nat) : m + ((a + b + 1 : Nat) : Int) = m + (a : Nat) + (b : Nat) + 1 := by lia
theorem join_two {k : Nat} (h9 : Sp9 Γ) (h : OkText rows) (ih : J k Γ rows) (ho : Out' ch lo hi = false) (h1 : 2 ≤ hi - lo) (hk : hi - lo ≤ 2 ^ (k + 1)) (hh : hi ≤ rows.length) (hz : es.length + 2 * (hi - lo) ≤ 10000) (hp : Pre rows es ch (k + 1) lo hi) : ∃ es', Jn rows ch (k + 1) lo hi es es' ∧ M Γ m_join_over [pS a (rows.map encP) b es m e] [.pg 0, .val (.int lo), .val (.int hi), .val (chD ch)] = .ret (.val (encR (rd (seg rows lo hi)))) [pS a (rows.map encP) b es' (m + (cnt ch (k + 1) lo hi : Nat)) e] := by
 have e0 : ev Γ _ (oS ch lo hi none none none a rows b es m e) = _ := out_ok
 rw [ho] at e0
 have hc : ev Γ (.cmp .Eq (n_2 (bS_ q_2 q_1) l_1)) (oS ch lo hi none none none a rows b es m e) = .ok [bV (((hi : Int) - lo) == 1)] (oS ch lo hi none none none a rows b es m e) := rfl
 rw [ne_one h1] at hc
 change @ite _ _ _ _ _ at hp
 rw [if_neg (by rw [ho]; exact Bool.false_ne_true)] at hp
 have hp := hp h1
 have hcn : cnt ch (k + 1) lo hi = cnt ch k lo (lo + (hi - lo) / 2) + cnt ch k (lo + (hi - lo) / 2) hi + 1 := by
  rw [show cnt ch (k + 1) lo hi = if Out' ch lo hi then 0 else if 2 ≤ hi - lo then cnt ch k lo (lo + (hi - lo) / 2) + cnt ch k (lo + (hi - lo) / 2) hi + 1 else 0 from rfl, if_neg (by rw [ho]; exact Bool.false_ne_true), if_pos h1]
 have hd := mid_i (lo := lo) (hi := hi) (Nat.lt_of_sub_pos (Nat.lt_of_lt_of_le (by decide) h1))
 have hkn : ∀ {es' : Es}, Kn rows es' (k + 1) lo hi ↔ (At rows es' lo hi ∧ (2 ≤ hi - lo → Kn rows es' k lo (lo + (hi - lo) / 2) ∧ Kn rows es' k (lo + (hi - lo) / 2) hi)) := Iff.rfl
 have hq := mid h1 hk hh
 generalize lo + (hi - lo) / 2 = mi at hp hcn hd hkn hq
 obtain ⟨hm, ka, kb, kc⟩ := hq
 have lc := len_c hm hz
 obtain ⟨es1, l1, g1⟩ := ih ch lo mi hm.1 ka kc a b e es m lc.1 hp.1
 obtain ⟨es2, l2, g2⟩ := ih ch mi hi hm.2 kb hh a b e es1 (m + (cnt ch k lo mi : Nat)) (len_a hm hz l1.len).1 (hp.2.same l1.same (.inl (Nat.le_refl _)) hm.2)
 have lb := len_b hm hz l1.len l2.len (put_len es2 [lo, hi] (encR (rd (seg rows lo hi))))
 have e1 : ex Γ (.assign (.loc 5) (bA q_1 (bF (bS_ q_2 q_1) l_2))) (oS ch lo hi none none none a rows b es m e) = .ok .next (oS ch lo hi none (sI mi) none a rows b es m e) := by rw [← hd]; rfl
 have e2 : ex Γ (.assign (.loc 6) (.meth 16 q_0 (n_3 q_1 q_5 q_3))) (oS ch lo hi none (sI mi) none a rows b es m e) = .ok .next (oS ch lo hi none (sI mi) (some (.val (encR (rd (seg rows lo mi))))) a rows b es1 (m + (cnt ch k lo mi : Nat)) e) := (ex_assign (ev_meth (n := 0) (ys := [.val (.int lo), .val (.int mi), .val (chD ch)]) rfl rfl rfl g1)).trans rfl
 have s1 : (rd (seg rows lo mi)).sz + (rd (seg rows mi hi)).sz ≤ 8000 + 8000 := Nat.add_le_add (rd_sz (seg_text h hm.1 kc)) (rd_sz (seg_text h hm.2 hh))
 have hj := h9 (rd (seg rows lo mi)) (rd (seg rows mi hi)) (mi - lo) (run_cl .nil (fun m hm => nomatch hm) _) (nlt s1 (by decide))
 rw [← seg_len (lo := lo) kc, rd_join, seg_cat (Nat.le_of_lt hm.1) (Nat.le_of_lt hm.2), seg_len (lo := lo) kc] at hj
 have e3 : ex Γ (.assign (.loc 4) (.call true 9 (n_3 q_6 (.meth 16 q_0 (n_3 q_5 q_2 q_3)) (bS_ q_5 q_1)))) (oS ch lo hi none (sI mi) (some (.val (encR (rd (seg rows lo mi))))) a rows b es1 (m + (cnt ch k lo mi : Nat)) e) = .ok .next (oS ch lo hi (some (.val (encR (rd (seg rows lo hi))))) (sI mi) (some (.val (encR (rd (seg rows lo mi))))) a rows b es2 (m + (cnt ch k lo mi : Nat) + (cnt ch k mi hi : Nat)) e) :=
  (ex_assign (ev_fn (fs := [.val (encR (rd (seg rows lo mi))), .val (encR (rd (seg rows mi hi))), .val (.int (mi - lo : Nat))]) (st1 := oS ch lo hi none (sI mi) (some (.val (encR (rd (seg rows lo mi))))) a rows b es2 (m + (cnt ch k lo mi : Nat) + (cnt ch k mi hi : Nat)) e) (ev_cons (f := .val (encR (rd (seg rows lo mi)))) rfl (ev_cons (f := .val (encR (rd (seg rows mi hi)))) (ev_meth (n := 0) (ys := [.val (.int mi), .val (.int hi), .val (chD ch)]) rfl rfl rfl g2) (ev_ci (i := (mi - lo : Nat)) (by rw [sub_i hm.1]; rfl) rfl))) rfl hj)).trans rfl
 rw [hcn, add_i]
 exact ⟨_, ⟨lb.1, hkn.mpr ⟨At.new, fun _ => ⟨(l1.kn.same l2.same (.inr (Nat.le_refl _)) hm.1).put lc.2.1, l2.kn.put lc.2.2⟩⟩, (Same.trans l1.same l2.same (Nat.le_refl _) (Nat.le_of_lt hm.2) (Nat.le_of_lt hm.1) (Nat.le_refl _)).put⟩, run_of rfl ((ex_skip e0).trans ((ex_next ((ex_else hc).trans ((ex_next e1).trans ((ex_next e2).trans ((ex_next e3).trans ((ex_next rfl).trans rfl)))))).trans (fin_ok lb.2)))⟩
theorem len_d {a lo hi : Nat} (h : hi = lo + 1) (hz : a + 2 * (hi - lo) ≤ 10000) : a ≤ 9998 := by lia
theorem J_of {Γ' : Nat → Fn} {k : Nat} (h8 : Sp8 Γ) (h9 : Sp9 Γ) (h : OkText rows) (ih : k ≠ 0 → J (k - 1) Γ rows) (hg : ∀ p fs, Γ' 16 p fs = M Γ m_join_over p fs) : J k Γ' rows := fun ch lo hi hl hk hh a b e es m hz hp => by
 rw [hg]
 cases ho : Out' ch lo hi with
 | true => exact join_out ho hp hl
 | false =>
  by_cases h1 : hi = lo + 1
  · exact join_one h8 h ho h1 hh (len_d h1 hz)
  · cases k with
    | zero => exact absurd hk (by simp; lia)
    | succ k => exact join_two h9 h (ih (Nat.succ_ne_zero k)) ho (by lia) hk hh hz hp
end
end Mine.Internal.S
end
section
namespace Mine.Internal
section
variable {Γ : Nat → Fn} {st st1 : St} {e ke : CE} {k : Nat} {p : Pl} {d : PyData} {xs ys : List PyData} {a : Nat}
theorem pk_set {m : Nat} (hv : ev Γ e st = .ok [.val d] st) (hs : getP st p = some (.own xs)) (hk : ev Γ ke st = .ok [.val (.int m)] st) (hz : okLen xs.length = true) (hm : m < xs.length) (hp : setP st (some (.own (xs.set m d))) p = some st1) : ex Γ (.setidx p ke e) st = .ok .next st1 := by
 show (ev Γ e st).bind _ = _
 rw [hv]
 show (if (getP st p).isSome then (ev Γ ke st).bind fun y st => setE p [.val d] y st else .stuck) = _
 rw [hs, hk]
 show nextO (((getP st p).bind ownOf).bind fun xs => (gd (okLen xs.length && decide (0 ≤ (m : Int) ∧ (m : Int) < xs.length)) ()).bind fun _ => setP st (some (.own (xs.set (m : Int).toNat d))) p) = _
 rw [hs]
 show nextO ((gd (okLen xs.length && decide (0 ≤ (m : Int) ∧ (m : Int) < xs.length)) ()).bind fun _ => setP st (some (.own (xs.set m d))) p) = _
 rw [hz, dtt (show 0 ≤ (m : Int) ∧ (m : Int) < xs.length by lia)]
 show nextO (setP st (some (.own (xs.set m d))) p) = _
 rw [hp]; rfl
theorem pk_app (hs : getP st p = some (.own xs)) (he : ev Γ e st = .ok [.val d] st) (hz : okLen xs.length = true) (hp : setP st (some (.own (xs ++ [d]))) p = some st1) : ex Γ (.append p e) st = .ok .next st1 := by
 show (if ((getP st p).bind ownOf).isSome then (ev Γ e st).bind fun x st => appE p x st else .stuck) = _
 rw [hs, he]
 show nextO (((getP st p).bind ownOf).bind fun xs => (gd (okLen xs.length) ()).bind fun _ => setP st (some (.own (xs ++ [d]))) p) = _
 rw [hs]
 show nextO ((gd (okLen xs.length) ()).bind fun _ => setP st (some (.own (xs ++ [d]))) p) = _
 rw [hz]
 show nextO (setP st (some (.own (xs ++ [d]))) p) = _
 rw [hp]; rfl
theorem lop_lo (hl : xs.length ≤ 100000) (ha : a ≤ 100000) : opE (.slc false true) [.val (.list xs), .val (.int a)] st = .ok [.own (xs.take a)] st := by
 show oneO ((none : Option F).or ((cutL xs none (some (.int a))).map F.own)) st = _
 unfold cutL lenL
 rw [okLen_of (by lia), show gd true xs.length = some xs.length from rfl, Option.bind_some, show bnd none 0 = some 0 from rfl, Option.bind_some, S.bnd_ok ha]; rfl
theorem lop_hi (hl : xs.length ≤ 100000) (ha : a ≤ 100000) : opE (.slc true false) [.val (.list xs), .val (.int a)] st = .ok [.own (xs.drop a)] st := by
 show oneO ((none : Option F).or ((cutL xs (some (.int a)) none).map F.own)) st = _
 unfold cutL lenL
 rw [okLen_of (by lia), show gd true xs.length = some xs.length from rfl, Option.bind_some, S.bnd_ok ha, Option.bind_some]
 show oneO ((none : Option F).or (some (F.own ((xs.take xs.length).drop a)))) st = _
 rw [List.take_length]; rfl
theorem lop_cat (h : xs.length + ys.length ≤ 200000) : opE (.bin .Add) [.val (.list xs), .val (.list ys)] st = .ok [.own (xs ++ ys)] st := by
 show oneO (((none : Option F).or none).or ((gd (okLen (xs.length + ys.length)) (F.own (xs ++ ys))).or none)) st = _
 rw [okLen_of h]; rfl
theorem lop_len (h : xs.length ≤ 200000) : opE .len [.val (.list xs)] st = .ok [.val (.int xs.length)] st := by
 show oneO (((((none : Option Nat).or (lenL xs)).or none)).map intV) st = _
 unfold lenL; rw [okLen_of h]; rfl
theorem lop_idx {n : Nat} (hz : xs.length ≤ 200000) (h : xs[n]? = some d) : opE .idx [.val (.list xs), .val (.int n)] st = .ok [.val d] st := by
 obtain ⟨hn, _⟩ := gsm h
 show oneO ((((none : Option PyData).or (atL xs n)).or none).map F.val) st = _
 rw [at_of hz (Int.natCast_nonneg _) (by lia), Int.toNat_natCast, h]; rfl
theorem range_a {b : Nat} (h0 : a ≤ 100000) (h : b ≤ 100000) : rangeF a b = some ((List.range (b - a)).map fun (k : Nat) => PyData.int (a + k : Nat)) := by
 unfold rangeF
 rw [okI h0, okI h, show ((b : Int) - a).toNat = b - a by lia, okLen_of (nlt (Nat.sub_le ..) (big h))]
 exact congrArg some (List.map_congr_left fun k _ => congrArg PyData.int (by lia))
end
end Mine.Internal
namespace Mine.Internal.S
noncomputable def encC (cts : List Nat) : List PyData := cts.map fun (n : Nat) => .int n
noncomputable def encK (ps : List (Nat × Nat)) : List PyData := ps.map fun q => .tuple [.int q.1, .int q.2]
noncomputable abbrev pP (rows : LL) (cts : List Nat) (es : Es) (m : Int) (ps : List (Nat × Nat)) : Slots := pS (some (.own (sRows rows))) (rows.map encP) (some (.own (encC cts))) es m (some (.own (encK ps)))
structure Pg (rows : LL) (cts : List Nat) (es : Es) : Prop where
 ok : OkText rows
 cl : cts.length = rows.length
 kn : Kn rows es 6 0 rows.length
section
variable {Γ : Nat → Fn} {rows : LL} {cts : List Nat} {es : Es} {m : Int} {ps : List (Nat × Nat)} {r : Nat} {ln : List Nat}
theorem pre_none : ∀ {k lo hi : Nat}, Pre rows es none k lo hi
 | 0, _, _ => fun h => nomatch h
 | k + 1, lo, hi => fun _ => ⟨pre_none, pre_none⟩
theorem seg_all : seg rows 0 rows.length = rows := by unfold seg; rw [List.take_length]; rfl
theorem join_all_ok {b e : Option F} (hJ : J 6 Γ rows) (h : OkText rows) : ∃ es', es'.length ≤ 128 ∧ Kn rows es' 6 0 rows.length ∧ M Γ m_join_all [pS (some (.own (sRows rows))) (rows.map encP) b es m e] [.pg 0] = .ret (.val .none) [pS (some (.own (sRows rows))) (rows.map encP) b es' (m + (cnt none 6 0 rows.length : Nat)) e] := by
 have hm := h.most
 obtain ⟨es', l, g⟩ := hJ none 0 rows.length h.one (by show _ ≤ 64; lia) (Nat.le_refl _) (some (.own (sRows rows))) b e [] m (by simp; lia) pre_none
 refine ⟨es', by have := l.len; simp at this; lia, l.kn, run_none rfl ((ex_next rfl).trans ((ex_next (ex_drop (ev_meth (n := 0) (ys := [.val (.int 0), .val (.int rows.length), .val .none]) rfl (ev_ci (i := 0) rfl (ev_ci (i := rows.length) ((pk_len (f := .own (sRows rows)) rfl rfl (okLen_of (by rw [sRows_len]; lia))).trans (by rw [sRows_len])) rfl)) rfl g))).trans rfl))⟩
noncomputable def Sp15 (Γ : Nat → Fn) : Prop := ∀ rows, OkText rows → ∀ b es m e, ∃ es', es'.length ≤ 128 ∧ Kn rows es' 6 0 rows.length ∧ Γ 15 [pS (some (.own (sRows rows))) (rows.map encP) b es m e] [.pg 0] = .ret (.val .none) [pS (some (.own (sRows rows))) (rows.map encP) b es' (m + (cnt none 6 0 rows.length : Nat)) e]
theorem init_ok (h3 : Sp3 Γ) (h5 : Sp5 Γ) (h15 : Sp15 Γ) (h : OkText rows) : ∃ es', es'.length ≤ 128 ∧ Pg rows (rows.map fun _ => 1) es' ∧ M Γ m_init [List.replicate 6 none] [.pg 0, .val (.list (sRows rows))] = .ret (.val .none) [pP rows (rows.map fun _ => 1) es' (cnt none 6 0 rows.length : Nat) []] := by
 have hz : okLen (sRows rows).length = true := okLen_of (by rw [sRows_len]; have hm := h.most; lia)
 obtain ⟨es', l, kn, g⟩ := h15 rows h (some (.own (rows.map fun _ => .int 1))) [] 0 (some (.own []))
 rw [Int.zero_add] at g
 have it : ∀ {pp : List Slots} {v : F}, ((ev Γ (.lend 1) ⟨[some v, some (vR rows)], pp, 0⟩).bind (itE 0)) = .ok (sRows rows) ⟨[some v, some (vR rows)], pp, 0⟩ := fun {pp v} => it_of (fs := [.lnd 1]) rfl (by
  show (((none : Option (List PyData)).or (gd (okLen (sRows rows).length) (sRows rows))).or none) = _
  rw [hz]; rfl)
 have e1 := ev_not (x := true) (ev_fn (Γ := Γ) (k := 3) (es := .cons (.lend 1) .nil) (st := ⟨[some (.pg 0), some (vR rows)], [List.replicate 6 none], 0⟩) (st1 := ⟨[some (.pg 0), some (vR rows)], [List.replicate 6 none], 0⟩) (fs := [.lnd 1]) (ys := [.val (.list (sRows rows))]) rfl rfl ((h3 _ hz h.like).trans (by rw [text_of h]; rfl)))
 have e2 : ∀ {pp : List Slots}, ev Γ (.comp 2 0 (.lend 1) (.call true 5 (n_1 q_2)) .nil) ⟨[some (.pg 0), some (vR rows)], pp, 0⟩ = .ok [.own (rows.map encP)] ⟨[some (.pg 0), some (vR rows)], pp, 0⟩ := fun {pp} => (ev_comp (g := fun d => match asS d with | some x => encP (cs x) | none => d) it (fun d hd => by
  obtain ⟨l, hl, rfl⟩ := List.mem_map.mp hd
  exact ev_fn (fs := [.val (strD l)]) (ev_cs (l := l) rfl rfl) rfl (h5 l (nlt (okLine_len (h.rows l hl)) (by decide)))) hz rfl).trans (by unfold sRows; rw [List.map_map]; rfl)
 have e3 : ∀ {pp : List Slots}, ev Γ (.comp 2 0 (.lend 1) l_1 .nil) ⟨[some (.pg 0), some (vR rows)], pp, 0⟩ = .ok [.own (rows.map fun _ => .int 1)] ⟨[some (.pg 0), some (vR rows)], pp, 0⟩ := fun {pp} => (ev_comp (g := fun _ => .int 1) it (fun d hd => rfl) hz rfl).trans (by unfold sRows; rw [List.map_map]; rfl)
 have hc : encC (rows.map fun _ => 1) = rows.map fun _ => .int 1 := by unfold encC; rw [List.map_map]; rfl
 refine ⟨es', l, ⟨h, lmp .., kn⟩, ?_⟩
 show _ = Out.ret _ [pS _ _ (some (.own (encC _))) _ _ _]
 rw [hc]
 exact run_none rfl ((ex_skip e1).trans ((ex_next ((ex_assign (pk_copy (f := .val (.list (sRows rows))) rfl rfl hz)).trans rfl)).trans ((ex_next ((ex_assign e2).trans rfl)).trans ((ex_next ((ex_assign e3).trans rfl)).trans ((ex_next rfl).trans ((ex_next rfl).trans ((ex_next rfl).trans ((ex_next (ex_drop (ev_meth (n := 0) (ys := []) rfl rfl rfl g))).trans rfl))))))))
theorem text_m_ok (h : OkText rows) : M Γ m_text [pP rows cts es m ps] [.pg 0] = .ret (.own (sRows rows)) [pP rows cts es m ps] :=
 run_of rfl (ex_done (ret_own (pk_copy (f := .own (sRows rows)) rfl rfl (okLen_of (by rw [sRows_len]; have := h.most; lia)))))
theorem fault_m_ok (h10 : Sp10 Γ) (h : Pg rows cts es) : M Γ m_fault [pP rows cts es m ps] [.pg 0] = .ret (.val (encFa (faultR (rd rows)))) [pP rows cts es m ps] := by
 have hk : keyF es [(0 : Nat), rows.length] = some (encR (rd rows)) := (h.kn.root).trans (by rw [seg_all])
 have e1 : ev Γ (.peek .key (.fld 0 3) (n_1 (.op .tup (n_2 l_0 (.peek .len (.fld 0 0) .nil))))) ⟨[some (.pg 0)], [pP rows cts es m ps], 0⟩ = .ok [.val (encR (rd rows))] ⟨[some (.pg 0)], [pP rows cts es m ps], 0⟩ :=
  pk_key (et := es) (kd := .tuple [.int 0, .int rows.length]) (q := [(0 : Nat), rows.length]) rfl (ev_cons (f := .val (.tuple [.int 0, .int rows.length])) ((ev_op (ev_ci (i := 0) rfl (ev_ci (i := rows.length) ((pk_len (f := .own (sRows rows)) rfl rfl (okLen_of (by rw [sRows_len]; have := h.ok.most; lia))).trans (by rw [sRows_len])) rfl))).trans rfl) rfl) rfl hk
 exact run_of rfl (ex_done (ret_val (ev_fn (fs := [.val (encR (rd rows))]) (ev_cons (f := .val (encR (rd rows))) e1 rfl) rfl (h10 (rd rows) (nlt (rd_sz h.ok) (by decide))))))
theorem seg_set {x : List Nat} {lo hi : Nat} (h : r < lo ∨ hi ≤ r) : seg (rows.set r x) lo hi = seg rows lo hi := by
 unfold seg
 rw [List.take_set, List.drop_set]
 rcases h with h | h
 · rw [if_pos h]
 · split
   · rfl
   · exact List.set_eq_of_length_le (by rw [List.length_drop, List.length_take]; exact Nat.sub_le_sub_right (nlt (Nat.min_le_left ..) h) lo)
theorem Kn.set {x : List Nat} : ∀ {k lo hi : Nat}, lo < hi → (r < lo ∨ hi ≤ r) → Kn rows es k lo hi → Kn (rows.set r x) es k lo hi
 | 0, lo, hi, hl, ho, h => by change keyF _ _ = _ at h ⊢; rw [seg_set ho]; exact h
 | k + 1, lo, hi, hl, ho, h => ⟨by have := h.1; unfold At at this ⊢; rw [seg_set ho]; exact this, fun h2 => ⟨Kn.set (mid_out (y := r + 1) ho hl h2).1.2 (mid_out (y := r + 1) ho hl h2).1.1 (h.2 h2).1, Kn.set (mid_out (y := r + 1) ho hl h2).2.2 (mid_out (y := r + 1) ho hl h2).2.1 (h.2 h2).2⟩⟩
theorem out_some {lo hi : Nat} : Out' (some r) lo hi = true ↔ (r < lo ∨ hi ≤ r) := by unfold Out'; rw [Bool.or_eq_true, decide_eq_true_iff, decide_eq_true_iff]
theorem Kn.pre {x : List Nat} : ∀ {k lo hi : Nat}, lo < hi → Kn rows es k lo hi → Pre (rows.set r x) es (some r) k lo hi
 | 0, lo, hi, hl, h => fun ho => Kn.set hl (out_some.mp ho) h
 | k + 1, lo, hi, hl, h => by
  change @ite _ _ _ _ _
  split
  · rename_i ho; exact Kn.set hl (out_some.mp ho) h
  · exact fun h2 => ⟨Kn.pre (mid_2 h2).1 (h.2 h2).1, Kn.pre (mid_2 h2).2 (h.2 h2).2⟩
theorem OkText.set (h : OkText rows) (hl : okLine ln = true) : OkText (rows.set r ln) := ⟨by rw [List.length_set]; exact h.one, by rw [List.length_set]; exact h.most, fun l hm => by
 rcases List.mem_or_eq_of_mem_set hm with q | q
 · exact h.rows l q
 · rw [q]; exact hl⟩
end
end Mine.Internal.S
end
section
namespace Mine.Internal.S
noncomputable def dM : List Mk → Nat → Option Nat
 | [], d => some d
 | m :: ms, d => if isCl m.1 then (if d = 0 then none else dM ms (d - 1)) else dM ms (d + 1)
theorem dM_c {m : Mk} {ms : List Mk} {d : Nat} : dM (m :: ms) d = if isCl m.1 then (if d = 0 then none else dM ms (d - 1)) else dM ms (d + 1) := rfl
theorem dM_append : ∀ (a b : List Mk) (d : Nat), dM (a ++ b) d = (dM a d).bind (dM b)
 | [], b, d => rfl
 | m :: a, b, d => by
  rw [List.cons_append, dM_c, dM_c]
  by_cases hc : isCl m.1 = true
  · rw [if_pos hc, if_pos hc]
    by_cases h0 : d = 0
    · rw [if_pos h0, if_pos h0]; rfl
    · rw [if_neg h0, if_neg h0]; exact dM_append a b (d - 1)
  · rw [if_neg hc, if_neg hc]; exact dM_append a b (d + 1)
theorem dM_low (n : Nat) : ∀ (a : List Mk) (d : Nat), dM (a.map (low n)) d = dM a d
 | [], d => rfl
 | m :: a, d => by
  rw [List.map_cons, dM_c, dM_c]
  by_cases hc : isCl m.1 = true
  · rw [if_pos (show isCl (low n m).1 = true from hc), if_pos hc]
    by_cases h0 : d = 0
    · rw [if_pos h0, if_pos h0]
    · rw [if_neg h0, if_neg h0]; exact dM_low n a (d - 1)
  · rw [if_neg (show ¬ isCl (low n m).1 = true from hc), if_neg hc]; exact dM_low n a (d + 1)
theorem lf_dM : ∀ (ms wt wt' : List Mk), lf ms wt = .inr wt' → dM ms wt.length = some wt'.length
 | [], wt, wt', h => by cases h; rfl
 | m :: ms, wt, wt', h => by
  rw [lf_c] at h
  rw [dM_c]
  by_cases hc : isCl m.1 = true
  · rw [if_pos hc] at h ⊢
    cases hl : wt.getLast? with
    | none => rw [hl] at h; cases h
    | some t =>
     rw [hl] at h
     obtain ⟨ws, rfl⟩ := List.getLast?_eq_some_iff.mp hl
     dsimp only at h
     by_cases ho : t.1 = opOf m.1
     · rw [if_pos ho, List.dropLast_concat] at h
       rw [lap, if_neg (show ¬ ws.length + [t].length = 0 from Nat.succ_ne_zero _)]
       exact lf_dM ms ws wt' h
     · rw [if_neg ho] at h; cases h
  · rw [if_neg hc] at h ⊢
    have := lf_dM ms _ wt' h
    rwa [lap] at this
theorem lf_inl : ∀ (ms wt : List Mk), lf ms wt ≠ .inl .ok
 | [], wt => fun h => nomatch h
 | m :: ms, wt => fun h => by
  rw [lf_c] at h
  by_cases hc : isCl m.1 = true
  · rw [if_pos hc] at h
    cases hl : wt.getLast? with
    | none => rw [hl] at h; cases h
    | some t =>
     rw [hl] at h
     dsimp only at h
     by_cases ho : t.1 = opOf m.1
     · rw [if_pos ho] at h; exact lf_inl ms _ h
     · rw [if_neg ho] at h; cases h
  · rw [if_neg hc] at h; exact lf_inl ms _ h
structure TI (Fd : List (List PyData)) (w : List Nat) : Prop where
 six : ∀ x ∈ Fd, x.length = 6
 lt : ∀ a ∈ w, a < Fd.length
 le : w.length ≤ Fd.length
noncomputable def encF (Fd : List (List PyData)) : List PyData := Fd.map .tuple
noncomputable def encW (w : List Nat) : List PyData := w.map fun (n : Nat) => .int n
theorem encF_len (Fd : List (List PyData)) : (encF Fd).length = Fd.length := lmp ..
theorem encW_len (w : List Nat) : (encW w).length = w.length := lmp ..
theorem encF_app (a : List (List PyData)) (x : List PyData) : encF a ++ [.tuple x] = encF (a ++ [x]) := by unfold encF; rw [List.map_append]; rfl
theorem encW_app (a : List Nat) (x : Nat) : encW a ++ [.int x] = encW (a ++ [x]) := by unfold encW; rw [List.map_append]; rfl
theorem TI.word {Fd : List (List PyData)} {w : List Nat} {x : List PyData} (h : TI Fd w) (hx : x.length = 6) : TI (Fd ++ [x]) w := ⟨fun y hy => by
 rcases List.mem_append.mp hy with hy | hy
 · exact h.six y hy
 · rw [lsm hy]; exact hx, fun a ha => by rw [lap]; exact Nat.lt_succ_of_lt (h.lt a ha), by rw [lap]; exact Nat.le_succ_of_le h.le⟩
theorem TI.opn {Fd : List (List PyData)} {w : List Nat} {x : List PyData} (h : TI Fd w) (hx : x.length = 6) : TI (Fd ++ [x]) (w ++ [Fd.length]) := ⟨(h.word hx).six, fun a ha => by
 rcases List.mem_append.mp ha with ha | ha
 · exact (h.word hx).lt a ha
 · rw [lsm ha, lap]; exact Nat.lt_succ_self _, by rw [lap, lap]; exact Nat.succ_le_succ h.le⟩
theorem TI.cls {Fd : List (List PyData)} {w : List Nat} {a : Nat} {x : List PyData} (h : TI Fd (w ++ [a])) (hx : x.length = 6) : TI (Fd.set a x) w := ⟨fun y hy => by
 rcases List.mem_or_eq_of_mem_set hy with hy | rfl
 · exact h.six y hy
 · exact hx, fun b hb => by rw [List.length_set]; exact h.lt b (List.mem_append_left _ hb), by rw [List.length_set]; have := h.le; rw [lap] at this; exact Nat.le_of_succ_le this⟩
noncomputable abbrev trS (P0 : F) (Fd : List (List PyData)) (w : List Nat) (r : Nat) (a4 : Option F) (p : Option F) (x : Option F) (q : Option F) (a8 : Option F) : St := ⟨[some P0, some (.own (encF Fd)), some (.own (encW w)), some (.val (.int r)), a4, p, x, q, a8], [], 0⟩
section
variable {Γ : Nat → Fn} {P0 : F} {Fd : List (List PyData)} {w : List Nat} {r p q : Nat} {a4 a8 : Option F} {d : PyData}
theorem open_word {l : List Nat} (h : ∀ c ∈ l, isBr c = false) : openF (S l) = none := by
 unfold openF
 have n : ∀ c, isBr c = true → cs (S l) ≠ [c] := fun c hc e => by
  have : l = [c] := e
  rw [this] at h
  have := h c (.head _)
  rw [hc] at this; cases this
 rw [if_neg (n 41 (isBr_is 41)), if_neg (n 93 (isBr_is 93)), if_neg (n 125 (isBr_is 125))]
theorem new_ok (hz : Fd.length ≤ 90000) (hw : w.length ≤ Fd.length) : ex Γ (.append (.loc 1) (.op .tup (n_6 (.peek .len (.loc 2) .nil) q_6 q_3 q_5 q_3 q_7))) (trS P0 Fd w r a4 (sI p) (some (.val d)) (sI q) a8) = .ok .next (trS P0 (Fd ++ [[.int w.length, d, .int r, .int p, .int r, .int q]]) w r a4 (sI p) (some (.val d)) (sI q) a8) :=
 (ex_append (xs := encF Fd) (d := .tuple [.int w.length, d, .int r, .int p, .int r, .int q]) rfl (okLen_of (by rw [encF_len]; exact big hz)) ((ev_op (fs := [.val (.int w.length), .val d, .val (.int r), .val (.int p), .val (.int r), .val (.int q)]) (ev_ci (i := w.length) ((ev_plen (f := .own (encW w)) rfl rfl (okLen_of (by rw [encW_len]; exact nlt hw (big hz)))).trans (by rw [encW_len])) rfl)).trans rfl) (show 1 < 9 by decide)).trans (by rw [encF_app]; rfl)
theorem add1 (a b : Nat) : a + 1 + b = a + (b + 1) := by rw [Nat.add_assoc, Nat.add_comm 1]
theorem sub1 (n : Nat) : ((n + 1 : Nat) : Int) - 1 = n := by lia
noncomputable def stT (r : Nat) (s : List (List PyData) × List Nat) : Tk → List (List PyData) × List Nat
 | .word p l q => (s.1 ++ [[.int s.2.length, strD l, .int r, .int p, .int r, .int q]], s.2)
 | .br p k => if isCl k then (s.1.set (s.2.getLast?.getD 0) ((s.1[s.2.getLast?.getD 0]?.getD []).take 4 ++ [.int r, .int (p + 1 : Nat)]), s.2.dropLast) else (s.1 ++ [[.int s.2.length, sgn k, .int r, .int p, .int r, .int (p + 1 : Nat)]], s.2 ++ [s.1.length])
theorem stT_cl {Fd : List (List PyData)} {ws : List Nat} {a r p k : Nat} (hc : isCl k = true) (ha : a < Fd.length) : stT r (Fd, ws ++ [a]) (.br p k) = (Fd.set a (Fd[a].take 4 ++ [.int r, .int (p + 1 : Nat)]), ws) := by
 show (if isCl k then _ else _) = _
 rw [if_pos hc, List.getLast?_concat, List.dropLast_concat, Option.getD_some, geg ha, Option.getD_some]
theorem stT_op {Fd : List (List PyData)} {w : List Nat} {r p k : Nat} (hc : isCl k = false) : stT r (Fd, w) (.br p k) = (Fd ++ [[.int w.length, sgn k, .int r, .int p, .int r, .int (p + 1 : Nat)]], w ++ [Fd.length]) := by
 show (if isCl k then _ else _) = _
 rw [if_neg (by rw [hc]; exact Bool.false_ne_true)]
noncomputable abbrev TrP (Γ : Nat → Fn) (P0 : F) (r : Nat) (a4 : Option F) (ts : List Tk) (Fd : List (List PyData)) (w : List Nat) (d' : Nat) (a5 a6 a7 a8 : Option F) (s : List (List PyData) × List Nat) : Prop := ∃ a5' a6' a7' a8', TI s.1 s.2 ∧ s.2.length = d' ∧ s.1.length ≤ Fd.length + ts.length ∧ forL (stepB Γ true [5, 6, 7] trB) (ts.map encT) (trS P0 Fd w r a4 a5 a6 a7 a8) = .ok .next (trS P0 s.1 s.2 r a4 a5' a6' a7' a8')
theorem tree_loop (h4 : Sp4 Γ) (P0 : F) (r : Nat) (a4 : Option F) : ∀ (ts : List Tk) (Fd : List (List PyData)) (w : List Nat) (d' : Nat) (a5 a6 a7 a8 : Option F), (∀ k ∈ ts, k.good) → TI Fd w → dM (marksT ts) w.length = some d' → Fd.length + ts.length ≤ 80000 →
  TrP Γ P0 r a4 ts Fd w d' a5 a6 a7 a8 (ts.foldl (stT r) (Fd, w))
 | [], Fd, w, d', a5, a6, a7, a8, _, h, hd, _ => ⟨a5, a6, a7, a8, h, Option.some.inj hd, Nat.le_refl _, rfl⟩
 | .word p l q :: ts, Fd, w, d', a5, a6, a7, a8, hg, h, hd, hz => by
  obtain ⟨h1, h2⟩ := hg _ (.head _)
  have hz : Fd.length + (ts.length + 1) ≤ 80000 := hz
  have hz0 : Fd.length ≤ 90000 := nlt (Nat.le_add_right _ _) (big hz)
  obtain ⟨b5, b6, b7, b8, i1, i2, i3, i4⟩ := tree_loop h4 P0 r a4 ts (Fd ++ [[.int w.length, strD l, .int r, .int p, .int r, .int q]]) w d' (sI p) (sT l) (sI q) a8 (fun k hk => hg k (.tail _ hk)) (h.word rfl) hd (by rw [lap]; exact (show Fd.length + 1 + ts.length ≤ 80000 by rw [Nat.add_assoc, Nat.add_comm 1]; exact hz))
  have e1 : ev Γ (.inOpen q_6) (trS P0 Fd w r a4 (sI p) (sT l) (sI q) a8) = .ok [bV false] (trS P0 Fd w r a4 (sI p) (sT l) (sI q) a8) := by
   show Mine.Internal.R.ok [bV (openF (S l)).isSome] _ = _
   rw [open_word h2]; rfl
  have e2 : ∀ {G : List (List PyData)}, ev Γ (.call true 4 (n_1 q_6)) (trS P0 G w r a4 (sI p) (sT l) (sI q) a8) = .ok [bV false] (trS P0 G w r a4 (sI p) (sT l) (sI q) a8) := fun {G} => ev_fn (fs := [.val (strD l)]) (ev_cs (l := l) rfl rfl) rfl (h4.2 l h1 h2)
  exact ⟨b5, b6, b7, b8, i1, i2, by rw [lap] at i3; exact nlt i3 (Nat.le_of_eq (add1 Fd.length ts.length)), (for_next ((step_of rfl).trans ((ex_next ((ex_else e1).trans ((ex_next (new_ok hz0 h.le)).trans ((ex_skip e2).trans rfl)))).trans rfl))).trans i4⟩
 | .br p k :: ts, Fd, w, d', a5, a6, a7, a8, hg, h, hd, hz => by
  have hb : isBr k = true := hg _ (.head _)
  have hz : Fd.length + (ts.length + 1) ≤ 80000 := hz
  have hz0 : Fd.length ≤ 90000 := nlt (Nat.le_add_right _ _) (big hz)
  have e1 : ev Γ (.inOpen q_6) (trS P0 Fd w r a4 (sI p) (sG k) (sI (p + 1 : Nat)) a8) = .ok [bV (isCl k)] (trS P0 Fd w r a4 (sI p) (sG k) (sI (p + 1 : Nat)) a8) := by
   show Mine.Internal.R.ok [bV (openF (S [k])).isSome] _ = _
   rw [open_one]
   cases isCl k <;> rfl
  rw [marksT_b, dM_c] at hd
  cases hc : isCl k with
  | false =>
   rw [hc] at e1
   rw [if_neg (by rw [hc]; exact Bool.false_ne_true)] at hd
   obtain ⟨b5, b6, b7, b8, i1, i2, i3, i4⟩ := tree_loop h4 P0 r a4 ts (Fd ++ [[.int w.length, sgn k, .int r, .int p, .int r, .int (p + 1 : Nat)]]) (w ++ [Fd.length]) d' (sI p) (sG k) (sI (p + 1 : Nat)) a8 (fun k hk => hg k (.tail _ hk)) (h.opn rfl) (by rw [lap]; exact hd) (by rw [lap]; exact (show Fd.length + 1 + ts.length ≤ 80000 by rw [Nat.add_assoc, Nat.add_comm 1]; exact hz))
   rw [← stT_op (p := p) (r := r) hc] at i1 i2 i3 i4
   have e2 : ev Γ (.call true 4 (n_1 q_6)) (trS P0 (Fd ++ [[.int w.length, sgn k, .int r, .int p, .int r, .int (p + 1 : Nat)]]) w r a4 (sI p) (sG k) (sI (p + 1 : Nat)) a8) = .ok [bV true] (trS P0 (Fd ++ [[.int w.length, sgn k, .int r, .int p, .int r, .int (p + 1 : Nat)]]) w r a4 (sI p) (sG k) (sI (p + 1 : Nat)) a8) := ev_fn (fs := [.val (sgn k)]) (ev_cons (f := .val (sgn k)) rfl rfl) rfl ((h4.1 k).trans (by rw [hb]; rfl))
   have hl : (encF (Fd ++ [[.int w.length, sgn k, .int r, .int p, .int r, .int (p + 1 : Nat)]])).length = Fd.length + 1 := by rw [encF_len, lap]; rfl
   have e3 : ex Γ (.append (.loc 2) (bS_ (.peek .len (.loc 1) .nil) l_1)) (trS P0 (Fd ++ [[.int w.length, sgn k, .int r, .int p, .int r, .int (p + 1 : Nat)]]) w r a4 (sI p) (sG k) (sI (p + 1 : Nat)) a8) = .ok .next (trS P0 (Fd ++ [[.int w.length, sgn k, .int r, .int p, .int r, .int (p + 1 : Nat)]]) (w ++ [Fd.length]) r a4 (sI p) (sG k) (sI (p + 1 : Nat)) a8) :=
    (ex_append (xs := encW w) (d := .int Fd.length) rfl (okLen_of (by rw [encW_len]; exact nlt h.le (big hz0))) ((ev_op (fs := [.val (.int (Fd.length + 1 : Nat)), .val (.int 1)]) (ev_ci (i := (Fd.length + 1 : Nat)) ((ev_plen (f := .own (encF (Fd ++ [[.int w.length, sgn k, .int r, .int p, .int r, .int (p + 1 : Nat)]]))) rfl rfl (okLen_of (by rw [hl]; exact big (Nat.succ_le_succ hz0)))).trans (by rw [hl])) rfl)).trans (by
     show Mine.Internal.R.ok [F.val (.int (((Fd.length + 1 : Nat) : Int) - 1))] _ = _
     rw [sub1])) (show 2 < 9 by decide)).trans (by rw [encW_app]; rfl)
   exact ⟨b5, b6, b7, b8, i1, i2, by rw [lap] at i3; exact nlt i3 (Nat.le_of_eq (add1 Fd.length ts.length)), (for_next ((step_of rfl).trans ((ex_next ((ex_else e1).trans ((ex_next (new_ok hz0 h.le)).trans ((ex_next ((ex_then e2).trans ((ex_next e3).trans rfl))).trans rfl)))).trans rfl))).trans i4⟩
  | true =>
   rw [hc] at e1
   rw [if_pos hc] at hd
   rcases List.eq_nil_or_concat w with rfl | ⟨ws, a, rfl⟩
   · cases hd
   · rw [List.concat_eq_append] at *
     have ha : a < Fd.length := h.lt a (List.mem_append_right _ (.head _))
     have hx6 : Fd[a].length = 6 := h.six _ (List.getElem_mem ha)
     have hn : (Fd[a].take 4 ++ [PyData.int r, PyData.int (p + 1 : Nat)]).length = 6 := by rw [lap, List.length_take, hx6]; rfl
     obtain ⟨b5, b6, b7, b8, i1, i2, i3, i4⟩ := tree_loop h4 P0 r a4 ts (Fd.set a (Fd[a].take 4 ++ [.int r, .int (p + 1 : Nat)])) ws d' (sI p) (sG k) (sI (p + 1 : Nat)) (sI a) (fun k hk => hg k (.tail _ hk)) (h.cls hn) (by rw [lap, if_neg (show ¬ ws.length + [a].length = 0 from Nat.succ_ne_zero _)] at hd; exact hd) (by rw [List.length_set]; exact nlt (Nat.add_le_add_left (Nat.le_succ _) _) hz)
     rw [← stT_cl (p := p) (r := r) hc ha] at i1 i2 i3 i4
     have g1 : (encW (ws ++ [a])).getLast? = some (.int a) := by unfold encW; rw [List.map_append]; exact List.getLast?_concat ..
     have g2 : (encW (ws ++ [a])).dropLast = encW ws := by unfold encW; rw [List.map_append]; exact List.dropLast_concat ..
     have e2 : ex Γ (.assign (.loc 8) (.peek .pop (.loc 2) .nil)) (trS P0 Fd (ws ++ [a]) r a4 (sI p) (sG k) (sI (p + 1 : Nat)) a8) = .ok .next (trS P0 Fd ws r a4 (sI p) (sG k) (sI (p + 1 : Nat)) (sI a)) := (ex_assign ((ev_pop (xs := encW (ws ++ [a])) rfl (okLen_of (by rw [encW_len]; exact nlt h.le (big hz0))) g1 (show 2 < 9 by decide)).trans (by rw [g2]))).trans rfl
     have e3 : ev Γ (.peek .idx (.loc 1) (n_1 q_8)) (trS P0 Fd ws r a4 (sI p) (sG k) (sI (p + 1 : Nat)) (sI a)) = .ok [.val (.tuple Fd[a])] (trS P0 Fd ws r a4 (sI p) (sG k) (sI (p + 1 : Nat)) (sI a)) := ev_pidx (f := .own (encF Fd)) (m := a) rfl rfl rfl ((at_of (by rw [encF_len]; exact big hz0) (Int.natCast_nonneg _) (by rw [encF_len]; exact Int.ofNat_lt.mpr ha)).trans (by
      show (encF Fd)[a]? = _
      unfold encF
      rw [List.getElem?_map, geg ha]; rfl))
     have e4 : ∀ st, opE (.slc false true) [.val (.tuple Fd[a]), .val (.int 4)] st = .ok [.val (.tuple (Fd[a].take 4))] st := fun st => by
      show oneO (((gd (okLen Fd[a].length && decide ((0 : Int) ≤ 4 ∧ (4 : Int) < Fd[a].length)) (F.val (.tuple (Fd[a].take 4)))).or _)) st = _
      rw [hx6]; rfl
     have e5 : ∀ st, opE (.bin .Add) [.val (.tuple (Fd[a].take 4)), .val (.tuple [.int r, .int (p + 1 : Nat)])] st = .ok [.val (.tuple (Fd[a].take 4 ++ [.int r, .int (p + 1 : Nat)]))] st := fun st => by
      have h4 : (Fd[a].take 4).length = 4 := by rw [List.length_take, hx6]; rfl
      show oneO (((none : Option F).or none).or ((none : Option F).or (gd (okLen ((Fd[a].take 4).length + 2)) (F.val (.tuple (Fd[a].take 4 ++ [.int r, .int (p + 1 : Nat)])))))) st = _
      rw [h4]; rfl
     have e6 := ex_setidx (Γ := Γ) (i := 1) (ke := .get (.loc 8)) (m := a) (xs := encF Fd) (d := .tuple (Fd[a].take 4 ++ [.int r, .int (p + 1 : Nat)])) (st := trS P0 Fd ws r a4 (sI p) (sG k) (sI (p + 1 : Nat)) (sI a)) ((ev_op (ev_cons (f := .val (.tuple (Fd[a].take 4))) ((ev_op (ev_cons e3 (ev_cons (a := .lit (.int 4)) (b := .nil) (f := .val (.int 4)) rfl rfl))).trans (e4 _)) (ev_cons (a := .op .tup (n_2 q_3 q_7)) (b := .nil) (f := .val (.tuple [.int r, .int (p + 1 : Nat)])) rfl rfl))).trans (e5 _)) rfl rfl (okLen_of (by rw [encF_len]; exact big hz0)) (by rw [encF_len]; exact ha) (show 1 < 9 by decide)
     have e7 : (encF Fd).set a (.tuple (Fd[a].take 4 ++ [.int r, .int (p + 1 : Nat)])) = encF (Fd.set a (Fd[a].take 4 ++ [.int r, .int (p + 1 : Nat)])) := by unfold encF; rw [List.map_set]
     rw [e7] at e6
     exact ⟨b5, b6, b7, b8, i1, i2, by rw [List.length_set] at i3; exact nlt i3 (Nat.add_le_add_left (Nat.le_succ _) _), (for_next ((step_of rfl).trans ((ex_next ((ex_then e1).trans ((ex_next e2).trans ((ex_next e6).trans rfl)))).trans rfl))).trans i4⟩
end
section
variable {Γ : Nat → Fn} {rows : LL} {cts : List Nat} {es : Es} {m : Int} {ps : List (Nat × Nat)} {r : Nat} {ln : List Nat}
noncomputable def keepRow (r n : Nat) : List (Nat × Nat) := ((List.range n).filter fun k => !(k == r)).map fun k => (k, k)
noncomputable def bump (cts : List Nat) (r : Nat) : List Nat := cts.set r (cts[r]?.getD 0 + 1)
theorem sRows_set : (sRows rows).set r (strD ln) = sRows (rows.set r ln) := (List.map_set ..).symm
theorem parts_set : (rows.map encP).set r (encP ln) = (rows.set r ln).map encP := (List.map_set ..).symm
theorem encC_set {x : Nat} : (encC cts).set r (.int x) = encC (cts.set r x) := (List.map_set ..).symm
theorem encC_len : (encC cts).length = cts.length := lmp ..
noncomputable def asN (d : PyData) : Nat := match asI d with | some i => i.toNat | none => 0
theorem keep_enc {n : Nat} : ((((List.range n).map fun (k : Nat) => PyData.int k).filter fun d => !(asN d == r)).map fun d => .tuple [d, d]) = encK (keepRow r n) := by
 unfold encK keepRow
 rw [List.filter_map, List.map_map, List.map_map]
 rfl
noncomputable abbrev crS (rows rows2 : LL) (r : Nat) (ln : List Nat) (cts : List Nat) (es : Es) (m : Int) (ps : List (Nat × Nat)) : St := ⟨[some (.pg 0), some (.val (.int r)), some (.val (strD ln))], [pS (some (.own (sRows rows))) (rows2.map encP) (some (.own (encC cts))) es m (some (.own (encK ps)))], 0⟩
theorem len_x {a b n : Nat} (h : a + 1 ≤ b + 2 * (n - 0)) (hm : n ≤ 64) : a ≤ b + 128 := by lia
theorem change_row_ok (h5 : Sp5 Γ) (hJ : J 6 Γ (rows.set r ln)) (h : Pg rows cts es) (hr : r < rows.length) (hl : okLine ln = true) (hz : es.length ≤ 9000) : ∃ es', es'.length ≤ es.length + 128 ∧ Pg (rows.set r ln) (bump cts r) es' ∧ M Γ m_change_row [pP rows cts es m ps] [.pg 0, .val (.int r), .val (strD ln)] = .ret (.val .none) [pP (rows.set r ln) (bump cts r) es' (m + (cnt (some r) 6 0 rows.length : Nat)) (keepRow r rows.length)] := by
 have hm := h.ok.most
 have hcl := h.cl
 have hz1 : okLen (sRows rows).length = true := okLen_of (by rw [sRows_len]; exact big hm)
 have hz2 : okLen (rows.map encP).length = true := okLen_of (by rw [lmp]; exact big hm)
 have hz3 : okLen (encC cts).length = true := okLen_of (by rw [encC_len, hcl]; exact big hm)
 have hz4 : okLen (sRows (rows.set r ln)).length = true := okLen_of (by rw [sRows_len, List.length_set]; exact big hm)
 obtain ⟨es', l, g⟩ := hJ (some r) 0 rows.length h.ok.one hm (Nat.le_of_eq (List.length_set ..).symm) (some (.own (sRows (rows.set r ln)))) (some (.own (encC (bump cts r)))) (some (.own (encK (keepRow r rows.length)))) es m (big (Nat.add_le_add hz (Nat.mul_le_mul_left 2 hm))) (h.kn.pre h.ok.one)
 refine ⟨es', len_x l.len hm, ⟨h.ok.set hl, by unfold bump; rw [List.length_set, List.length_set, hcl], by rw [List.length_set]; exact l.kn⟩, ?_⟩
 have e1 : ex Γ (.setidx (.fld 0 0) q_1 q_2) (crS rows rows r ln cts es m ps) = .ok .next (crS (rows.set r ln) rows r ln cts es m ps) := by
  refine pk_set (m := r) (xs := sRows rows) (d := strD ln) rfl rfl rfl hz1 (by rw [sRows_len]; exact hr) ?_
  rw [sRows_set]; rfl
 have e2 : ex Γ (.setidx (.fld 0 1) q_1 (.call true 5 (n_1 (.lend 2)))) (crS (rows.set r ln) rows r ln cts es m ps) = .ok .next (crS (rows.set r ln) (rows.set r ln) r ln cts es m ps) := by
  refine pk_set (m := r) (xs := rows.map encP) (d := encP ln) (ev_fn (fs := [.lnd 2]) (ys := [.val (strD ln)]) rfl rfl (h5 ln (nlt (okLine_len hl) (by decide)))) rfl rfl hz2 (by rw [lmp]; exact hr) ?_
  rw [parts_set]; rfl
 have hx : (encC cts)[r]? = some (.int (cts[r]?.getD 0 : Nat)) := by
  unfold encC
  rw [List.getElem?_map, geg (by rw [hcl]; exact hr)]; rfl
 have e3 : ex Γ (.setidx (.fld 0 2) q_1 (bA (.peek .idx (.fld 0 2) (n_1 q_1)) l_1)) (crS (rows.set r ln) (rows.set r ln) r ln cts es m ps) = .ok .next (crS (rows.set r ln) (rows.set r ln) r ln (bump cts r) es m ps) := by
  refine pk_set (m := r) (xs := encC cts) (d := .int (cts[r]?.getD 0 + 1 : Nat)) ((ev_op (ev_ci (i := (cts[r]?.getD 0 : Nat)) (pk_idx (f := .own (encC cts)) (m := r) rfl rfl rfl ((at_of (by rw [encC_len, hcl]; exact big hm) (Int.natCast_nonneg _) (by rw [encC_len, hcl]; exact Int.ofNat_lt.mpr hr)).trans hx)) rfl)).trans rfl) rfl rfl hz3 (by rw [encC_len, hcl]; exact hr) ?_
  rw [encC_set]; rfl
 have e4 : ex Γ (.assign (.fld 0 5) (.comp 3 1 (n_1 (.peek .len (.fld 0 0) .nil)) (.op .tup (n_2 q_3 q_3)) (.cmp .NotEq (n_2 q_3 q_1)))) (crS (rows.set r ln) (rows.set r ln) r ln (bump cts r) es m ps) = .ok .next (crS (rows.set r ln) (rows.set r ln) r ln (bump cts r) es m (keepRow r rows.length)) := by
  refine (ex_assign (ev_compF (g := fun d => .tuple [d, d]) (pr := fun d => !(asN d == r)) (xs := (List.range rows.length).map fun (k : Nat) => PyData.int k) (it_of (fs := [.val (.int rows.length)]) (ev_ci (i := rows.length) ((pk_len (f := .own (sRows (rows.set r ln))) rfl rfl hz4).trans (by rw [sRows_len, List.length_set])) rfl) ?_) rfl (fun d hd => ?_) (fun d hd => ?_) (okLen_of (by rw [lmp, List.length_range]; exact big hm)) rfl)).trans (by rw [keep_enc]; rfl)
  · show ((rangeF 0 (rows.length : Int)).or _) = _
    rw [range_n (big hm)]; rfl
  · obtain ⟨k, hk, rfl⟩ := List.mem_map.mp hd
    refine (ev_cmp (u := .int k) (v := .int r) (q := !((k : Int) == r)) rfl rfl).trans ?_
    exact congrArg (fun q => Mine.Internal.R.ok [bV (!q)] _) (Bool.eq_iff_iff.mpr (by rw [beq_iff_eq, beq_iff_eq]; exact Int.ofNat_inj))
  · obtain ⟨k, hk, rfl⟩ := List.mem_map.mp hd
    rfl
 exact run_none rfl ((ex_next e1).trans ((ex_next e2).trans ((ex_next e3).trans ((ex_next e4).trans ((ex_next (ex_drop (ev_meth (n := 0) (ys := [.val (.int 0), .val (.int rows.length), .val (.int r)]) rfl (ev_ci (i := 0) rfl (ev_ci (i := rows.length) ((pk_len (f := .own (sRows (rows.set r ln))) rfl rfl hz4).trans (by rw [sRows_len, List.length_set])) rfl)) rfl g))).trans rfl)))))
end
section
variable {Γ : Nat → Fn} {rows fr : LL} {cts : List Nat} {es : Es} {m : Int} {ps : List (Nat × Nat)} {r g : Nat}
noncomputable def keepRows (r g fl n : Nat) : List (Nat × Nat) := ((List.range r).map fun k => (k, k)) ++ (List.range (n - (r + g))).map fun j => (r + g + j, r + j + fl)
noncomputable def splice {α : Type} (xs ys : List α) (r g : Nat) : List α := xs.take r ++ ys ++ xs.drop (r + g)
theorem splice_map {α β : Type} (f : α → β) (xs ys : List α) : splice (xs.map f) (ys.map f) r g = (splice xs ys r g).map f := by unfold splice; rw [List.map_append, List.map_append, List.map_take, List.map_drop]
theorem splice_len {α : Type} (xs ys : List α) (h : r + g ≤ xs.length) : (splice xs ys r g).length + g = xs.length + ys.length := by unfold splice; rw [lap, lap, List.length_take, List.length_drop]; lia
theorem splice_ok {st st1 st2 : St} {p : Pl} {E rE gE : CE} {f : F} {xs ys : List PyData} (h1 : ev Γ (.get p) st = .ok [.val (.list xs)] st1) (hr : ev Γ rE st1 = .ok [.val (.int r)] st1) (hE : ev Γ E st1 = .ok [f] st2) (hf : f.frz = .val (.list ys)) (h2 : ev Γ (.get p) st2 = .ok [.val (.list xs)] st2) (hr2 : ev Γ rE st2 = .ok [.val (.int r)] st2) (hg : ev Γ gE st2 = .ok [.val (.int g)] st2) (hz : xs.length ≤ 1000) (hz2 : ys.length ≤ 1000) (hz3 : r + g ≤ 1000) :
  ev Γ (bA (bA (.op (.slc false true) (n_2 (.get p) rE)) E) (.op (.slc true false) (n_2 (.get p) (bA rE gE)))) st = .ok [.own (splice xs ys r g)] st2 := by
 have hl : (xs.take r).length ≤ 1000 := nlt (List.length_take_le' ..) hz
 have hd : (xs.drop (r + g)).length ≤ 1000 := nlt (by rw [List.length_drop]; exact Nat.sub_le ..) hz
 have a1 : ev Γ (.op (.slc false true) (n_2 (.get p) rE)) st = .ok [.own (xs.take r)] st1 := (ev_op (ev_cons (f := .val (.list xs)) h1 (ev_ci (i := r) hr rfl))).trans (lop_lo (nlt hz (by decide)) (nlt (Nat.le_add_right r g) (nlt hz3 (by decide))))
 have e2 := ev_cons (Γ := Γ) (b := .nil) hE rfl
 rw [hf] at e2
 have a2 : ev Γ (bA (.op (.slc false true) (n_2 (.get p) rE)) E) st = .ok [.own (xs.take r ++ ys)] st2 := (ev_op (ev_cons a1 e2)).trans (lop_cat (nlt (Nat.add_le_add hl hz2) (by decide)))
 have a3 : ev Γ (bA rE gE) st2 = .ok [.val (.int (r + g : Nat))] st2 := (ev_op (ev_ci (i := r) hr2 (ev_ci (i := g) hg rfl))).trans rfl
 have a4 : ev Γ (.op (.slc true false) (n_2 (.get p) (bA rE gE))) st2 = .ok [.own (xs.drop (r + g))] st2 := (ev_op (ev_cons (f := .val (.list xs)) h2 (ev_ci (i := (r + g : Nat)) a3 rfl))).trans (lop_hi (nlt hz (by decide)) (nlt hz3 (by decide)))
 exact (ev_op (ev_cons a2 (ev_cons a4 rfl))).trans (lop_cat (by rw [lap]; exact nlt (Nat.add_le_add (Nat.add_le_add hl hz2) hd) (by decide)))
noncomputable abbrev cqS (r g : Nat) (fr : LL) (k : Option F) (A B C : F) (es : Es) (m : Int) (ps : List (Nat × Nat)) : St := ⟨[some (.pg 0), some (.val (.int r)), some (.val (.int g)), some (vR fr), k], [[some A, some B, some C, some (.dct es), some (.val (.int m)), some (.own (encK ps))]], 0⟩
theorem encK_snoc {q : Nat × Nat} : encK ps ++ [.tuple [.int q.1, .int q.2]] = encK (ps ++ [q]) := by unfold encK; rw [List.map_append]; rfl
theorem encK_len : (encK ps).length = ps.length := lmp ..
theorem ap_loop {A B C : F} (hf : fr.length ≤ 1000) : ∀ (ks : List Nat) (ps : List (Nat × Nat)) (k : Option F), ps.length + ks.length ≤ 10000 → ∃ k', forL (stepB Γ false [4] apB) (ks.map fun (j : Nat) => PyData.int (r + g + j : Nat)) (cqS r g fr k A B C es m ps) = .ok .next (cqS r g fr k' A B C es m (ps ++ ks.map fun j => (r + g + j, r + j + fr.length)))
 | [], ps, k, _ => ⟨k, by rw [List.map_nil, List.map_nil, List.append_nil]; rfl⟩
 | j :: ks, ps, k, hz => by
  have hz' : ps.length + (ks.length + 1) ≤ 10000 := hz
  obtain ⟨k', ih⟩ := ap_loop (A := A) (B := B) (C := C) hf ks (ps ++ [(r + g + j, r + j + fr.length)]) (sI (r + g + j : Nat)) (by rw [lap]; show ps.length + 1 + ks.length ≤ 10000; lia)
  refine ⟨k', (for_next (st1 := cqS r g fr (sI (r + g + j : Nat)) A B C es m (ps ++ [(r + g + j, r + j + fr.length)])) ((step_of rfl).trans ((ex_next (pk_app (xs := encK ps) (d := .tuple [.int (r + g + j : Nat), .int (r + j + fr.length : Nat)]) rfl ((ev_op (ev_ci (i := (r + g + j : Nat)) rfl (ev_ci (i := (r + j + fr.length : Nat)) ?_ rfl))).trans rfl) (okLen_of (by rw [encK_len]; lia)) ?_)).trans rfl))).trans ?_⟩
  · refine (ev_op (ev_ci (i := ((r + g + j : Nat) + (fr.length : Int))) ((ev_op (ev_ci (i := (r + g + j : Nat)) rfl (ev_ci (i := fr.length) ((pk_len (f := .val (.list (sRows fr))) rfl rfl (okLen_of (by rw [sRows_len]; lia))).trans (by rw [sRows_len])) rfl))).trans rfl) (ev_ci (i := g) rfl rfl))).trans ?_
    exact congrArg (fun i => Mine.Internal.R.ok [F.val (.int i)] _) (show ((r + g + j : Nat) + (fr.length : Int)) - g = (r + j + fr.length : Nat) by lia)
  · exact congrArg (fun l => some (⟨[some (.pg 0), some (.val (.int r)), some (.val (.int g)), some (vR fr), some (.val (.int (r + g + j : Nat)))], [[some A, some B, some C, some (.dct es), some (.val (.int m)), some (.own l)]], 0⟩ : St)) (encK_snoc (q := (r + g + j, r + j + fr.length)))
  · exact ih.trans (by rw [List.append_assoc]; rfl)
theorem keep_a {n : Nat} : (((List.range n).map fun (k : Nat) => PyData.int k).map fun d => PyData.tuple [d, d]) = encK ((List.range n).map fun k => (k, k)) := by
 unfold encK
 rw [List.map_map, List.map_map]
 rfl
theorem it_two {a b : Nat} {v : Slots} (h0 : a ≤ 100000) (h : b ≤ 100000) : itF 1 v [.val (.int a), .val (.int b)] = some ((List.range (b - a)).map fun (k : Nat) => PyData.int (a + k : Nat)) := range_a h0 h
theorem OkText.splice_rows (h : OkText rows) (hf : ∀ l ∈ fr, okLine l = true) (h0 : 0 < (splice rows fr r g).length) (h1 : (splice rows fr r g).length ≤ 64) : OkText (splice rows fr r g) := ⟨h0, h1, fun l hl => by
 rcases List.mem_append.mp hl with hl | hl
 · rcases List.mem_append.mp hl with hl | hl
   · exact h.rows l (List.mem_of_mem_take hl)
   · exact hf l hl
 · exact h.rows l (List.mem_of_mem_drop hl)⟩
theorem splice_eqlen {α β : Type} {a x : List α} {b y : List β} (h : a.length = b.length) (hx : x.length = y.length) : (splice a x r g).length = (splice b y r g).length := by unfold splice; rw [lap, lap, lap, lap, List.length_take, List.length_take, List.length_drop, List.length_drop, h, hx]
theorem splice_le {a b c : Nat} (h : a + g = b + c) (hg : r + g ≤ b) (ha : a ≤ 64) : c ≤ 128 := by lia
theorem change_rows_ok (h5 : Sp5 Γ) (h15 : Sp15 Γ) (h : Pg rows cts es) (hf : ∀ l ∈ fr, okLine l = true) (hg : r + g ≤ rows.length) (hn : OkText (splice rows fr r g)) : ∃ es', es'.length ≤ 128 ∧ Pg (splice rows fr r g) (splice cts (fr.map fun _ => 1) r g) es' ∧ M Γ m_change_rows [pP rows cts es m ps] [.pg 0, .val (.int r), .val (.int g), .val (.list (sRows fr))] = .ret (.val .none) [pP (splice rows fr r g) (splice cts (fr.map fun _ => 1) r g) es' (m + (cnt none 6 0 (splice rows fr r g).length : Nat)) (keepRows r g fr.length rows.length)] := by
 have hm := h.ok.most
 have hm2 := hn.most
 have hcl := h.cl
 have hsl := splice_len rows fr hg
 have hfl : fr.length ≤ 128 := splice_le hsl hg hm2
 have hrg : r + g ≤ 64 := nlt hg hm
 have hr : r ≤ 64 := nlt (Nat.le_add_right r g) hrg
 have hcm : cts.length ≤ 64 := nlt (Nat.le_of_eq hcl) hm
 obtain ⟨es', l, kn, gg⟩ := h15 _ hn (some (.own (encC (splice cts (fr.map fun _ => 1) r g)))) es m (some (.own (encK (keepRows r g fr.length rows.length))))
 refine ⟨es', l, ⟨hn, splice_eqlen hcl (lmp ..), kn⟩, ?_⟩
 have z1 : okLen (sRows rows).length = true := okLen_of (by rw [sRows_len]; exact big hm)
 have z2 : okLen (sRows fr).length = true := okLen_of (by rw [sRows_len]; exact big hfl)
 have e1 : ex Γ (.assign (.fld 0 5) (.comp 5 1 (n_1 q_1) (.op .tup (n_2 q_5 q_5)) .nil)) (cqS r g fr none (.own (sRows rows)) (.own (rows.map encP)) (.own (encC cts)) es m ps) = .ok .next (cqS r g fr none (.own (sRows rows)) (.own (rows.map encP)) (.own (encC cts)) es m ((List.range r).map fun k => (k, k))) := by
  refine (ex_assign (ev_comp (g := fun d => .tuple [d, d]) (xs := (List.range r).map fun (k : Nat) => PyData.int k) (it_of (fs := [.val (.int r)]) (ev_ci (i := r) rfl rfl) ?_) (fun d hd => ?_) (okLen_of (by rw [lmp, List.length_range]; exact big hr)) rfl)).trans (by rw [keep_a]; rfl)
  · show ((rangeF 0 (r : Int)).or _) = _
    rw [range_n (big hr)]; rfl
  · obtain ⟨k, hk, rfl⟩ := List.mem_map.mp hd
    rfl
 obtain ⟨k', e2⟩ := ap_loop (Γ := Γ) (r := r) (g := g) (es := es) (m := m) (A := .own (sRows rows)) (B := .own (rows.map encP)) (C := .own (encC cts)) (fr := fr) (big hfl) (List.range (rows.length - (r + g))) ((List.range r).map fun k => (k, k)) none (by rw [lmp, List.length_range, List.length_range]; exact big (Nat.add_le_add hr (nlt (Nat.sub_le _ _) hm)))
 have e2' : ex Γ lpA (cqS r g fr none (.own (sRows rows)) (.own (rows.map encP)) (.own (encC cts)) es m ((List.range r).map fun k => (k, k))) = .ok .next (cqS r g fr k' (.own (sRows rows)) (.own (rows.map encP)) (.own (encC cts)) es m (keepRows r g fr.length rows.length)) := (ex_loop (it_of (fs := [.val (.int (r + g : Nat)), .val (.int rows.length)]) (ev_ci (i := (r + g : Nat)) rfl (ev_ci (i := rows.length) ((pk_len (f := .own (sRows rows)) rfl rfl z1).trans (by rw [sRows_len])) rfl)) (it_two (big hrg) (big hm)))).trans e2
 have e3 := ex_assign (p := .fld 0 0) (splice_ok (Γ := Γ) (p := .fld 0 0) (E := .get (.loc 3)) (rE := .get (.loc 1)) (gE := .get (.loc 2)) (r := r) (g := g) (f := .val (.list (sRows fr))) (xs := sRows rows) (ys := sRows fr) (st := cqS r g fr k' (.own (sRows rows)) (.own (rows.map encP)) (.own (encC cts)) es m (keepRows r g fr.length rows.length)) (st1 := cqS r g fr k' (vR rows) (.own (rows.map encP)) (.own (encC cts)) es m (keepRows r g fr.length rows.length)) rfl rfl rfl rfl rfl rfl rfl (by rw [sRows_len]; exact big hm) (by rw [sRows_len]; exact big hfl) (big hrg))
 have it : ∀ {A B C : F} {ps : List (Nat × Nat)}, ((ev Γ (.lend 3) (cqS r g fr k' A B C es m ps)).bind (itE 0)) = .ok (sRows fr) (cqS r g fr k' A B C es m ps) := fun {A B C ps} => it_of (fs := [.lnd 3]) rfl (by
  show (((none : Option (List PyData)).or (gd (okLen (sRows fr).length) (sRows fr))).or none) = _
  rw [z2]; rfl)
 have c1 : ∀ {A B C : F} {ps : List (Nat × Nat)}, ev Γ (.comp 5 0 (.lend 3) (.call true 5 (n_1 q_5)) .nil) (cqS r g fr k' A B C es m ps) = .ok [.own (fr.map encP)] (cqS r g fr k' A B C es m ps) := fun {A B C ps} => (ev_comp (g := fun d => match asS d with | some x => encP (cs x) | none => d) it (fun d hd => by
  obtain ⟨l, hl, rfl⟩ := List.mem_map.mp hd
  exact ev_fn (fs := [.val (strD l)]) (ev_cs (l := l) rfl rfl) rfl (h5 l (nlt (okLine_len (hf l hl)) (by decide)))) z2 rfl).trans (by unfold sRows; rw [List.map_map]; rfl)
 have c2 : ∀ {A B C : F} {ps : List (Nat × Nat)}, ev Γ (.comp 5 0 (.lend 3) l_1 .nil) (cqS r g fr k' A B C es m ps) = .ok [.own (encC (fr.map fun _ => 1))] (cqS r g fr k' A B C es m ps) := fun {A B C ps} => (ev_comp (g := fun _ => .int 1) it (fun d hd => rfl) z2 rfl).trans (by unfold sRows encC; rw [List.map_map, List.map_map]; rfl)
 have e4 := ex_assign (p := .fld 0 1) (splice_ok (Γ := Γ) (p := .fld 0 1) (rE := .get (.loc 1)) (gE := .get (.loc 2)) (r := r) (g := g) (xs := rows.map encP) (ys := fr.map encP) (st := cqS r g fr k' (.own (splice (sRows rows) (sRows fr) r g)) (.own (rows.map encP)) (.own (encC cts)) es m (keepRows r g fr.length rows.length)) (st1 := cqS r g fr k' (.own (splice (sRows rows) (sRows fr) r g)) (.val (.list (rows.map encP))) (.own (encC cts)) es m (keepRows r g fr.length rows.length)) rfl rfl c1 rfl rfl rfl rfl (by rw [lmp]; exact big hm) (by rw [lmp]; exact big hfl) (big hrg))
 have e5 := ex_assign (p := .fld 0 2) (splice_ok (Γ := Γ) (p := .fld 0 2) (rE := .get (.loc 1)) (gE := .get (.loc 2)) (r := r) (g := g) (xs := encC cts) (ys := encC (fr.map fun _ => 1)) (st := cqS r g fr k' (.own (splice (sRows rows) (sRows fr) r g)) (.own (splice (rows.map encP) (fr.map encP) r g)) (.own (encC cts)) es m (keepRows r g fr.length rows.length)) (st1 := cqS r g fr k' (.own (splice (sRows rows) (sRows fr) r g)) (.own (splice (rows.map encP) (fr.map encP) r g)) (.val (.list (encC cts))) es m (keepRows r g fr.length rows.length)) rfl rfl c2 rfl rfl rfl rfl (by rw [encC_len]; exact big hcm) (by rw [encC_len, lmp]; exact big hfl) (big hrg))
 have q1 : splice (sRows rows) (sRows fr) r g = sRows (splice rows fr r g) := splice_map ..
 have q2 : splice (rows.map encP) (fr.map encP) r g = (splice rows fr r g).map encP := splice_map ..
 have q3 : splice (encC cts) (encC (fr.map fun _ => 1)) r g = encC (splice cts (fr.map fun _ => 1) r g) := splice_map ..
 rw [q1] at e4 e5
 rw [q2] at e5
 exact run_none rfl ((ex_next e1).trans ((ex_next e2').trans ((ex_next (st1 := cqS r g fr k' (.own (sRows (splice rows fr r g))) (.own (rows.map encP)) (.own (encC cts)) es m (keepRows r g fr.length rows.length)) (e3.trans (by rw [q1]; rfl))).trans ((ex_next (st1 := cqS r g fr k' (.own (sRows (splice rows fr r g))) (.own ((splice rows fr r g).map encP)) (.own (encC cts)) es m (keepRows r g fr.length rows.length)) (e4.trans (by rw [q2]; rfl))).trans ((ex_next (st1 := cqS r g fr k' (.own (sRows (splice rows fr r g))) (.own ((splice rows fr r g).map encP)) (.own (encC (splice cts (fr.map fun _ => 1) r g))) es m (keepRows r g fr.length rows.length)) (e5.trans (by rw [q3]; rfl))).trans ((ex_next (ex_drop (ev_meth (n := 0) (ys := []) rfl rfl rfl gg))).trans rfl))))))
end
section
variable {Γ : Nat → Fn} {rows fr : LL} {cts : List Nat} {es : Es} {m : Int} {ps : List (Nat × Nat)} {r p c : Nat} {ln : List Nat}
theorem row_at {v : Slots} {x : Nat} {k : CE} (h : OkText rows) (hr : rows[r]? = some ln) (hv : slot v 0 = some (.pg 0)) (hk : ev Γ k ⟨v, [pP rows cts es m ps], x⟩ = .ok [.val (.int r)] ⟨v, [pP rows cts es m ps], x⟩) : ev Γ (.peek .idx (.fld 0 0) (n_1 k)) ⟨v, [pP rows cts es m ps], x⟩ = .ok [.val (strD ln)] ⟨v, [pP rows cts es m ps], x⟩ := by
 have hm := h.most
 obtain ⟨hn, _⟩ := gsm hr
 refine pk_idx (f := .own (sRows rows)) (m := r) ?_ rfl (ev_ci (i := r) hk rfl) ?_
 · show (match slot v 0 with | some (.pg k) => some k | _ => none).bind _ = _
   rw [hv]; rfl
 · rw [at_of (by rw [sRows_len]; lia) (Int.natCast_nonneg _) (by rw [sRows_len]; lia), Int.toNat_natCast]
   show (rows.map strD)[r]? = _
   rw [List.getElem?_map, hr]; rfl
theorem rows_len {v : Slots} {x : Nat} (h : OkText rows) (hv : slot v 0 = some (.pg 0)) : ev Γ (.peek .len (.fld 0 0) .nil) ⟨v, [pP rows cts es m ps], x⟩ = .ok [.val (.int rows.length)] ⟨v, [pP rows cts es m ps], x⟩ := by
 refine (pk_len (f := .own (sRows rows)) ?_ rfl (okLen_of (by rw [sRows_len]; have := h.most; lia))).trans (by rw [sRows_len])
 show (match slot v 0 with | some (.pg k) => some k | _ => none).bind _ = _
 rw [hv]; rfl
theorem need_place_ok (h : OkText rows) (hr : rows[r]? = some ln) (hp : p ≤ ln.length) : M Γ m_need_place [pP rows cts es m ps] [.pg 0, .val (.int r), .val (.int p)] = .ret (.val .none) [pP rows cts es m ps] := by
 obtain ⟨hn, _⟩ := gsm hr
 have hl := okLine_len (h.rows ln (mog hr))
 have e1 := ev_not (ev_chain (Γ := Γ) (ab := .cons l_0 (n_1 q_1)) (o1 := .LtE) (o2 := .Lt) (u := .int 0) (v := .int r) (st := ⟨[some (.pg 0), some (.val (.int r)), some (.val (.int p))], [pP rows cts es m ps], 0⟩) rfl rfl (rows_len h rfl) rfl)
 have e2 := ev_not (ev_chain (Γ := Γ) (ab := .cons l_0 (n_1 q_2)) (o1 := .LtE) (o2 := .LtE) (u := .int 0) (v := .int p) (st := ⟨[some (.pg 0), some (.val (.int r)), some (.val (.int p))], [pP rows cts es m ps], 0⟩) rfl rfl ((ev_op (ev_cons (b := .nil) (row_at (k := .get (.loc 1)) h hr rfl rfl) rfl)).trans (op_len (l := ln) (by lia))) rfl)
 have t1 : ∀ {a b : Nat}, (!(decide ((0 : Int) ≤ a) && decide ((a : Int) < b))) = !decide (a < b) := fun {a b} => by
  rw [dtt (Int.natCast_nonneg a), Bool.true_and]; exact congrArg _ (decide_eq_decide.mpr Int.ofNat_lt)
 have t2 : ∀ {a b : Nat}, (!(decide ((0 : Int) ≤ a) && decide ((a : Int) ≤ b))) = !decide (a ≤ b) := fun {a b} => by
  rw [dtt (Int.natCast_nonneg a), Bool.true_and]; exact congrArg _ (decide_eq_decide.mpr Int.ofNat_le)
 rw [t1, dtt hn] at e1
 rw [t2, dtt hp] at e2
 exact run_none rfl (ex_skip (ev_or e1 fun _ => e2))
noncomputable def Sp17 (Γ : Nat → Fn) : Prop := ∀ rows cts es m ps (r p : Nat) (ln : List Nat), OkText rows → rows[r]? = some ln → p ≤ ln.length → Γ 17 [pP rows cts es m ps] [.pg 0, .val (.int r), .val (.int p)] = .ret (.val .none) [pP rows cts es m ps]
noncomputable def Sp18 (Γ : Nat → Fn) : Prop := ∀ rows cts es m ps (r : Nat) (ln : List Nat), Pg rows cts es → r < rows.length → okLine ln = true → es.length ≤ 9000 → ∃ es', es'.length ≤ es.length + 128 ∧ Pg (rows.set r ln) (bump cts r) es' ∧ Γ 18 [pP rows cts es m ps] [.pg 0, .val (.int r), .val (strD ln)] = .ret (.val .none) [pP (rows.set r ln) (bump cts r) es' (m + (cnt (some r) 6 0 rows.length : Nat)) (keepRow r rows.length)]
noncomputable def Sp19 (Γ : Nat → Fn) : Prop := ∀ rows cts es m ps (r g : Nat) (fr : LL), Pg rows cts es → (∀ l ∈ fr, okLine l = true) → r + g ≤ rows.length → OkText (splice rows fr r g) → ∃ es', es'.length ≤ 128 ∧ Pg (splice rows fr r g) (splice cts (fr.map fun _ => 1) r g) es' ∧ Γ 19 [pP rows cts es m ps] [.pg 0, .val (.int r), .val (.int g), .val (.list (sRows fr))] = .ret (.val .none) [pP (splice rows fr r g) (splice cts (fr.map fun _ => 1) r g) es' (m + (cnt none 6 0 (splice rows fr r g).length : Nat)) (keepRows r g fr.length rows.length)]
noncomputable abbrev puS (rows : LL) (cts : List Nat) (es : Es) (m : Int) (ps : List (Nat × Nat)) (r p c : Nat) (t : Option F) : St := ⟨[some (.pg 0), some (.val (.int r)), some (.val (.int p)), some (.val (sgn c)), t], [pP rows cts es m ps], 0⟩
noncomputable def insL (ln : List Nat) (p c : Nat) : List Nat := ln.take p ++ [c] ++ ln.drop p
theorem put_line (h17 : Sp17 Γ) (h19 : Sp19 Γ) (h : Pg rows cts es) (hr : rows[r]? = some ln) (hp : p ≤ ln.length) (hn : OkText (splice rows [ln.take p, ln.drop p] r 1)) (hl : ∀ l ∈ [ln.take p, ln.drop p], okLine l = true) : ∃ es', es'.length ≤ 128 ∧ Pg (splice rows [ln.take p, ln.drop p] r 1) (splice cts [1, 1] r 1) es' ∧ M Γ m_put [pP rows cts es m ps] [.pg 0, .val (.int r), .val (.int p), .val (sgn 10)] = .ret (.val .none) [pP (splice rows [ln.take p, ln.drop p] r 1) (splice cts [1, 1] r 1) es' (m + (cnt none 6 0 (splice rows [ln.take p, ln.drop p] r 1).length : Nat)) (keepRows r 1 2 rows.length)] := by
 obtain ⟨hi, _⟩ := gsm hr
 have hll := okLine_len (h.ok.rows ln (mog hr))
 obtain ⟨es', l, pg, g⟩ := h19 rows cts es m ps r 1 [ln.take p, ln.drop p] h hl hi hn
 refine ⟨es', l, pg, ?_⟩
 have e1 : ex Γ _ (puS rows cts es m ps r p 10 none) = _ := ex_drop (ev_meth (k := 17) (r := .get (.loc 0)) (es := .cons q_1 (n_1 q_2)) (n := 0) (ys := [.val (.int r), .val (.int p)]) rfl rfl rfl (h17 rows cts es m ps r p ln h.ok hr hp))
 have e3 : ex Γ (.assign (.loc 4) _) (puS rows cts es m ps r p 10 none) = .ok .next (puS rows cts es m ps r p 10 (sT ln)) := (ex_assign (row_at (k := .get (.loc 1)) h.ok hr rfl rfl)).trans rfl
 have hne : (((rows.length : Nat) : Int) == 64) = false := bfi fun q => by
  have := eq_of_beq q; have := hn.most; have := splice_len rows [ln.take p, ln.drop p] (r := r) (g := 1) hi; simp at this; lia
 have e4 := ev_cmp (Γ := Γ) (op := .Eq) (es := .cons (.peek .len (.fld 0 0) .nil) (n_1 (.glob 0))) (st := puS rows cts es m ps r p 10 (sT ln)) (u := .int rows.length) (v := .int 64) (q := ((rows.length : Nat) : Int) == 64) (ev_ci (i := rows.length) (rows_len h.ok rfl) rfl) rfl
 rw [hne] at e4
 have e5 : ev Γ (.op .lst (n_2 (.op (.slc false true) (n_2 q_4 q_2)) (.op (.slc true false) (n_2 q_4 q_2)))) (puS rows cts es m ps r p 10 (sT ln)) = .ok [.own (sRows [ln.take p, ln.drop p])] (puS rows cts es m ps r p 10 (sT ln)) :=
  (ev_op (ev_cs (l := (ln.take p)) ((ev_op (fs := [.val (strD ln), .val (.int p)]) rfl).trans (op_lo (by lia) (by lia))) (ev_cs (l := (ln.drop p)) ((ev_op (fs := [.val (strD ln), .val (.int p)]) rfl).trans (op_hi (by lia) (by lia))) rfl))).trans rfl
 exact run_none rfl ((ex_next e1).trans ((ex_skip rfl).trans ((ex_next e3).trans ((ex_next ((ex_then (c := .cmp .Eq (n_2 q_3 (.lit (.str (S [10]))))) rfl).trans ((ex_skip e4).trans ((ex_next (ex_drop (ev_meth (n := 0) (ys := [.val (.int r), .val (.int 1), .val (.list (sRows [ln.take p, ln.drop p]))]) rfl (ev_ci (i := r) rfl (ev_ci (i := 1) rfl (ev_cons e5 rfl))) rfl g))).trans rfl)))).trans rfl))))
theorem insL_len (hp : p ≤ ln.length) : (insL ln p c).length = ln.length + 1 := by
 unfold insL
 rw [lap, lap, List.length_take, List.length_drop, Nat.min_eq_left hp]
 show p + 1 + _ = _
 lia
theorem ne120 {n m : Nat} (h : m = n + 1) (hm : m ≤ 120) : ((n : Int) == 120) = false := bfi fun q => by have := eq_of_beq q; lia
theorem put_sign (h1 : Sp1 Γ) (h17 : Sp17 Γ) (h18 : Sp18 Γ) (h : Pg rows cts es) (hr : rows[r]? = some ln) (hp : p ≤ ln.length) (hc : isSign c = true) (hl : okLine (insL ln p c) = true) (hz : es.length ≤ 9000) : ∃ es', es'.length ≤ es.length + 128 ∧ Pg (rows.set r (insL ln p c)) (bump cts r) es' ∧ M Γ m_put [pP rows cts es m ps] [.pg 0, .val (.int r), .val (.int p), .val (sgn c)] = .ret (.val .none) [pP (rows.set r (insL ln p c)) (bump cts r) es' (m + (cnt (some r) 6 0 rows.length : Nat)) (keepRow r rows.length)] := by
 obtain ⟨hi, _⟩ := gsm hr
 have hll := okLine_len (h.ok.rows ln (mog hr))
 obtain ⟨es', l, pg, g⟩ := h18 rows cts es m ps r (insL ln p c) h hi hl hz
 refine ⟨es', l, pg, ?_⟩
 have e1 : ex Γ _ (puS rows cts es m ps r p c none) = _ := ex_drop (ev_meth (k := 17) (r := .get (.loc 0)) (es := .cons q_1 (n_1 q_2)) (n := 0) (ys := [.val (.int r), .val (.int p)]) rfl rfl rfl (h17 rows cts es m ps r p ln h.ok hr hp))
 have hc10 : ([c] == [10]) = false := bfi fun q => sign_ne hc (List.cons.inj (eq_of_beq q)).1
 have e2 := ev_or (Γ := Γ) (a := .not (.op (.isinst .str) (n_1 q_3))) (x := false) (st := puS rows cts es m ps r p c none) rfl fun _ => ev_or (a := .cmp .NotEq (n_2 (.op .len (n_1 q_3)) l_1)) (x := false) rfl fun _ => ev_and (a := .cmp .NotEq (n_2 q_3 (.lit (.str (S [10]))))) (x := !([c] == [10])) rfl fun _ => ev_not (ev_fn (k := 1) (es := .cons q_3 .nil) (fs := [.val (sgn c)]) rfl rfl (h1 c))
 rw [hc, hc10] at e2
 have e3 : ex Γ (.assign (.loc 4) _) (puS rows cts es m ps r p c none) = .ok .next (puS rows cts es m ps r p c (sT ln)) := (ex_assign (row_at (k := .get (.loc 1)) h.ok hr rfl rfl)).trans rfl
 have e0 := ev_cmp (Γ := Γ) (op := .Eq) (es := .cons q_3 (n_1 (.lit (.str (S [10]))))) (st := puS rows cts es m ps r p c (sT ln)) (u := sgn c) (v := .str (S [10])) (q := [c] == [10]) rfl rfl
 rw [hc10] at e0
 have hne : (((ln.length : Nat) : Int) == 120) = false := ne120 (insL_len hp) (okLine_len hl)
 have e4 := ev_cmp (Γ := Γ) (op := .Eq) (es := .cons (.op .len (n_1 q_4)) (n_1 (.glob 1))) (st := puS rows cts es m ps r p c (sT ln)) (u := .int ln.length) (v := .int 120) (q := ((ln.length : Nat) : Int) == 120) (ev_ci (i := ln.length) ((ev_op (fs := [.val (strD ln)]) rfl).trans (op_len (big hll))) rfl) rfl
 rw [hne] at e4
 have e5 : ev Γ (bA (bA (.op (.slc false true) (n_2 q_4 q_2)) q_3) (.op (.slc true false) (n_2 q_4 q_2))) (puS rows cts es m ps r p c (sT ln)) = .ok [.val (strD (insL ln p c))] (puS rows cts es m ps r p c (sT ln)) := by
  have b1 : (ln.take p).length ≤ 120 := nlt (List.length_take_le' ..) hll
  have b2 : (ln.drop p).length ≤ 120 := by rw [List.length_drop]; exact nlt (Nat.sub_le ..) hll
  exact (ev_op (ev_cons (f := .val (.str (S (ln.take p ++ [c])))) ((ev_op (ev_cs (l := (ln.take p)) ((ev_op (fs := [.val (strD ln), .val (.int p)]) rfl).trans (op_lo (big hll) (big (nlt hp hll)))) (ev_cons (f := .val (sgn c)) rfl rfl))).trans (op_cat (r := [c]) (big (Nat.add_le_add_right b1 1)))) (ev_cs (l := (ln.drop p)) ((ev_op (fs := [.val (strD ln), .val (.int p)]) rfl).trans (op_hi (big hll) (big (nlt hp hll)))) rfl))).trans (op_cat (by rw [lap]; exact big (Nat.add_le_add (Nat.add_le_add_right b1 1) b2)))
 exact run_none rfl ((ex_next e1).trans ((ex_skip e2).trans ((ex_next e3).trans ((ex_next ((ex_else e0).trans ((ex_skip e4).trans ((ex_next (ex_drop (ev_meth (n := 0) (ys := [.val (.int r), .val (strD (insL ln p c))]) rfl (ev_ci (i := r) rfl (ev_cs (l := (insL ln p c)) e5 rfl)) rfl g))).trans rfl)))).trans rfl))))
end
section
variable {Γ : Nat → Fn} {rows : LL} {cts : List Nat} {es : Es} {m : Int} {ps : List (Nat × Nat)} {r p : Nat} {ln l2 : List Nat}
noncomputable abbrev cuS (rows : LL) (cts : List Nat) (es : Es) (m : Int) (ps : List (Nat × Nat)) (r p : Nat) (t : Option F) : St := ⟨[some (.pg 0), some (.val (.int r)), some (.val (.int p)), t], [pP rows cts es m ps], 0⟩
noncomputable def delL (ln : List Nat) (p : Nat) : List Nat := ln.take p ++ ln.drop (p + 1)
theorem cut_begin (h17 : Sp17 Γ) (h : OkText rows) (hr : rows[r]? = some ln) (hp : p ≤ ln.length) {s : CS} : ex Γ (.seq (.drop (.meth 17 q_0 (n_2 q_1 q_2))) (.seq (.assign (.loc 3) (.peek .idx (.fld 0 0) (n_1 q_1))) s)) (cuS rows cts es m ps r p none) = ex Γ s (cuS rows cts es m ps r p (sT ln)) := by
 have e1 : ex Γ _ (cuS rows cts es m ps r p none) = _ := ex_drop (ev_meth (k := 17) (r := .get (.loc 0)) (es := .cons q_1 (n_1 q_2)) (n := 0) (ys := [.val (.int r), .val (.int p)]) rfl rfl rfl (h17 rows cts es m ps r p ln h hr hp))
 have e3 : ex Γ (.assign (.loc 3) _) (cuS rows cts es m ps r p none) = .ok .next (cuS rows cts es m ps r p (sT ln)) := (ex_assign (row_at (k := .get (.loc 1)) h hr rfl rfl)).trans rfl
 exact (ex_next e1).trans (ex_next e3)
theorem cut_lt (hl : ln.length ≤ 120) : ev Γ (.cmp .Lt (n_2 q_2 (.op .len (n_1 q_3)))) (cuS rows cts es m ps r p (sT ln)) = .ok [bV (decide (p < ln.length))] (cuS rows cts es m ps r p (sT ln)) :=
 (ev_cmp (u := .int p) (v := .int ln.length) (ev_ci (i := p) rfl (ev_ci (i := ln.length) ((ev_op (fs := [.val (strD ln)]) rfl).trans (op_len (by lia))) rfl)) rfl).trans (congrArg (fun q => Mine.Internal.R.ok [bV q] _) (decide_eq_decide.mpr Int.ofNat_lt))
theorem cut_sign (h17 : Sp17 Γ) (h18 : Sp18 Γ) (h : Pg rows cts es) (hr : rows[r]? = some ln) (hp : p < ln.length) (hl : okLine (delL ln p) = true) (hz : es.length ≤ 9000) : ∃ es', es'.length ≤ es.length + 128 ∧ Pg (rows.set r (delL ln p)) (bump cts r) es' ∧ M Γ m_cut [pP rows cts es m ps] [.pg 0, .val (.int r), .val (.int p)] = .ret (.val .none) [pP (rows.set r (delL ln p)) (bump cts r) es' (m + (cnt (some r) 6 0 rows.length : Nat)) (keepRow r rows.length)] := by
 obtain ⟨hi, _⟩ := gsm hr
 have hll := okLine_len (h.ok.rows ln (mog hr))
 obtain ⟨es', l, pg, g⟩ := h18 rows cts es m ps r (delL ln p) h hi hl hz
 refine ⟨es', l, pg, ?_⟩
 have e1 : ev Γ _ (cuS rows cts es m ps r p (sT ln)) = _ := cut_lt hll
 rw [dtt hp] at e1
 have e5 : ev Γ (bA (.op (.slc false true) (n_2 q_3 q_2)) (.op (.slc true false) (n_2 q_3 (bA q_2 l_1)))) (cuS rows cts es m ps r p (sT ln)) = .ok [.val (strD (delL ln p))] (cuS rows cts es m ps r p (sT ln)) :=
  (ev_op (ev_cs (l := (ln.take p)) ((ev_op (fs := [.val (strD ln), .val (.int p)]) rfl).trans (op_lo (by lia) (by lia))) (ev_cs (l := (ln.drop (p + 1))) ((ev_op (fs := [.val (strD ln), .val (.int (p + 1 : Nat))]) rfl).trans (op_hi (by lia) (by lia))) rfl))).trans (op_cat (by rw [List.length_take, List.length_drop]; lia))
 exact run_of rfl ((cut_begin h17 h.ok hr (Nat.le_of_lt hp)).trans (ex_done ((ex_then e1).trans ((ex_next (ex_drop (ev_meth (n := 0) (ys := [.val (.int r), .val (strD (delL ln p))]) rfl (ev_ci (i := r) rfl (ev_cs (l := (delL ln p)) e5 rfl)) rfl g))).trans rfl))))
theorem spl1 {a n : Nat} (h : a + 2 = n + 1) (h2 : r + 2 ≤ n) (hm : n ≤ 64) : 0 < a ∧ a ≤ 64 := by lia
theorem ne_last {n : Nat} (h : r + 2 ≤ n) : ((r : Int) == (n : Int) - 1) = false := bfi fun q => by have := eq_of_beq q; lia
theorem le120 {a b : Nat} (h : a + b ≤ 120) : ¬ (120 : Int) < (a : Int) + b := by lia
theorem cut_line (h17 : Sp17 Γ) (h19 : Sp19 Γ) (h : Pg rows cts es) (hr : rows[r]? = some ln) (hr2 : rows[r + 1]? = some l2) (hp : p = ln.length) (hl : okLine (ln ++ l2) = true) : ∃ es', es'.length ≤ 128 ∧ Pg (splice rows [ln ++ l2] r 2) (splice cts [1] r 2) es' ∧ M Γ m_cut [pP rows cts es m ps] [.pg 0, .val (.int r), .val (.int p)] = .ret (.val .none) [pP (splice rows [ln ++ l2] r 2) (splice cts [1] r 2) es' (m + (cnt none 6 0 (splice rows [ln ++ l2] r 2).length : Nat)) (keepRows r 2 1 rows.length)] := by
 obtain ⟨hi, _⟩ := gsm hr2
 have hll := okLine_len (h.ok.rows ln (mog hr))
 have hl2 := okLine_len (h.ok.rows l2 (mog hr2))
 have hls := okLine_len hl
 have hsl := splice_len rows [ln ++ l2] (r := r) (g := 2) hi
 have hsl : (splice rows [ln ++ l2] r 2).length + 2 = rows.length + 1 := hsl
 have hn : OkText (splice rows [ln ++ l2] r 2) := h.ok.splice_rows (fun l hm => by rw [lsm hm]; exact hl) (spl1 hsl hi h.ok.most).1 (spl1 hsl hi h.ok.most).2
 obtain ⟨es', l, pg, g⟩ := h19 rows cts es m ps r 2 [ln ++ l2] h (fun l hm => by rw [lsm hm]; exact hl) hi hn
 refine ⟨es', l, pg, ?_⟩
 have e1 : ev Γ _ (cuS rows cts es m ps r p (sT ln)) = _ := cut_lt hll
 rw [dff (by rw [hp]; exact Nat.lt_irrefl _)] at e1
 have e2 := ev_cmp (Γ := Γ) (op := .Eq) (es := .cons q_1 (n_1 (bS_ (.peek .len (.fld 0 0) .nil) l_1))) (st := cuS rows cts es m ps r p (sT ln)) (u := .int r) (v := .int ((rows.length : Int) - 1)) (q := (r : Int) == (rows.length : Int) - 1) (ev_ci (i := r) rfl (ev_ci (i := ((rows.length : Int) - 1)) ((ev_op (ev_ci (i := rows.length) (rows_len h.ok rfl) rfl)).trans rfl) rfl)) rfl
 rw [ne_last hi] at e2
 have n1 : ev Γ (bA q_1 l_1) (cuS rows cts es m ps r p (sT ln)) = .ok [.val (.int (r + 1 : Nat))] (cuS rows cts es m ps r p (sT ln)) := rfl
 have n2 : ev Γ _ (cuS rows cts es m ps r p (sT ln)) = _ := row_at h.ok hr2 rfl n1
 have e3 := ev_cmp (Γ := Γ) (op := .Gt) (es := .cons (bA (.op .len (n_1 q_3)) (.op .len (n_1 (.peek .idx (.fld 0 0) (n_1 (bA q_1 l_1)))))) (n_1 (.glob 1))) (st := cuS rows cts es m ps r p (sT ln)) (u := .int ((ln.length : Int) + l2.length)) (v := .int 120) (q := decide ((120 : Int) < (ln.length : Int) + l2.length)) (ev_ci (i := ((ln.length : Int) + l2.length)) ((ev_op (ev_ci (i := ln.length) ((ev_op (fs := [.val (strD ln)]) rfl).trans (op_len (big hll))) (ev_ci (i := l2.length) ((ev_op (ev_cons n2 rfl)).trans (op_len (l := l2) (big hl2))) rfl))).trans rfl) rfl) rfl
 rw [dff (by rw [lap] at hls; exact le120 hls)] at e3
 have e5 : ev Γ (.op .lst (n_1 (bA q_3 (.peek .idx (.fld 0 0) (n_1 (bA q_1 l_1)))))) (cuS rows cts es m ps r p (sT ln)) = .ok [.own (sRows [ln ++ l2])] (cuS rows cts es m ps r p (sT ln)) :=
  (ev_op (ev_cs (l := (ln ++ l2)) ((ev_op (ev_cs (l := ln) rfl (ev_cons n2 rfl))).trans (op_cat (big (Nat.add_le_add hll hl2)))) rfl)).trans rfl
 exact run_none rfl ((cut_begin h17 h.ok hr (Nat.le_of_eq hp)).trans ((ex_skip e1).trans ((ex_skip e2).trans ((ex_skip e3).trans ((ex_next (ex_drop (ev_meth (n := 0) (ys := [.val (.int r), .val (.int 2), .val (.list (sRows [ln ++ l2]))]) rfl (ev_ci (i := r) rfl (ev_ci (i := 2) rfl (ev_cons e5 rfl))) rfl g))).trans rfl)))))
end
noncomputable def d_law_put : FnDef := ⟨0, "_law_put", ["_law_rows", "_law_row", "_law_place", "_law_sign"], ["_law_line", "_law_lines"], (.seq (.assign (.loc 4) (.op .idx (n_2 q_0 q_1))) (.seq (.assign (.loc 5) (.op .lst (n_1 (bA (bA (.op (.slc false true) (n_2 q_4 q_2)) q_3) (.op (.slc true false) (n_2 q_4 q_2)))))) (.seq (.iff (.cmp .Eq (n_2 q_3 (.lit (.str (S [10]))))) (.seq (.assign (.loc 5) (.op .lst (n_2 (.op (.slc false true) (n_2 q_4 q_2)) (.op (.slc true false) (n_2 q_4 q_2))))) .nil) .nil) (.seq (.ret (bA (bA (.op (.slc false true) (n_2 q_0 q_1)) q_5) (.op (.slc true false) (n_2 q_0 (bA q_1 l_1))))) .nil))))⟩
noncomputable def d_law_cut : FnDef := ⟨0, "_law_cut", ["_law_rows", "_law_row", "_law_place"], ["_law_line"], (.seq (.assign (.loc 3) (.op .idx (n_2 q_0 q_1))) (.seq (.iff (.cmp .Lt (n_2 q_2 (.op .len (n_1 q_3)))) (.seq (.ret (bA (bA (.op (.slc false true) (n_2 q_0 q_1)) (.op .lst (n_1 (bA (.op (.slc false true) (n_2 q_3 q_2)) (.op (.slc true false) (n_2 q_3 (bA q_2 l_1))))))) (.op (.slc true false) (n_2 q_0 (bA q_1 l_1))))) .nil) .nil) (.seq (.ret (bA (bA (.op (.slc false true) (n_2 q_0 q_1)) (.op .lst (n_1 (bA q_3 (.op .idx (n_2 q_0 (bA q_1 l_1))))))) (.op (.slc true false) (n_2 q_0 (bA q_1 l_2))))) .nil)))⟩
noncomputable def d_law_deed : FnDef := ⟨0, "_law_deed", ["_law_rows", "_law_cell"], ["_law_row", "_law_place", "_law_some", "_law_sign"], (.seq (.assign (.loc 2) (bM (bM (bX q_1 l_69621) l_100019) (.op .len (n_1 q_0)))) (.seq (.assign (.loc 3) (bM (bM (bX q_1 l_16807) l_10009) (bA (.op .len (n_1 (.op .idx (n_2 q_0 q_2)))) l_1))) (.seq (.iff (.cmp .Lt (n_2 (bM q_1 l_9) l_5)) (.seq (.assign (.loc 4) dP1) (.seq (.assign (.loc 5) (.op .idx (n_2 q_4 (bM (bM (bX q_1 l_48271) l_10007) l_10)))) (.seq (.iff (.or (.and (.cmp .Eq (n_2 q_5 (.lit (.str (S [10]))))) (.cmp .Eq (n_2 (.op .len (n_1 q_0)) l_64))) (.and (.cmp .NotEq (n_2 q_5 (.lit (.str (S [10]))))) (.cmp .Eq (n_2 (.op .len (n_1 (.op .idx (n_2 q_0 q_2)))) l_120)))) (.seq (.ret (.lit .none)) .nil) .nil) (.seq (.ret (.op .tup (n_4 l_0 q_2 q_3 q_5))) .nil)))) .nil) dC)))⟩
section
variable {Γ : Nat → Fn} {rows : LL} {r p c : Nat} {ln l2 : List Nat}
theorem eq_self {d : PyData} (hi : asI d = none) (hs : asS d = none) (h : shallow d = true) : eqF d d = some true := by
 unfold eqF op2
 rw [hi, hs, h]
 exact congrArg some (PySem.SeqAt.eqv_refl d (and2 h).1)
theorem get_row {st : St} {a b : CE} (h : OkText rows) (hr : rows[r]? = some ln) (ha : ev Γ a st = .ok [.val (.list (sRows rows))] st) (hb : ev Γ b st = .ok [.val (.int r)] st) : ev Γ (.op .idx (n_2 a b)) st = .ok [.val (strD ln)] st :=
 (ev_op (ev_cons (f := .val (.list (sRows rows))) ha (ev_ci (i := r) hb rfl))).trans (lop_idx (by rw [sRows_len]; have := h.most; lia) (by unfold sRows; rw [List.getElem?_map, hr]; rfl))
theorem ev_take {st : St} {a b : CE} (hl : ln.length ≤ 120) (hp : p ≤ 1000) (ha : ev Γ a st = .ok [.val (strD ln)] st) (hb : ev Γ b st = .ok [.val (.int p)] st) : ev Γ (.op (.slc false true) (n_2 a b)) st = .ok [.val (strD (ln.take p))] st :=
 (ev_op (ev_cs (l := ln) ha (ev_ci (i := p) hb rfl))).trans (op_lo (nlt hl (by decide)) (nlt hp (by decide)))
theorem ev_drop {st : St} {a b : CE} (hl : ln.length ≤ 120) (hp : p ≤ 1000) (ha : ev Γ a st = .ok [.val (strD ln)] st) (hb : ev Γ b st = .ok [.val (.int p)] st) : ev Γ (.op (.slc true false) (n_2 a b)) st = .ok [.val (strD (ln.drop p))] st :=
 (ev_op (ev_cs (l := ln) ha (ev_ci (i := p) hb rfl))).trans (op_hi (nlt hl (by decide)) (nlt hp (by decide)))
theorem ev_cat {st : St} {a b : CE} {x y : List Nat} (hx : x.length ≤ 1000) (hy : y.length ≤ 1000) (ha : ev Γ a st = .ok [.val (strD x)] st) (hb : ev Γ b st = .ok [.val (strD y)] st) : ev Γ (bA a b) st = .ok [.val (strD (x ++ y))] st :=
 (ev_op (ev_cs (l := x) ha (ev_cs (l := y) hb rfl))).trans (op_cat (nlt (Nat.add_le_add hx hy) (by decide)))
theorem ev_slen {st : St} {a : CE} (hl : ln.length ≤ 120) (ha : ev Γ a st = .ok [.val (strD ln)] st) : ev Γ (.op .len (n_1 a)) st = .ok [.val (.int ln.length)] st :=
 (ev_op (ev_cs (l := ln) ha rfl)).trans (op_len (nlt hl (by decide)))
theorem ev_rlen {st : St} {a : CE} (h : OkText rows) (ha : ev Γ a st = .ok [.val (.list (sRows rows))] st) : ev Γ (.op .len (n_1 a)) st = .ok [.val (.int rows.length)] st :=
 (ev_op (ev_cons (f := .val (.list (sRows rows))) ha rfl)).trans ((lop_len (by rw [sRows_len]; have := h.most; lia)).trans (by rw [sRows_len]))
noncomputable def linesP (ln : List Nat) (p c : Nat) : LL := if c = 10 then [ln.take p, ln.drop p] else [insL ln p c]
theorem lines_len : (linesP ln p c).length ≤ 2 := by
 unfold linesP; split
 · exact Nat.le_refl 2
 · exact Nat.le_succ 1
theorem take_le (hl : ln.length ≤ 120) : (ln.take p).length ≤ 120 := nlt (List.length_take_le' ..) hl
theorem drop_le (hl : ln.length ≤ 120) : (ln.drop p).length ≤ 120 := nlt (by rw [List.length_drop]; exact Nat.sub_le ..) hl
noncomputable abbrev lpS (rows : LL) (r p c : Nat) (a b : Option F) : St := ⟨[some (vR rows), some (.val (.int r)), some (.val (.int p)), some (.val (sgn c)), a, b], [], 0⟩
theorem law_put_ok (h : OkText rows) (hr : rows[r]? = some ln) (hp : p ≤ ln.length) : B Γ d_law_put [.val (.list (sRows rows)), .val (.int r), .val (.int p), .val (sgn c)] = .ret (.own (sRows (splice rows (linesP ln p c) r 1))) [] := by
 obtain ⟨hi, _⟩ := gsm hr
 have hm := h.most
 have hl := okLine_len (h.rows ln (mog hr))
 have hp' : p ≤ 1000 := nlt hp (big hl)
 have e1 : ex Γ (.assign (.loc 4) _) (lpS rows r p c none none) = .ok .next (lpS rows r p c (sT ln) none) := (ex_assign (get_row (a := .get (.loc 0)) (b := .get (.loc 1)) h hr rfl rfl)).trans rfl
 have a1 : ∀ {b : Option F}, ev Γ (.op (.slc false true) (n_2 q_4 q_2)) (lpS rows r p c (sT ln) b) = .ok [.val (strD (ln.take p))] _ := ev_take hl hp' rfl rfl
 have a2 : ∀ {b : Option F}, ev Γ (.op (.slc true false) (n_2 q_4 q_2)) (lpS rows r p c (sT ln) b) = .ok [.val (strD (ln.drop p))] _ := ev_drop hl hp' rfl rfl
 have t1 : (ln.take p).length ≤ 120 := take_le hl
 have t2 : (ln.drop p).length ≤ 120 := drop_le hl
 have a3 : ev Γ _ (lpS rows r p c (sT ln) none) = .ok [.val (strD (insL ln p c))] (lpS rows r p c (sT ln) none) := ev_cat (x := ln.take p ++ [c]) (by rw [lap]; exact big (Nat.add_le_add_right t1 1)) (big t2) (ev_cat (y := [c]) (b := .get (.loc 3)) (big t1) (show 1 ≤ 1000 by decide) a1 rfl) a2
 have e2 : ex Γ (.assign (.loc 5) (.op .lst (n_1 _))) (lpS rows r p c (sT ln) none) = .ok .next (lpS rows r p c (sT ln) (some (.own (sRows [insL ln p c])))) := (ex_assign ((ev_op (ev_cs (l := (insL ln p c)) a3 rfl)).trans rfl)).trans rfl
 have e3 : ex Γ (.iff (.cmp .Eq (n_2 q_3 (.lit (.str (S [10]))))) (.seq (.assign (.loc 5) (.op .lst (n_2 (.op (.slc false true) (n_2 q_4 q_2)) (.op (.slc true false) (n_2 q_4 q_2))))) .nil) .nil) (lpS rows r p c (sT ln) (some (.own (sRows [insL ln p c])))) = .ok .next (lpS rows r p c (sT ln) (some (.own (sRows (linesP ln p c))))) := by
  have q := ev_cmp (Γ := Γ) (op := .Eq) (es := .cons q_3 (n_1 (.lit (.str (S [10]))))) (st := lpS rows r p c (sT ln) (some (.own (sRows [insL ln p c])))) (u := sgn c) (v := .str (S [10])) (q := [c] == [10]) rfl rfl
  unfold linesP
  by_cases hc : c = 10
  · rw [if_pos hc]
    rw [show ([c] == [10]) = true by rw [hc]; rfl] at q
    exact (ex_then q).trans ((ex_next ((ex_assign ((ev_op (ev_cs (l := (ln.take p)) a1 (ev_cs (l := (ln.drop p)) a2 rfl))).trans rfl)).trans rfl)).trans rfl)
  · rw [if_neg hc]
    rw [show ([c] == [10]) = false from bfi fun z => hc (List.cons.inj (eq_of_beq z)).1] at q
    exact (ex_else q).trans rfl
 have e4 := splice_ok (Γ := Γ) (p := .loc 0) (E := .get (.loc 5)) (rE := .get (.loc 1)) (gE := .lit (.int 1)) (r := r) (g := 1) (f := .val (.list (sRows (linesP ln p c)))) (xs := sRows rows) (ys := sRows (linesP ln p c)) (st := lpS rows r p c (sT ln) (some (.own (sRows (linesP ln p c))))) (st1 := lpS rows r p c (sT ln) (some (.own (sRows (linesP ln p c))))) (st2 := lpS rows r p c (sT ln) (some (.val (.list (sRows (linesP ln p c)))))) rfl rfl rfl rfl rfl rfl rfl (by rw [sRows_len]; lia) (by rw [sRows_len]; exact nlt lines_len (by decide)) (by lia)
 rw [show splice (sRows rows) (sRows (linesP ln p c)) r 1 = sRows (splice rows (linesP ln p c) r 1) from splice_map ..] at e4
 exact run_of rfl ((ex_next e1).trans ((ex_next e2).trans ((ex_next e3).trans (ex_done (ret_own e4)))))
noncomputable abbrev lcS (rows : LL) (r p : Nat) (a : Option F) : St := ⟨[some (vR rows), some (.val (.int r)), some (.val (.int p)), a], [], 0⟩
theorem lc_lt (hl : ln.length ≤ 120) : ev Γ (.cmp .Lt (n_2 q_2 (.op .len (n_1 q_3)))) (lcS rows r p (sT ln)) = .ok [bV (decide (p < ln.length))] (lcS rows r p (sT ln)) :=
 (ev_cmp (u := .int p) (v := .int ln.length) (ev_ci (i := p) rfl (ev_ci (i := ln.length) (ev_slen hl rfl) rfl)) rfl).trans (congrArg (fun q => Mine.Internal.R.ok [bV q] _) (decide_eq_decide.mpr Int.ofNat_lt))
theorem law_cut_sign (h : OkText rows) (hr : rows[r]? = some ln) (hp : p < ln.length) : B Γ d_law_cut [.val (.list (sRows rows)), .val (.int r), .val (.int p)] = .ret (.own (sRows (splice rows [delL ln p] r 1))) [] := by
 obtain ⟨hi, _⟩ := gsm hr
 have hm := h.most
 have hl := okLine_len (h.rows ln (mog hr))
 have e1 : ex Γ (.assign (.loc 3) _) (lcS rows r p none) = .ok .next (lcS rows r p (sT ln)) := (ex_assign (get_row (a := .get (.loc 0)) (b := .get (.loc 1)) h hr rfl rfl)).trans rfl
 have e2 : ev Γ _ (lcS rows r p (sT ln)) = _ := lc_lt hl
 rw [dtt hp] at e2
 have a3 : ev Γ _ (lcS rows r p (sT ln)) = .ok [.val (strD (delL ln p))] (lcS rows r p (sT ln)) := ev_cat (nlt (take_le hl) (by decide)) (nlt (drop_le hl) (by decide)) (ev_take (a := .get (.loc 3)) (b := .get (.loc 2)) (p := p) hl (by lia) rfl rfl) (ev_drop (a := .get (.loc 3)) (b := .op (.bin .Add) (n_2 q_2 l_1)) (p := p + 1) hl (by lia) rfl rfl)
 have e4 := splice_ok (Γ := Γ) (p := .loc 0) (rE := .get (.loc 1)) (gE := .lit (.int 1)) (r := r) (g := 1) (f := .own (sRows [delL ln p])) (xs := sRows rows) (ys := sRows [delL ln p]) (st := lcS rows r p (sT ln)) (st1 := lcS rows r p (sT ln)) (st2 := lcS rows r p (sT ln)) rfl rfl ((ev_op (o := .lst) (ev_cs (b := .nil) (l := (delL ln p)) a3 rfl)).trans rfl) rfl rfl rfl rfl (by rw [sRows_len]; lia) (by rw [sRows_len]; exact show 1 ≤ 1000 by decide) (by lia)
 rw [show splice (sRows rows) (sRows [delL ln p]) r 1 = sRows (splice rows [delL ln p] r 1) from splice_map ..] at e4
 exact run_of rfl ((ex_next e1).trans (ex_done ((ex_then e2).trans (ex_done (ret_own e4)))))
theorem law_cut_line (h : OkText rows) (hr : rows[r]? = some ln) (hr2 : rows[r + 1]? = some l2) (hp : p = ln.length) : B Γ d_law_cut [.val (.list (sRows rows)), .val (.int r), .val (.int p)] = .ret (.own (sRows (splice rows [ln ++ l2] r 2))) [] := by
 obtain ⟨hi, _⟩ := gsm hr2
 have hm := h.most
 have hl := okLine_len (h.rows ln (mog hr))
 have hl2 := okLine_len (h.rows l2 (mog hr2))
 have e1 : ex Γ (.assign (.loc 3) _) (lcS rows r p none) = .ok .next (lcS rows r p (sT ln)) := (ex_assign (get_row (a := .get (.loc 0)) (b := .get (.loc 1)) h hr rfl rfl)).trans rfl
 have e2 : ev Γ _ (lcS rows r p (sT ln)) = _ := lc_lt hl
 rw [dff (by lia)] at e2
 have a3 : ev Γ _ (lcS rows r p (sT ln)) = .ok [.val (strD (ln ++ l2))] (lcS rows r p (sT ln)) := ev_cat (a := .get (.loc 3)) (nlt hl (by decide)) (nlt hl2 (by decide)) rfl (get_row (a := .get (.loc 0)) (b := .op (.bin .Add) (n_2 q_1 l_1)) h hr2 rfl rfl)
 have e4 := splice_ok (Γ := Γ) (p := .loc 0) (rE := .get (.loc 1)) (gE := .lit (.int 2)) (r := r) (g := 2) (f := .own (sRows [ln ++ l2])) (xs := sRows rows) (ys := sRows [ln ++ l2]) (st := lcS rows r p (sT ln)) (st1 := lcS rows r p (sT ln)) (st2 := lcS rows r p (sT ln)) rfl rfl ((ev_op (o := .lst) (ev_cs (b := .nil) (l := (ln ++ l2)) a3 rfl)).trans rfl) rfl rfl rfl rfl (by rw [sRows_len]; lia) (by rw [sRows_len]; exact show 1 ≤ 1000 by decide) (by lia)
 rw [show splice (sRows rows) (sRows [ln ++ l2]) r 2 = sRows (splice rows [ln ++ l2] r 2) from splice_map ..] at e4
 exact run_of rfl ((ex_next e1).trans ((ex_skip e2).trans (ex_done (ret_own e4))))
end
section
variable {Γ : Nat → Fn} {rows : LL} {r p c : Nat} {ln l2 : List Nat} {X : Int}
theorem op_mod {a b : Int} {st : St} (h : (b != 0) = true) : opE (.bin .Mod) [.val (.int a), .val (.int b)] st = .ok [.val (.int (a.fmod b))] st := by
 show oneO (gd (b != 0) (F.val (.int (a.fmod b)))) st = _
 rw [h]; rfl
theorem fmod_nat (a : Int) {n : Nat} (hn : 0 < n) : ∃ r : Nat, r < n ∧ a.fmod n = r := by
 have h1 := fmod_lo a (b := n) (by lia)
 have h2 := fmod_hi a (b := n) (by lia)
 exact ⟨(a.fmod n).toNat, by lia, by lia⟩
theorem ev_mod3 {st : St} {a b : CE} {k m : Int} {n : Nat} (hk : small k = true) (hm : (m != 0) = true) (hn : 0 < n) (ha : ev Γ a st = .ok [.val (.int X)] st) (hb : ev Γ b st = .ok [.val (.int n)] st) : ∃ r : Nat, r < n ∧ ev Γ (bM (bM (bX a (.lit (.int k))) (.lit (.int m))) b) st = .ok [.val (.int r)] st := by
 obtain ⟨r, h1, h2⟩ := fmod_nat ((X * k).fmod m) hn
 refine ⟨r, h1, ?_⟩
 rw [← h2]
 exact (ev_op (ev_ci (i := ((X * k).fmod m)) ((ev_op (ev_ci (i := (X * k)) ((ev_op (ev_ci (i := X) ha rfl)).trans (op_mul (.inr hk))) rfl)).trans (op_mod hm)) (ev_ci (i := n) hb rfl))).trans (op_mod (bne_iff_ne.mpr (by lia)))
inductive Deed (rows : LL) : PyData → Prop where
 | no : Deed rows .none
 | put (r p c : Nat) (ln : List Nat) (hr : rows[r]? = some ln) (hp : p ≤ ln.length) (h : (c = 10 ∧ rows.length < 64) ∨ (isSign c = true ∧ ln.length < 120)) : Deed rows (.tuple [.int 0, .int r, .int p, sgn c])
 | cut (r p : Nat) (ln : List Nat) (hr : rows[r]? = some ln) (h : p < ln.length ∨ (p = ln.length ∧ ∃ l2, rows[r + 1]? = some l2 ∧ ln.length + l2.length ≤ 120)) : Deed rows (.tuple [.int 1, .int r, .int p, .str (S [])])
noncomputable abbrev dS (rows : LL) (X : Int) (a b c d : Option F) : St := ⟨[some (vR rows), some (.val (.int X)), a, b, c, d], [], 0⟩
noncomputable def dL (X : Int) : List Nat := [40, 41, 91, 93, 123, 125, 10, 32, 97, anyS (X.fdiv 11)]
theorem dL_ok : ∀ c ∈ dL X, c = 10 ∨ isSign c = true := fun c hc => by
 unfold dL at hc
 simp only [List.mem_cons, List.not_mem_nil, or_false] at hc
 rcases hc with rfl | rfl | rfl | rfl | rfl | rfl | rfl | rfl | rfl | rfl
 all_goals first | exact .inl rfl | exact .inr rfl | exact .inr (anyS_ok _)
theorem dP_ok (h31 : Sp31 Γ) (h : OkText rows) (hr : rows[r]? = some ln) (hp : p ≤ ln.length) : ∃ d v', Deed rows d ∧ ex Γ dP (dS rows X (sI r) (sI p) none none) = .ok (.ret (.val d)) ⟨v', [], 0⟩ := by
 have hm := h.most
 have hl := okLine_len (h.rows ln (mog hr))
 have e1 : ex Γ (.assign (.loc 4) dP1) (dS rows X (sI r) (sI p) none none) = .ok .next (dS rows X (sI r) (sI p) (some (.own ((dL X).map sgn))) none) := by
  have a0 : ev Γ dP1 (dS rows X (sI r) (sI p) none none) = .ok [.own ((dL X).map sgn)] (dS rows X (sI r) (sI p) none none) := by
   refine (ev_op (fs := (dL X).map fun c => F.val (sgn c)) ?_).trans rfl
   refine ev_cons (f := .val (sgn 40)) rfl (ev_cons (f := .val (sgn 41)) rfl (ev_cons (f := .val (sgn 91)) rfl (ev_cons (f := .val (sgn 93)) rfl (ev_cons (f := .val (sgn 123)) rfl (ev_cons (f := .val (sgn 125)) rfl (ev_cons (f := .val (sgn 10)) rfl (ev_cons (f := .val (sgn 32)) rfl (ev_cons (f := .val (sgn 97)) rfl (ev_cons (f := .val (sgn (anyS (X.fdiv 11)))) ?_ rfl)))))))))
   exact ev_fn (fs := [.val (.int (X.fdiv 11))]) rfl rfl (h31 (X.fdiv 11))
  exact (ex_assign a0).trans rfl
 obtain ⟨j, hj, e2⟩ := ev_mod3 (Γ := Γ) (X := X) (st := dS rows X (sI r) (sI p) (some (.val (.list ((dL X).map sgn)))) none) (a := .get (.loc 1)) (b := .lit (.int 10)) (k := 48271) (m := 10007) (n := 10) rfl rfl (by decide) rfl rfl
 obtain ⟨c, hc⟩ : ∃ c, (dL X)[j]? = some c := ⟨_, geg (show j < (dL X).length from hj)⟩
 have e3 : ex Γ (.assign (.loc 5) (.op .idx (n_2 q_4 (bM (bM (bX q_1 l_48271) l_10007) l_10)))) (dS rows X (sI r) (sI p) (some (.own ((dL X).map sgn))) none) = .ok .next (dS rows X (sI r) (sI p) (some (.val (.list ((dL X).map sgn)))) (sG c)) :=
  (ex_assign ((ev_op (ev_cons (f := .val (.list ((dL X).map sgn))) rfl (ev_ci (i := j) e2 rfl))).trans (lop_idx (show 10 ≤ 200000 by decide) (by rw [List.getElem?_map, hc]; rfl)))).trans rfl
 have t1 := ev_or (Γ := Γ) (ev_and (a := .cmp .Eq (n_2 q_5 (.lit (.str (S [10]))))) (st := dS rows X (sI r) (sI p) (some (.val (.list ((dL X).map sgn)))) (sG c)) (x := [c] == [10]) rfl fun _ => ev_cmp (op := .Eq) (es := .cons (.op .len (n_1 q_0)) (n_1 l_64)) (u := .int rows.length) (v := .int 64) (q := (rows.length : Int) == 64) (ev_ci (i := rows.length) (ev_rlen h rfl) rfl) rfl) fun _ => ev_and (a := .cmp .NotEq (n_2 q_5 (.lit (.str (S [10]))))) (x := !([c] == [10])) rfl fun _ => ev_cmp (op := .Eq) (es := .cons (.op .len (n_1 (.op .idx (n_2 q_0 q_2)))) (n_1 l_120)) (u := .int ln.length) (v := .int 120) (q := (ln.length : Int) == 120) (ev_ci (i := ln.length) (ev_slen hl (get_row h hr rfl rfl)) rfl) rfl
 cases hq : (([c] == [10]) && ((rows.length : Int) == 64)) || (!([c] == [10]) && ((ln.length : Int) == 120)) with
 | true =>
  rw [hq] at t1
  exact ⟨.none, _, .no, (ex_next e1).trans ((ex_next e3).trans (ex_done ((ex_then t1).trans (ex_done (ret_val rfl)))))⟩
 | false =>
  rw [hq] at t1
  refine ⟨_, _, .put r p c ln hr hp ?_, (ex_next e1).trans ((ex_next e3).trans ((ex_skip t1).trans (ex_done (ret_val rfl))))⟩
  rw [Bool.or_eq_false_iff] at hq
  by_cases h10 : c = 10
  · have := hq.1
    rw [h10, show (([10] : List Nat) == [10]) = true from rfl, Bool.true_and] at this
    exact .inl ⟨h10, Nat.lt_of_le_of_ne hm fun q => by rw [q] at this; cases this⟩
  · have := hq.2
    rw [show ([c] == [10]) = false from bfi fun z => h10 (List.cons.inj (eq_of_beq z)).1, Bool.not_false, Bool.true_and] at this
    exact .inr ⟨(dL_ok c (mog hc)).resolve_left h10, Nat.lt_of_le_of_ne hl fun q => by rw [q] at this; cases this⟩
theorem dC_ok (h : OkText rows) (hr : rows[r]? = some ln) (hp : p ≤ ln.length) : ∃ d v', Deed rows d ∧ ex Γ dC (dS rows X (sI r) (sI p) none none) = .ok (.ret (.val d)) ⟨v', [], 0⟩ := by
 have hm := h.most
 have hl := okLine_len (h.rows ln (mog hr))
 have e1 := (ev_cmp (Γ := Γ) (op := .Lt) (es := .cons q_3 (n_1 (.op .len (n_1 (.op .idx (n_2 q_0 q_2)))))) (st := dS rows X (sI r) (sI p) none none) (u := .int p) (v := .int ln.length) (q := decide ((p : Int) < ln.length)) (ev_ci (i := p) rfl (ev_ci (i := ln.length) (ev_slen hl (get_row h hr rfl rfl)) rfl)) rfl)
 by_cases hlt : p < ln.length
 · rw [dtt (Int.ofNat_lt.mpr hlt)] at e1
   exact ⟨_, _, .cut r p ln hr (.inl hlt), ex_done ((ex_then e1).trans (ex_done (ret_val rfl)))⟩
 · rw [dff fun q => hlt (Int.ofNat_lt.mp q)] at e1
   have hpe : p = ln.length := Nat.le_antisymm hp (Nat.le_of_not_lt hlt)
   have a1 := (ev_cmp (Γ := Γ) (op := .Eq) (es := .cons (bA q_2 l_1) (n_1 (.op .len (n_1 q_0)))) (st := dS rows X (sI r) (sI p) none none) (u := .int (r + 1 : Nat)) (v := .int rows.length) (q := ((r + 1 : Nat) : Int) == rows.length) (ev_ci (i := (r + 1 : Nat)) rfl (ev_ci (i := rows.length) (ev_rlen h rfl) rfl)) rfl)
   cases hr2 : rows[r + 1]? with
   | none =>
    have hn : r + 1 = rows.length := Nat.le_antisymm (gsm hr).1 (List.getElem?_eq_none_iff.mp hr2)
    rw [show (((r + 1 : Nat) : Int) == rows.length) = true by rw [hn]; exact beq_self_eq_true _] at a1
    exact ⟨_, _, .no, (ex_skip e1).trans (ex_done ((ex_then (ev_or (x := true) (y := false) a1 fun q => nomatch q)).trans (ex_done (ret_val rfl))))⟩
   | some l2 =>
    have hn : r + 1 < rows.length := (gsm hr2).1
    have hl2 := okLine_len (h.rows l2 (mog hr2))
    rw [show (((r + 1 : Nat) : Int) == rows.length) = false from bfi fun q => Nat.ne_of_lt hn (Int.ofNat_inj.mp (eq_of_beq q))] at a1
    have a2 := ev_or a1 fun _ => ev_cmp (op := .Gt) (es := .cons (bA (.op .len (n_1 (.op .idx (n_2 q_0 q_2)))) (.op .len (n_1 (.op .idx (n_2 q_0 (bA q_2 l_1)))))) (n_1 l_120)) (u := .int (ln.length + l2.length : Nat)) (v := .int 120) (q := decide ((120 : Int) < (ln.length + l2.length : Nat))) (ev_ci (i := (ln.length + l2.length : Nat)) ((ev_op (ev_ci (i := ln.length) (ev_slen hl (get_row h hr rfl rfl)) (ev_ci (i := l2.length) (ev_slen hl2 (get_row (r := r + 1) h hr2 rfl rfl)) rfl))).trans rfl) rfl) rfl
    by_cases h120 : 120 < ln.length + l2.length
    · rw [dtt (show (120 : Int) < (ln.length + l2.length : Nat) by lia)] at a2
      exact ⟨_, _, .no, (ex_skip e1).trans (ex_done ((ex_then a2).trans (ex_done (ret_val rfl))))⟩
    · rw [dff (show ¬ (120 : Int) < (ln.length + l2.length : Nat) by lia)] at a2
      exact ⟨_, _, .cut r p ln hr (.inr ⟨hpe, l2, hr2, Nat.le_of_not_lt h120⟩), (ex_skip e1).trans ((ex_skip a2).trans (ex_done (ret_val rfl)))⟩
theorem deed_ok (h31 : Sp31 Γ) (h : OkText rows) : ∃ d, Deed rows d ∧ B Γ d_law_deed [.val (.list (sRows rows)), .val (.int X)] = .ret (.val d) [] := by
 obtain ⟨r, hr, e1⟩ := ev_mod3 (Γ := Γ) (X := X) (st := dS rows X none none none none) (a := .get (.loc 1)) (k := 69621) (m := 100019) (n := rows.length) rfl rfl h.one rfl (ev_rlen (a := .get (.loc 0)) h rfl)
 obtain ⟨ln, hln⟩ : ∃ ln, rows[r]? = some ln := ⟨_, geg hr⟩
 have hl := okLine_len (h.rows ln (mog hln))
 obtain ⟨p, hp, e2⟩ := ev_mod3 (Γ := Γ) (X := X) (st := dS rows X (sI r) none none none) (a := .get (.loc 1)) (b := .op (.bin .Add) (n_2 (.op .len (n_1 (.op .idx (n_2 q_0 q_2)))) l_1)) (k := 16807) (m := 10009) (n := ln.length + 1) rfl rfl (Nat.succ_pos _) rfl ((ev_op (ev_ci (i := ln.length) (ev_slen hl (get_row h hln rfl rfl)) rfl)).trans rfl)
 have b1 : ex Γ (.assign (.loc 2) _) (dS rows X none none none none) = .ok .next (dS rows X (sI r) none none none) := (ex_assign e1).trans rfl
 have b2 : ex Γ (.assign (.loc 3) _) (dS rows X (sI r) none none none) = .ok .next (dS rows X (sI r) (sI p) none none) := (ex_assign e2).trans rfl
 have b3 : ev Γ (.cmp .Lt (n_2 (bM q_1 l_9) l_5)) (dS rows X (sI r) (sI p) none none) = .ok [bV (decide (X.fmod 9 < 5))] (dS rows X (sI r) (sI p) none none) := rfl
 cases hq : decide (X.fmod 9 < 5) with
 | true =>
  rw [hq] at b3
  obtain ⟨d, v', hd, g⟩ := dP_ok (Γ := Γ) (X := X) h31 h hln (Nat.le_of_lt_succ hp)
  exact ⟨d, hd, run_of rfl ((ex_next b1).trans ((ex_next b2).trans (ex_done ((ex_then b3).trans g))))⟩
 | false =>
  rw [hq] at b3
  obtain ⟨d, v', hd, g⟩ := dC_ok (Γ := Γ) (X := X) h hln (Nat.le_of_lt_succ hp)
  exact ⟨d, hd, run_of rfl ((ex_next b1).trans ((ex_next b2).trans ((ex_skip b3).trans g)))⟩
end
structure Kd' (P : Tab) : Prop where
 l1 : P.lookup 1 = some d_is_sign
 l2 : P.lookup 2 = some d_is_row
 l3 : P.lookup 3 = some d_is_text
 l4 : P.lookup 4 = some d_is_bracket
 l5 : P.lookup 5 = some d_taken_apart
 l7 : P.lookup 7 = some d_lower
 l8 : P.lookup 8 = some d_reading_of
 l9 : P.lookup 9 = some d_joined
 l10 : P.lookup 10 = some d_fault_in
structure Pd' (P : Tab) : Prop extends Kd' P where
 l0 : P.lookup 0 = some m_init
 l15 : P.lookup 15 = some m_join_all
 l16 : P.lookup 16 = some m_join_over
 l17 : P.lookup 17 = some m_need_place
 l18 : P.lookup 18 = some m_change_row
 l19 : P.lookup 19 = some m_change_rows
 l20 : P.lookup 20 = some m_put
 l21 : P.lookup 21 = some m_cut
 l22 : P.lookup 22 = some m_text
 l23 : P.lookup 23 = some m_fault
structure Td' (P : Tab) : Prop where
 l30 : P.lookup 30 = some d_law_cell_at
 l31 : P.lookup 31 = some d_law_any_sign
 l32 : P.lookup 32 = some d_law_stream
 l33 : P.lookup 33 = some d_law_text
section
variable {P : Tab} {k : Nat} {d : FnDef} (n : Nat)
theorem gam (h : P.lookup k = some d) (p : List Slots) (fs : List F) : Gam P (n + 1) k p fs = M (Gam P n) d p fs := congrFun (congrFun (gam_s h) p) fs
variable (H : Kd' P)
include H
theorem sp1 : Sp1 (Gam P (n + 1)) := fun c => (gam n H.l1 _ _).trans is_sign_ok
theorem sp2 : Sp2 (Gam P (n + 2)) := fun d hd => (gam _ H.l2 _ _).trans (is_row_ok (sp1 n H) hd)
theorem sp3 : Sp3 (Gam P (n + 3)) := fun ds hz hr => (gam _ H.l3 _ _).trans (is_text_ok (sp2 n H) hz hr)
theorem sp4 : Sp4 (Gam P (n + 1)) := ⟨fun c => (gam n H.l4 _ _).trans is_bracket_ok, fun w hw h => (gam n H.l4 _ _).trans (is_bracket_word hw h)⟩
theorem sp5 : Sp5 (Gam P (n + 2)) := fun L hL => (gam _ H.l5 _ _).trans (taken_apart_ok (sp4 n H) hL)
theorem sp7 : Sp7 (Gam P (n + 1)) := fun m k => (gam n H.l7 _ _).trans lower_ok
theorem sp9 : Sp9 (Gam P (n + 2)) := fun a b k hc hz => (gam _ H.l9 _ _).trans (joined_ok (sp7 n H) hc hz)
theorem sp8 : Sp8 (Gam P (n + 3)) := fun ts hg hz => (gam _ H.l8 _ _).trans (reading_of_ok (sp4 (n + 1) H) (sp9 n H) ts hg hz)
theorem sp10 : Sp10 (Gam P (n + 1)) := fun R hz => (gam n H.l10 _ _).trans (fault_in_ok hz)
end
section
variable {P : Tab} (n : Nat) (H : Pd' P)
include H
theorem sJ {rows : LL} (h : OkText rows) : ∀ k n, J k (Gam P (n + 4 + k)) rows
 | 0, n => J_of (sp8 n H.toKd') (sp9 (n + 1) H.toKd') h (fun q => absurd rfl q) fun p fs => gam _ H.l16 _ _
 | k + 1, n => J_of (k := k + 1) (Γ := Gam P (n + 4 + k)) (show Sp8 (Gam P (n + 4 + k)) by rw [show n + 4 + k = (n + k + 1) + 3 by lia]; exact sp8 _ H.toKd') (by rw [show n + 4 + k = (n + k + 2) + 2 by lia]; exact sp9 _ H.toKd') h (fun _ => sJ h k n) fun p fs => gam _ H.l16 _ _
theorem sp15 : Sp15 (Gam P (n + 11)) := fun rows h b es m e => by
 obtain ⟨es', h1, h2, h3⟩ := join_all_ok (b := b) (es := es) (m := m) (e := e) (sJ H h 6 n) h
 exact ⟨es', h1, h2, (gam _ H.l15 _ _).trans h3⟩
theorem sp17 : Sp17 (Gam P (n + 1)) := fun rows cts es m ps r p ln h hr hp => (gam _ H.l17 _ _).trans (need_place_ok h hr hp)
theorem sp18 : Sp18 (Gam P (n + 11)) := fun rows cts es m ps r ln h hr hl hz => by
 obtain ⟨es', h1, h2, h3⟩ := change_row_ok (m := m) (ps := ps) (sp5 (n + 8) H.toKd') (sJ H (h.ok.set hl) 6 n) h hr hl hz
 exact ⟨es', h1, h2, (gam _ H.l18 _ _).trans h3⟩
theorem sp19 : Sp19 (Gam P (n + 12)) := fun rows cts es m ps r g fr h hf hg hn => by
 obtain ⟨es', h1, h2, h3⟩ := change_rows_ok (m := m) (ps := ps) (sp5 (n + 9) H.toKd') (sp15 n H) h hf hg hn
 exact ⟨es', h1, h2, (gam _ H.l19 _ _).trans h3⟩
end
section
variable {P : Tab} (n : Nat) (H : Td' P)
include H
theorem sp30 : Sp30 (Gam P (n + 1)) := fun xs hx j => (gam _ H.l30 _ _).trans (cell_ok hx)
theorem sp31 : Sp31 (Gam P (n + 1)) := fun c => (gam _ H.l31 _ _).trans any_sign_ok
theorem sp32 : Sp32 (Gam P (n + 2)) := fun c sz pt hs => let ⟨l, h1, h2⟩ := stream_ok (sp31 n H) c sz pt hs; ⟨l, h1, (gam _ H.l32 _ _).trans h2⟩
theorem sp33 : Sp33 (Gam P (n + 3)) := fun xs hx => let ⟨rows, h1, h2⟩ := text_ok (sp30 (n + 1) H) (sp31 (n + 1) H) (sp32 n H) hx; ⟨rows, h1, (gam _ H.l33 _ _).trans h2⟩
end
section
variable {rows : LL} {r p c : Nat} {ln : List Nat}
theorem okLine_ins (h : okLine ln = true) (hc : isSign c = true) (hl : ln.length < 120) : okLine (insL ln p c) = true := by
 obtain ⟨_, h2⟩ := and2 h
 unfold okLine insL
 rw [dtt ?_, Bool.true_and, List.all_append, List.all_append, Bool.and_eq_true, Bool.and_eq_true]
 · exact ⟨⟨List.all_eq_true.mpr fun x hx => List.all_eq_true.mp h2 x (List.mem_of_mem_take hx), by rw [List.all_cons, hc]; rfl⟩, List.all_eq_true.mpr fun x hx => List.all_eq_true.mp h2 x (List.mem_of_mem_drop hx)⟩
 · rw [lap, lap]
   show (ln.take p).length + 1 + (ln.drop p).length ≤ 120
   rw [Nat.add_right_comm, ← lap, List.take_append_drop]; exact hl
theorem okLine_sub {a : List Nat} (h : okLine ln = true) (hs : a.Sublist ln) : okLine a = true := by
 obtain ⟨h1, h2⟩ := and2 h
 unfold okLine
 rw [dtt (nlt hs.length_le (odt h1)), Bool.true_and]
 exact List.all_eq_true.mpr fun x hx => List.all_eq_true.mp h2 x (hs.subset hx)
theorem okLine_cat {a b : List Nat} (h1 : okLine a = true) (h2 : okLine b = true) (hl : a.length + b.length ≤ 120) : okLine (a ++ b) = true := by
 unfold okLine
 rw [dtt (by rw [lap]; exact hl), Bool.true_and, List.all_append, (and2 h1).2, (and2 h2).2]; rfl
theorem set_splice {α : Type} {xs : List α} {x : α} {r : Nat} (h : r < xs.length) : xs.set r x = splice xs [x] r 1 := by
 unfold splice
 rw [List.set_eq_take_append_cons_drop, if_pos h, List.append_assoc]; rfl
noncomputable def cutR (rows : LL) (r p : Nat) : LL := if p < (rows[r]?.getD []).length then splice rows [delL (rows[r]?.getD []) p] r 1 else splice rows [rows[r]?.getD [] ++ rows[r + 1]?.getD []] r 2
theorem law_cut_all {Γ : Nat → Fn} (h : OkText rows) (hr : rows[r]? = some ln) (hc : p < ln.length ∨ (p = ln.length ∧ ∃ l2, rows[r + 1]? = some l2 ∧ ln.length + l2.length ≤ 120)) : B Γ d_law_cut [.val (.list (sRows rows)), .val (.int r), .val (.int p)] = .ret (.own (sRows (cutR rows r p))) [] := by
 unfold cutR
 rw [hr, Option.getD_some]
 rcases hc with hc | ⟨hc, l2, hr2, hc2⟩
 · rw [if_pos hc]; exact law_cut_sign h hr hc
 · rw [if_neg (Nat.not_lt.mpr (Nat.le_of_eq hc.symm)), hr2, Option.getD_some]; exact law_cut_line h hr hr2 hc
end
theorem ok_d0 {ms : List Mk} (h : faultR (run .nil ms) = .ok) : dM ms 0 = some 0 := by
 rw [fault_same] at h
 cases hl : lf ms [] with
 | inl f => rw [hl] at h; cases show f = .ok from h; exact absurd hl (lf_inl ms [])
 | inr wt =>
  rw [hl] at h
  have h : lfEnd wt = .ok := h
  unfold lfEnd at h
  cases hw : wt.getLast? with
  | none => cases List.getLast?_eq_none_iff.mp hw; exact lf_dM ms [] [] hl
  | some m => rw [hw] at h; cases h
noncomputable abbrev trU (P0 : F) (Fd : List (List PyData)) (w : List Nat) (a3 a4 a5 a6 a7 a8 : Option F) : St := ⟨[some P0, some (.own (encF Fd)), some (.own (encW w)), a3, a4, a5, a6, a7, a8], [], 0⟩
noncomputable def d_tree_mv : FnDef := ⟨0, "tree_of_parts", ["parts"], ["found", "waiting", "row", "triples", "place", "what", "behind", "at"], (.seq (.assign (.loc 1) (.op .lst .nil)) (.seq (.assign (.loc 2) (.op .lst .nil)) (.seq (.loop true [3, 4] 2 (n_1 (.lend 0)) trR) (.seq (.ret (.mv (.loc 1))) .nil))))⟩
noncomputable def trAll : Nat → LL → List (List PyData) × List Nat → List (List PyData) × List Nat
 | _, [], s => s
 | n, l :: rows, s => trAll (n + 1) rows ((toks l).foldl (stT n) s)
theorem trAll_c {n : Nat} {l : List Nat} {rows : LL} {s : List (List PyData) × List Nat} : trAll n (l :: rows) s = trAll (n + 1) rows ((toks l).foldl (stT n) s) := rfl
noncomputable def treeD (rows : LL) : List PyData := encF (trAll 0 rows ([], [])).1
theorem tok_le {l : List Nat} (h : okLine l = true) : (toks l).length ≤ 242 := nlt (toks_len l) (Nat.add_le_add_right (Nat.mul_le_mul_left 2 (okLine_len h)) 2)
theorem ti0 : TI [] [] := ⟨fun x hx => (nomatch hx), fun a ha => (nomatch ha), Nat.le_refl _⟩
section
variable {Γ : Nat → Fn} {P0 : F} {rows : LL} {cts : List Nat} {es : Es} {m : Int} {ps : List (Nat × Nat)}
theorem tree_rows (h4 : Sp4 Γ) (P0 : F) : ∀ (rows : LL) (n : Nat) (Fd : List (List PyData)) (w : List Nat) (d' : Nat) (a3 a4 a5 a6 a7 a8 : Option F), okLines rows → TI Fd w → dM (marksAll n rows) w.length = some d' → Fd.length + 242 * rows.length ≤ 70000 →
  ∃ b3 b4 b5 b6 b7 b8, forL (stepB Γ true [3, 4] trR) (enumFrom n (rows.map encP)) (trU P0 Fd w a3 a4 a5 a6 a7 a8) = .ok .next (trU P0 (trAll n rows (Fd, w)).1 (trAll n rows (Fd, w)).2 b3 b4 b5 b6 b7 b8)
 | [], n, Fd, w, d', a3, a4, a5, a6, a7, a8, _, _, _, _ => ⟨a3, a4, a5, a6, a7, a8, rfl⟩
 | l :: rows, n, Fd, w, d', a3, a4, a5, a6, a7, a8, hr, h, hd, hz => by
  have hz : Fd.length + 242 * (rows.length + 1) ≤ 70000 := hz
  have ht : (toks l).length ≤ 242 := tok_le (hr l (.head _))
  rw [marksAll_c, dM_append] at hd
  obtain ⟨d1, h1, h2⟩ := bsm hd
  rw [dM_low, ← marks_toks] at h1
  obtain ⟨b5, b6, b7, b8, i1, i2, i3, i4⟩ := tree_loop h4 P0 n (some (.val (encP l))) (toks l) Fd w d1 a5 a6 a7 a8 (toks_good l) h h1 (by lia)
  rw [← i2] at h2
  obtain ⟨c3, c4, c5, c6, c7, c8, j1⟩ := tree_rows h4 P0 rows (n + 1) _ _ d' (sI n) (some (.val (encP l))) b5 b6 b7 b8 (fun k hk => hr k (.tail _ hk)) i1 h2 (by lia)
  have e := ex_loop (Γ := Γ) (many := true) (is := [5, 6, 7]) (body := trB) (it_of (kd := 0) (e := .get (.loc 4)) (st := trS P0 Fd w n (some (.val (encP l))) a5 a6 a7 a8) (fs := [.val (encP l)]) (xs := (toks l).map encT) rfl (by
   show (((none : Option (List PyData)).or (gd (okLen ((toks l).map encT).length) ((toks l).map encT))).or none) = _
   rw [okLen_of (by rw [lmp]; exact big ht)]; rfl))
  exact ⟨c3, c4, c5, c6, c7, c8, (for_next ((step_of rfl).trans ((ex_next (e.trans i4)).trans rfl))).trans j1⟩
theorem enum_brw (h : OkText rows) (v : Slots) : itF 2 (some (.brw (rows.map encP)) :: v) [.lnd 0] = some (enumFrom 0 (rows.map encP)) := by
 show ((gd (okLen (rows.map encP).length) (rows.map encP)).map _) = _
 rw [okLen_of (by rw [lmp]; exact big h.most)]; rfl
theorem rows_le (h : OkText rows) : 242 * rows.length ≤ 15488 := Nat.mul_le_mul_left 242 h.most
theorem tree_parts_ok (h4 : Sp4 Γ) (h : OkText rows) (hf : faultR (rd rows) = .ok) : B Γ d_tree_mv [.brw (rows.map encP)] = .ret (.own (treeD rows)) [] := by
 obtain ⟨b3, b4, b5, b6, b7, b8, e⟩ := tree_rows h4 (.brw (rows.map encP)) rows 0 [] [] 0 none none none none none none h.rows ti0 (ok_d0 hf) (by rw [List.length_nil, Nat.zero_add]; exact big (rows_le h))
 have e1 := ex_loop (Γ := Γ) (many := true) (is := [3, 4]) (body := trR) (it_of (kd := 2) (e := .cons (.lend 0) .nil) (st := trU (.brw (rows.map encP)) [] [] none none none none none none) (fs := [.lnd 0]) rfl (enum_brw h _))
 exact run_of rfl ((ex_next rfl).trans ((ex_next rfl).trans ((ex_next (e1.trans e)).trans (ex_done (ret_own rfl)))))
noncomputable def Sp6 (Γ : Nat → Fn) : Prop := ∀ rows, OkText rows → faultR (rd rows) = .ok → Γ 6 [] [.brw (rows.map encP)] = .ret (.own (treeD rows)) []
noncomputable def Sp23 (Γ : Nat → Fn) : Prop := ∀ rows cts es (m : Int) ps, Pg rows cts es → Γ 23 [pP rows cts es m ps] [.pg 0] = .ret (.val (encFa (faultR (rd rows)))) [pP rows cts es m ps]
theorem fa_none (f : Fa) : isN (encFa f) = true ↔ f = .ok := by cases f <;> constructor <;> intro h <;> first | rfl | cases h
theorem fa_isN {f : Fa} (h : f ≠ .ok) : isN (encFa f) = false := bfi fun q => h ((fa_none f).mp q)
theorem tree_ask (h23 : Sp23 Γ) (h : Pg rows cts es) : ev Γ (.cmp .IsNot (n_2 (.meth 23 q_0 .nil) (.lit .none))) ⟨[some (.pg 0)], [pP rows cts es m ps], 0⟩ = .ok [bV (!isN (encFa (faultR (rd rows))))] ⟨[some (.pg 0)], [pP rows cts es m ps], 0⟩ :=
 ev_cmp (Γ := Γ) (op := .IsNot) (es := .cons (.meth 23 q_0 .nil) (n_1 (.lit .none))) (st := ⟨[some (.pg 0)], [pP rows cts es m ps], 0⟩) (st1 := ⟨[some (.pg 0)], [pP rows cts es m ps], 0⟩) (u := encFa (faultR (rd rows))) (v := .none) (q := !isN (encFa (faultR (rd rows)))) (ev_cons (f := .val (encFa (faultR (rd rows)))) (ev_meth (n := 0) (ys := []) rfl rfl rfl (h23 rows cts es m ps h)) rfl) rfl
theorem tree_m (h6 : Sp6 Γ) (h23 : Sp23 Γ) (h : Pg rows cts es) (hf : faultR (rd rows) = .ok) : M Γ m_tree [pP rows cts es m ps] [.pg 0] = .ret (.own (treeD rows)) [pP rows cts es m ps] := by
 have c1 := tree_ask (m := m) (ps := ps) h23 h
 rw [(fa_none _).mpr hf] at c1
 refine run_of rfl ((ex_skip c1).trans (ex_done (ret_own (st1 := ⟨[some (.pg 0)], [pP rows cts es m ps], 0⟩) ?_)))
 show outE true (Γ 6 [] [.brw (rows.map encP)]) _ = _
 rw [h6 rows h.ok hf]; rfl
theorem tree_mx (h23 : Sp23 Γ) (h : Pg rows cts es) (hf : faultR (rd rows) ≠ .ok) : M Γ m_tree [pP rows cts es m ps] [.pg 0] = .exc 4 [pP rows cts es m ps] := by
 have c1 := tree_ask (m := m) (ps := ps) h23 h
 rw [fa_isN hf] at c1
 exact run_x rfl (ex_exc ((ex_then c1).trans (ex_exc rfl)))
end
theorem range_cut {n r g : Nat} (h : r + g ≤ n) : List.range n = List.range r ++ ((List.range g).map (r + ·) ++ (List.range (n - (r + g))).map (r + g + ·)) := by
 obtain ⟨m, rfl⟩ := Nat.exists_eq_add_of_le h
 rw [Nat.add_sub_cancel_left, List.range_add, List.range_add, List.append_assoc]
theorem keep_rows {n r g fl : Nat} {pr : Nat → Bool} {f : Nat → Nat} (h : r + g ≤ n) (p1 : ∀ k, k < r → pr k = true) (p2 : ∀ j, j < g → pr (r + j) = false) (p3 : ∀ j, pr (r + g + j) = true) (f1 : ∀ k, k < r → f k = k) (f2 : ∀ j, f (r + g + j) = r + j + fl) : ((List.range n).filter pr).map (fun k => (k, f k)) = keepRows r g fl n := by
 unfold keepRows
 rw [range_cut h, List.filter_append, List.filter_append, List.filter_eq_self.mpr fun k hk => p1 k (List.mem_range.mp hk), List.filter_eq_nil_iff.mpr fun k hk => ?_, List.filter_eq_self.mpr fun k hk => ?_, List.nil_append, List.map_append, List.map_map]
 · refine congr (congrArg _ (List.map_congr_left fun k hk => ?_)) (List.map_congr_left fun j hj => ?_)
   · rw [f1 k (List.mem_range.mp hk)]
   · show (r + g + j, f (r + g + j)) = _
     rw [f2]
 · obtain ⟨j, hj, rfl⟩ := List.mem_map.mp hk
   exact p3 j
 · obtain ⟨j, hj, rfl⟩ := List.mem_map.mp hk
   rw [p2 j (List.mem_range.mp hj)]; exact Bool.false_ne_true
theorem beq_no {a b : Nat} (h : a ≠ b) : (!(a == b)) = true := by rw [beq_false_of_ne h]; rfl
end Mine.Internal.S
namespace Mine.Internal.S
section
variable {rows : LL} {cts : List Nat} {es : Es} {m : Int} {ps : List (Nat × Nat)} {r p c : Nat} {ln l2 : List Nat}
theorem kr_len {n : Nat} : (keepRow r n).length ≤ n := by
 unfold keepRow
 rw [lmp]
 exact nlt (List.length_filter_le ..) (Nat.le_of_eq List.length_range)
theorem krs_len {g f n : Nat} (h : r + g ≤ n) : (keepRows r g f n).length ≤ n := by
 unfold keepRows
 rw [lap, lmp, lmp, List.length_range, List.length_range]; lia
noncomputable def putC (cts : List Nat) (r c : Nat) : List Nat := if c = 10 then splice cts [1, 1] r 1 else bump cts r
noncomputable def putK (n r c : Nat) : List (Nat × Nat) := if c = 10 then keepRows r 1 2 n else keepRow r n
theorem put_x {P : Tab} (H : Pd' P) (n : Nat) (h : Pg rows cts es) (hr : rows[r]? = some ln) (hp : p ≤ ln.length) (hc : (c = 10 ∧ rows.length < 64) ∨ (isSign c = true ∧ ln.length < 120)) (hz : es.length ≤ 9000) : ∃ es' m', es'.length ≤ es.length + 128 ∧ Pg (splice rows (linesP ln p c) r 1) (putC cts r c) es' ∧ Gam P (n + 13) 20 [pP rows cts es m ps] [.pg 0, .val (.int r), .val (.int p), .val (sgn c)] = .ret (.val .none) [pP (splice rows (linesP ln p c) r 1) (putC cts r c) es' m' (putK rows.length r c)] := by
 obtain ⟨hi, _⟩ := gsm hr
 have hl := h.ok.rows ln (mog hr)
 unfold linesP putC putK
 rcases hc with ⟨rfl, hc⟩ | ⟨hc, hc2⟩
 · rw [if_pos rfl, if_pos rfl, if_pos rfl]
   have hf : ∀ l ∈ [ln.take p, ln.drop p], okLine l = true := fun l hm => by
    rcases List.mem_cons.mp hm with rfl | hm
    · exact okLine_sub hl (List.take_sublist ..)
    · rw [lsm hm]; exact okLine_sub hl (List.drop_sublist ..)
   have hsl : (splice rows [ln.take p, ln.drop p] r 1).length + 1 = rows.length + 2 := splice_len rows [ln.take p, ln.drop p] (g := 1) hi
   obtain ⟨es', h1, h2, h3⟩ := put_line (m := m) (ps := ps) (sp17 (n + 11) H) (sp19 n H) h hr hp (h.ok.splice_rows hf (by lia) (by lia)) hf
   exact ⟨es', _, nlt h1 (Nat.le_add_left ..), h2, (gam _ H.l20 _ _).trans h3⟩
 · rw [if_neg (sign_ne hc), if_neg (sign_ne hc), if_neg (sign_ne hc), ← set_splice hi]
   obtain ⟨es', h1, h2, h3⟩ := put_sign (m := m) (ps := ps) (sp1 (n + 11) H.toKd') (sp17 (n + 11) H) (sp18 (n + 1) H) h hr hp hc (okLine_ins hl hc hc2) hz
   exact ⟨es', _, h1, h2, (gam _ H.l20 _ _).trans h3⟩
noncomputable def cutC (cts : List Nat) (b : Bool) (r : Nat) : List Nat := if b then bump cts r else splice cts [1] r 2
noncomputable def cutK (n : Nat) (b : Bool) (r : Nat) : List (Nat × Nat) := if b then keepRow r n else keepRows r 2 1 n
theorem cut_x {P : Tab} (H : Pd' P) (n : Nat) (h : Pg rows cts es) (hr : rows[r]? = some ln) (hc : p < ln.length ∨ (p = ln.length ∧ ∃ l2, rows[r + 1]? = some l2 ∧ ln.length + l2.length ≤ 120)) (hz : es.length ≤ 9000) : ∃ es' m', es'.length ≤ es.length + 128 ∧ Pg (cutR rows r p) (cutC cts (decide (p < ln.length)) r) es' ∧ (cutK rows.length (decide (p < ln.length)) r).length ≤ rows.length ∧ Gam P (n + 13) 21 [pP rows cts es m ps] [.pg 0, .val (.int r), .val (.int p)] = .ret (.val .none) [pP (cutR rows r p) (cutC cts (decide (p < ln.length)) r) es' m' (cutK rows.length (decide (p < ln.length)) r)] := by
 obtain ⟨hi, _⟩ := gsm hr
 have hl := h.ok.rows ln (mog hr)
 unfold cutR
 rw [hr, Option.getD_some]
 rcases hc with hc | ⟨hc, l2, hr2, hc2⟩
 · rw [if_pos hc, dtt hc, ← set_splice hi]
   obtain ⟨es', h1, h2, h3⟩ := cut_sign (m := m) (ps := ps) (sp17 (n + 11) H) (sp18 (n + 1) H) h hr hc (okLine_sub hl (cut_sub p)) hz
   exact ⟨es', _, h1, h2, kr_len, (gam _ H.l21 _ _).trans h3⟩
 · rw [if_neg (Nat.not_lt.mpr (Nat.le_of_eq hc.symm)), hr2, Option.getD_some, dff (Nat.not_lt.mpr (Nat.le_of_eq hc.symm))]
   obtain ⟨hi2, _⟩ := gsm hr2
   obtain ⟨es', h1, h2, h3⟩ := cut_line (m := m) (ps := ps) (sp17 (n + 11) H) (sp19 n H) h hr hr2 hc (okLine_cat hl (h.ok.rows l2 (mog hr2)) hc2)
   exact ⟨es', _, nlt h1 (Nat.le_add_left ..), h2, krs_len hi2, (gam _ H.l21 _ _).trans h3⟩
end
noncomputable abbrev Ga := PyData × Nat × Option Nat
theorem one_nd {α : Type} (x : α) : [x].Nodup := List.nodup_cons.mpr ⟨List.not_mem_nil, List.nodup_nil⟩
noncomputable def gT (s : List Ga × List Nat) : Tk → List Ga × List Nat
 | .word p l q => (s.1 ++ [(strD l, p, some q)], s.2)
 | .br p k => if isCl k then (match s.2.getLast? with
   | some i => (s.1.modify i fun y => (y.1, y.2.1, some (p + 1)), s.2.dropLast)
   | none => s) else (s.1 ++ [(sgn k, p, none)], s.2 ++ [s.1.length])
noncomputable def gRow (l : List Nat) : List Ga := ((toks l).foldl gT ([], [])).1
noncomputable abbrev six (d x : PyData) (r p r' q : Nat) : List PyData := [d, x, .int r, .int p, .int r', .int q]
noncomputable def Ent (k : Nat) (o : Bool) (y : Ga) (e : List PyData) : Prop := ∃ d r' q', e = six d y.1 k y.2.1 r' q' ∧ (match y.2.2 with | some q => o = false ∧ r' = k ∧ q' = q | none => o = true ∨ r' ≠ k)
noncomputable def Far (k N : Nat) (e : List PyData) : Prop := ∃ d x r p r' q, e = six d x r p r' q ∧ r ≠ k ∧ r < N
structure VI (k N a : Nat) (g : List Ga) (Fd : List (List PyData)) (w : List Nat) : Prop where
 far : ∀ i e, Fd[i]? = some e → (i < a ∨ a + g.length ≤ i) → Far k N e
 mid : ∀ i y, g[i]? = some y → ∃ e, Fd[a + i]? = some e ∧ Ent k (decide (a + i ∈ w)) y e
 nd : w.Nodup
 lt : ∀ i ∈ w, i < Fd.length
section
variable {k N a n p c : Nat} {g : List Ga} {Fd : List (List PyData)} {w u v : List Nat} {e : List PyData}
theorem snoc_get {α : Type} {xs : List α} {x y : α} {i : Nat} (h : (xs ++ [x])[i]? = some y) : xs[i]? = some y ∨ (i = xs.length ∧ y = x) := by
 rcases Nat.lt_or_ge i xs.length with q | q
 · rw [List.getElem?_append_left q] at h; exact .inl h
 · rw [List.getElem?_append_right q] at h
   cases hj : i - xs.length with
   | zero => rw [hj] at h; cases h; exact .inr ⟨Nat.le_antisymm (Nat.sub_eq_zero_iff_le.mp hj) q, rfl⟩
   | succ m => rw [hj] at h; cases h
theorem get_lt {α : Type} {xs : List α} {y : α} {i : Nat} (h : xs[i]? = some y) : i < xs.length := (gsm h).1
theorem VI.push (h : VI k N a g Fd w) (he : Far k N e) : VI k N a g (Fd ++ [e]) w := by
 refine ⟨fun i e' h1 h2 => ?_, fun i y h1 => ?_, h.nd, fun i hi => by rw [lap]; exact Nat.lt_succ_of_lt (h.lt i hi)⟩
 · rcases snoc_get h1 with h1 | ⟨_, rfl⟩
   · exact h.far i e' h1 h2
   · exact he
 · obtain ⟨e', h2, h3⟩ := h.mid i y h1
   exact ⟨e', by rw [List.getElem?_append_left (get_lt h2)]; exact h2, h3⟩
theorem mem_snoc {i b : Nat} (h : i ≠ b) : decide (i ∈ w ++ [b]) = decide (i ∈ w) := by
 refine decide_eq_decide.mpr ⟨fun q => ?_, List.mem_append_left _⟩
 rcases List.mem_append.mp q with q | q
 · exact q
 · exact absurd (lsm q) h
theorem nd_snoc {b : Nat} (h : (w ++ [b]).Nodup) : w.Nodup ∧ b ∉ w := ⟨(List.nodup_append.mp h).1, fun q => (List.nodup_append.mp h).2.2 b q b (.head _) rfl⟩
theorem VI.wait (h : VI k N a g Fd w) (he : Far k N e) : VI k N a g (Fd ++ [e]) (w ++ [Fd.length]) := by
 have hp := h.push he
 refine ⟨hp.far, fun i y h1 => ?_, List.nodup_append.mpr ⟨h.nd, one_nd _, fun p hp q hq z => ?_⟩, fun i hi => ?_⟩
 · obtain ⟨e', h2, h3⟩ := h.mid i y h1
   have hl := get_lt h2
   exact ⟨e', by rw [List.getElem?_append_left hl]; exact h2, by rw [mem_snoc (Nat.ne_of_lt hl)]; exact h3⟩
 · cases lsm hq
   exact absurd (h.lt p hp) (by rw [z]; exact Nat.lt_irrefl _)
 · rcases List.mem_append.mp hi with hi | hi
   · exact hp.lt i hi
   · rw [lsm hi, lap]; exact Nat.lt_succ_self _
theorem VI.shut {b : Nat} (h : VI k N a g Fd (w ++ [b])) (hn : n ≠ k ∨ b < a) (hb : b < Fd.length) : VI k N a g (Fd.set b (Fd[b].take 4 ++ [.int n, .int (p + 1 : Nat)])) w := by
 refine ⟨fun i e' h1 h2 => ?_, fun i y h1 => ?_, (nd_snoc h.nd).1, fun i hi => by rw [List.length_set]; exact h.lt i (List.mem_append_left _ hi)⟩
 · by_cases q : b = i
   · subst q
     rw [List.getElem?_set_self hb] at h1
     obtain ⟨d, x, r, p', r', q', h3, h4⟩ := h.far b _ (geg hb) h2
     rw [h3] at h1
     cases h1
     exact ⟨d, x, r, p', n, p + 1, rfl, h4⟩
   · rw [List.getElem?_set_ne q] at h1; exact h.far i e' h1 h2
 · obtain ⟨e', h2, h3⟩ := h.mid i y h1
   by_cases q : b = a + i
   · subst q
     have hn : n ≠ k := hn.resolve_right fun z => absurd z (Nat.not_lt.mpr (Nat.le_add_right ..))
     obtain ⟨d, r', q', h4, h5⟩ := h3
     refine ⟨_, List.getElem?_set_self hb, d, n, p + 1, ?_, ?_⟩
     · rw [show Fd[a + i] = e' from Option.some.inj ((geg hb).symm.trans h2), h4]; rfl
     · rw [dtt (List.mem_append_right w (.head _))] at h5
       cases hy : y.2.2 with
       | some z => rw [hy] at h5; cases h5.1
       | none => exact .inr hn
   · exact ⟨e', by rw [List.getElem?_set_ne q]; exact h2, by rw [← mem_snoc (w := w) (Ne.symm q)]; exact h3⟩
theorem dM_step {t : Tk} {ts : List Tk} {d' : Nat} (h : dM (marksT (t :: ts)) w.length = some d') : dM (marksT ts) (stT n (Fd, w) t).2.length = some d' ∧ ∀ p c, t = .br p c → isCl c = true → ∃ ws b, w = ws ++ [b] := by
 cases t with
 | word p l q => exact ⟨h, fun p c e => nomatch e⟩
 | br p c =>
  rw [marksT_b, dM_c] at h
  cases hc : isCl c with
  | false =>
   rw [if_neg (by rw [hc]; exact Bool.false_ne_true)] at h
   rw [stT_op hc]
   exact ⟨by rw [lap]; exact h, fun p' c' e q => by cases e; rw [hc] at q; cases q⟩
  | true =>
   rw [if_pos hc] at h
   cases hw : w.getLast? with
   | none => cases List.getLast?_eq_none_iff.mp hw; cases h
   | some b =>
    obtain ⟨ws, rfl⟩ := List.getLast?_eq_some_iff.mp hw
    rw [lap, if_neg (show ¬ ws.length + [b].length = 0 from Nat.succ_ne_zero _)] at h
    refine ⟨?_, fun _ _ _ _ => ⟨ws, b, rfl⟩⟩
    show dM (marksT ts) (if isCl c then _ else _ : List (List PyData) × List Nat).2.length = _
    rw [if_pos hc]
    dsimp only
    rw [List.dropLast_concat]; exact h
theorem VI.offs (hn : n ≠ k) (hN : n < N) : ∀ (ts : List Tk) (Fd : List (List PyData)) (w : List Nat) (d' : Nat), VI k N a g Fd w → dM (marksT ts) w.length = some d' → VI k N a g (ts.foldl (stT n) (Fd, w)).1 (ts.foldl (stT n) (Fd, w)).2 ∧ (ts.foldl (stT n) (Fd, w)).2.length = d'
 | [], Fd, w, d', h, hd => ⟨h, Option.some.inj hd⟩
 | .word p l q :: ts, Fd, w, d', h, hd => VI.offs hn hN ts _ _ d' (h.push ⟨_, _, n, p, n, q, rfl, hn, hN⟩) hd
 | .br p c :: ts, Fd, w, d', h, hd => by
  obtain ⟨h1, h2⟩ := dM_step (n := n) (Fd := Fd) hd
  rw [List.foldl_cons]
  cases hc : isCl c with
  | false => rw [stT_op hc] at h1 ⊢; exact VI.offs hn hN ts _ _ d' (h.wait ⟨_, _, n, p, n, p + 1, rfl, hn, hN⟩) h1
  | true =>
   obtain ⟨ws, b, rfl⟩ := h2 p c rfl hc
   have hb := h.lt b (List.mem_append_right _ (.head _))
   rw [stT_cl hc hb] at h1 ⊢
   exact VI.offs hn hN ts _ _ d' (h.shut (.inl hn) hb) h1
structure VK (k N a : Nat) (g : List Ga) (v : List Nat) (Fd : List (List PyData)) (w : List Nat) : Prop extends VI k N a g Fd w where
 len : Fd.length = a + g.length
 wt : ∃ u, w = u ++ v.map (a + ·) ∧ ∀ i ∈ u, i < a
theorem far_in {i : Nat} (hl : Fd.length = a + g.length) (h : Fd[i]? = some e) (h2 : i < a ∨ a + g.length ≤ i) : i < a := h2.resolve_right fun q => absurd (get_lt h) (Nat.not_lt.mpr (hl ▸ q))
theorem VK.push {y : Ga} (h : VK k N a g v Fd w) (he : Ent k false y e) : VK k N a (g ++ [y]) v (Fd ++ [e]) w := by
 refine ⟨⟨fun i e' h1 h2 => ?_, fun i z h1 => ?_, h.nd, fun i hi => by rw [lap]; exact Nat.lt_succ_of_lt (h.lt i hi)⟩, by rw [lap, lap, h.len, Nat.add_assoc]; rfl, h.wt⟩
 · have hi := far_in (g := g ++ [y]) (by rw [lap, lap, h.len, Nat.add_assoc]; rfl) h1 h2
   rw [List.getElem?_append_left (by rw [h.len]; exact Nat.lt_of_lt_of_le hi (Nat.le_add_right ..))] at h1
   exact h.far i e' h1 (.inl hi)
 · rcases snoc_get h1 with h1 | ⟨rfl, rfl⟩
   · obtain ⟨e', h2, h3⟩ := h.mid i z h1
     exact ⟨e', by rw [List.getElem?_append_left (get_lt h2)]; exact h2, h3⟩
   · refine ⟨e, by rw [← h.len]; exact List.getElem?_concat_length, ?_⟩
     rw [← h.len, dff fun q => Nat.lt_irrefl _ (h.lt _ q)]; exact he
theorem VK.wait {y : Ga} (h : VK k N a g v Fd w) (he : Ent k true y e) : VK k N a (g ++ [y]) (v ++ [g.length]) (Fd ++ [e]) (w ++ [Fd.length]) := by
 refine ⟨⟨fun i e' h1 h2 => ?_, fun i z h1 => ?_, List.nodup_append.mpr ⟨h.nd, one_nd _, fun p hp q hq z => ?_⟩, fun i hi => ?_⟩, by rw [lap, lap, h.len, Nat.add_assoc]; rfl, ?_⟩
 · have hi := far_in (g := g ++ [y]) (by rw [lap, lap, h.len, Nat.add_assoc]; rfl) h1 h2
   rw [List.getElem?_append_left (by rw [h.len]; exact Nat.lt_of_lt_of_le hi (Nat.le_add_right ..))] at h1
   exact h.far i e' h1 (.inl hi)
 · rcases snoc_get h1 with h1 | ⟨rfl, rfl⟩
   · obtain ⟨e', h2, h3⟩ := h.mid i z h1
     have hl := get_lt h2
     exact ⟨e', by rw [List.getElem?_append_left hl]; exact h2, by rw [mem_snoc (Nat.ne_of_lt hl)]; exact h3⟩
   · refine ⟨e, by rw [← h.len]; exact List.getElem?_concat_length, ?_⟩
     rw [← h.len, dtt (List.mem_append_right w (.head _))]; exact he
 · cases lsm hq
   exact absurd (h.lt p hp) (by rw [z]; exact Nat.lt_irrefl _)
 · rw [lap]
   rcases List.mem_append.mp hi with hi | hi
   · exact Nat.lt_succ_of_lt (h.lt i hi)
   · rw [lsm hi]; exact Nat.lt_succ_self _
 · obtain ⟨u, h1, h2⟩ := h.wt
   exact ⟨u, by rw [h1, List.map_append, h.len, List.append_assoc]; rfl, h2⟩
theorem gT_op (hc : isCl c = false) : gT (g, v) (.br p c) = (g ++ [(sgn c, p, none)], v ++ [g.length]) := by
 unfold gT
 dsimp only
 rw [if_neg (by rw [hc]; exact Bool.false_ne_true)]
theorem gT_cl (hc : isCl c = true) : gT (g, v) (.br p c) = (match v.getLast? with | some i => (g.modify i fun y => (y.1, y.2.1, some (p + 1)), v.dropLast) | none => (g, v)) := by
 unfold gT
 dsimp only
 rw [if_pos hc]
theorem VK.row (hk : k < N) : ∀ (ts : List Tk) (g : List Ga) (v : List Nat) (Fd : List (List PyData)) (w : List Nat) (d' : Nat), VK k N a g v Fd w → dM (marksT ts) w.length = some d' →
  VK k N a (ts.foldl gT (g, v)).1 (ts.foldl gT (g, v)).2 (ts.foldl (stT k) (Fd, w)).1 (ts.foldl (stT k) (Fd, w)).2 ∧ (ts.foldl (stT k) (Fd, w)).2.length = d'
 | [], g, v, Fd, w, d', h, hd => ⟨h, Option.some.inj hd⟩
 | .word p l q :: ts, g, v, Fd, w, d', h, hd => VK.row hk ts _ _ _ _ d' (h.push (y := (strD l, p, some q)) ⟨_, k, q, rfl, rfl, rfl, rfl⟩) hd
 | .br p c :: ts, g, v, Fd, w, d', h, hd => by
  obtain ⟨h1, h2⟩ := dM_step (n := k) (Fd := Fd) hd
  cases hc : isCl c with
  | false =>
   rw [List.foldl_cons, List.foldl_cons, gT_op hc]
   rw [stT_op hc] at h1 ⊢
   exact VK.row hk ts _ _ _ _ d' (h.wait ⟨_, k, p + 1, rfl, .inl rfl⟩) h1
  | true =>
   obtain ⟨ws, b, rfl⟩ := h2 p c rfl hc
   have hb := h.lt b (List.mem_append_right _ (.head _))
   rw [List.foldl_cons, List.foldl_cons, gT_cl hc]
   rw [stT_cl hc hb] at h1 ⊢
   obtain ⟨u, h3, h4⟩ := h.wt
   refine VK.row hk ts _ _ _ _ d' ?_ h1
   cases hv : v.getLast? with
   | none =>
    cases List.getLast?_eq_none_iff.mp hv
    rw [List.map_nil, List.append_nil] at h3
    have hba : b < a := h4 b (h3 ▸ List.mem_append_right _ (.head _))
    exact ⟨h.toVI.shut (.inr hba) hb, by rw [List.length_set]; exact h.len, ws, (by rw [List.map_nil, List.append_nil]), fun i hi => h4 i (h3 ▸ List.mem_append_left _ hi)⟩
   | some j =>
    obtain ⟨v', rfl⟩ := List.getLast?_eq_some_iff.mp hv
    rw [List.map_append, ← List.append_assoc] at h3
    obtain ⟨h5, h6⟩ := List.append_inj' h3 rfl
    cases h6
    dsimp only
    rw [List.dropLast_concat]
    obtain ⟨nd1, nd2⟩ := nd_snoc h.nd
    have hj : j < g.length := by have := h.len; have hb : a + j < Fd.length := hb; lia
    refine ⟨⟨fun i e' q1 q2 => ?_, fun i y q1 => ?_, nd1, fun i hi => by rw [List.length_set]; exact h.lt i (List.mem_append_left _ hi)⟩, by rw [List.length_set, List.length_modify]; exact h.len, u, h5, h4⟩
    · rw [List.length_modify] at q2
      have hi : i < a := far_in (g := g) (Fd := Fd.set (a + j) (Fd[a + j].take 4 ++ [.int k, .int (p + 1 : Nat)])) (by rw [List.length_set]; exact h.len) q1 q2
      rw [List.getElem?_set_ne (show a + j ≠ i by lia)] at q1
      exact h.far i e' q1 (.inl hi)
    · rw [List.getElem?_modify] at q1
      by_cases q : j = i
      · subst q
        obtain ⟨y0, q2, q6⟩ := msm (show g[j]?.map _ = some y from q1)
        rw [if_pos rfl] at q6
        subst q6
        obtain ⟨e', q3, d, r', q', q4, q5⟩ := h.mid j y0 q2
        refine ⟨_, List.getElem?_set_self hb, d, k, p + 1, ?_, dff nd2, rfl, rfl⟩
        rw [show Fd[a + j] = e' from Option.some.inj ((geg hb).symm.trans q3), q4]; rfl
      · obtain ⟨y0, q2, q6⟩ := msm (show g[i]?.map _ = some y from q1)
        rw [if_neg q] at q6
        subst q6
        obtain ⟨e', q3, q4⟩ := h.mid i y0 q2
        have ne : a + j ≠ a + i := fun z => q (Nat.add_left_cancel z)
        exact ⟨e', by rw [List.getElem?_set_ne ne]; exact q3, by rw [← mem_snoc (w := ws) (Ne.symm ne)]; exact q4⟩
theorem rows_off : ∀ (rows : LL) (n : Nat) (Fd : List (List PyData)) (w : List Nat) (d' : Nat), k < n → n + rows.length ≤ N → VI k N a g Fd w → dM (marksAll n rows) w.length = some d' → VI k N a g (trAll n rows (Fd, w)).1 (trAll n rows (Fd, w)).2 ∧ (trAll n rows (Fd, w)).2.length = d'
 | [], n, Fd, w, d', _, _, h, hd => ⟨h, Option.some.inj hd⟩
 | l :: rows, n, Fd, w, d', hk, hN, h, hd => by
  rw [List.length_cons] at hN
  rw [marksAll_c, dM_append] at hd
  obtain ⟨d1, h1, h2⟩ := bsm hd
  rw [dM_low, ← marks_toks] at h1
  obtain ⟨i1, i2⟩ := VI.offs (Nat.ne_of_gt hk) (show n < N by lia) (toks l) Fd w d1 h h1
  rw [← i2] at h2
  exact rows_off rows (n + 1) _ _ d' (Nat.lt_succ_of_lt hk) (by lia) i1 h2
theorem rows_at {l : List Nat} : ∀ (rows : LL) (n : Nat) (Fd : List (List PyData)) (w : List Nat) (d' : Nat), rows[k - n]? = some l → n ≤ k → n + rows.length ≤ N → VI k N 0 [] Fd w → dM (marksAll n rows) w.length = some d' → ∃ a, VI k N a (gRow l) (trAll n rows (Fd, w)).1 (trAll n rows (Fd, w)).2 ∧ (trAll n rows (Fd, w)).2.length = d'
 | [], n, Fd, w, d', hl, _, _, _, _ => nomatch hl
 | x :: rows, n, Fd, w, d', hl, hn, hN, h, hd => by
  rw [List.length_cons] at hN
  rw [marksAll_c, dM_append] at hd
  obtain ⟨d1, h1, h2⟩ := bsm hd
  rw [dM_low, ← marks_toks] at h1
  rcases Nat.lt_or_ge n k with q | q
  · obtain ⟨i1, i2⟩ := VI.offs (Nat.ne_of_lt q) (show n < N by lia) (toks x) Fd w d1 h h1
    rw [← i2] at h2
    rw [show k - n = (k - (n + 1)) + 1 by lia] at hl
    exact rows_at rows (n + 1) _ _ d' hl q (by lia) i1 h2
  · have hnk : k = n := Nat.le_antisymm q hn
    subst hnk
    rw [Nat.sub_self] at hl
    have hx : x = l := Option.some.inj hl
    subst hx
    obtain ⟨i1, i2⟩ := VK.row (a := Fd.length) (show k < N by lia) (toks x) [] [] Fd w d1 ⟨⟨fun i e q1 _ => h.far i e q1 (.inr (Nat.zero_le _)), fun i y q1 => (nomatch q1), h.nd, h.lt⟩, rfl, w, (by rw [List.map_nil, List.append_nil]), h.lt⟩ h1
    rw [← i2] at h2
    exact ⟨_, rows_off rows (k + 1) _ _ d' (Nat.lt_succ_self _) (by lia) i1.toVI h2⟩
theorem row_parts {rows : LL} {l : List Nat} (hd : dM (marksAll 0 rows) 0 = some 0) (hk : rows[k]? = some l) : ∃ a, VI k rows.length a (gRow l) (trAll 0 rows ([], [])).1 [] := by
 obtain ⟨a, h1, h2⟩ := rows_at (k := k) (N := rows.length) rows 0 [] [] 0 hk (Nat.zero_le _) (by rw [Nat.zero_add]; exact Nat.le_refl _) ⟨fun i e q => (nomatch q), fun i y q => (nomatch q), List.nodup_nil, fun i q => nomatch q⟩ hd
 rw [List.length_eq_zero_iff.mp h2] at h1
 exact ⟨a, h1⟩
noncomputable def phi (k : Nat) (e : List PyData) : Option PyData := if ((e[2]?.bind asI) == some (k : Int)) && ((e[4]?.bind asI) == some (k : Int)) then some (.tuple [e[1]?.getD .none, e[3]?.getD .none, e[5]?.getD .none]) else none
noncomputable def outG (g : List Ga) : List PyData := g.filterMap fun y => y.2.2.map fun (q : Nat) => .tuple [y.1, .int y.2.1, .int q]
theorem phi_six {d x : PyData} {r p r' q : Nat} : phi k (six d x r p r' q) = if r = k ∧ r' = k then some (.tuple [x, .int p, .int q]) else none := by
 show (if ((some (r : Int) == some (k : Int)) && (some (r' : Int) == some (k : Int))) then some (PyData.tuple [x, .int p, .int q]) else none) = _
 by_cases h : r = k ∧ r' = k
 · rw [if_pos h, h.1, h.2, beq_self_eq_true]; rfl
 · rw [if_neg h, if_neg fun q => h ?_]
   obtain ⟨q1, q2⟩ := and2 q
   exact ⟨Int.ofNat_inj.mp (Option.some.inj (eq_of_beq q1)), Int.ofNat_inj.mp (Option.some.inj (eq_of_beq q2))⟩
theorem phi_far (h : Far k N e) : phi k e = none := by
 obtain ⟨d, x, r, p, r', q, rfl, h, _⟩ := h
 rw [phi_six, if_neg fun z => h z.1]
theorem phi_ent {y : Ga} (h : Ent k false y e) : phi k e = y.2.2.map fun (q : Nat) => .tuple [y.1, .int y.2.1, .int q] := by
 obtain ⟨d, r', q', rfl, h⟩ := h
 rw [phi_six]
 cases hy : y.2.2 with
 | some q => rw [hy] at h; obtain ⟨_, rfl, rfl⟩ := h; rw [if_pos ⟨rfl, rfl⟩]; rfl
 | none =>
  rw [hy] at h
  rcases h with h | h
  · cases h
  · rw [if_neg fun z => h z.2]; rfl
theorem mid_outs : ∀ (es : List (List PyData)) (g : List Ga), es.length = g.length → (∀ (i : Nat) (y : Ga), g[i]? = some y → ∃ e, es[i]? = some e ∧ Ent k false y e) → es.filterMap (phi k) = outG g
 | [], [], _, _ => rfl
 | [], _ :: _, h, _ => nomatch h
 | _ :: _, [], h, _ => nomatch h
 | e :: es, y :: g, h, hm => by
  obtain ⟨e', h1, h2⟩ := hm 0 y rfl
  cases h1
  have ih := mid_outs es g (Nat.succ.inj h) fun i z q => hm (i + 1) z q
  unfold outG at ih ⊢
  rw [List.filterMap_cons, List.filterMap_cons, phi_ent h2, ih]
theorem VI.out (h : VI k N a g Fd []) : Fd.filterMap (phi k) = outG g := by
 have hl : g = [] ∨ a + g.length ≤ Fd.length := by
  cases g with
  | nil => exact .inl rfl
  | cons y g =>
   obtain ⟨e, h1, _⟩ := h.mid g.length ((y :: g)[g.length]'(Nat.lt_succ_self _)) (geg _)
   exact .inr (get_lt h1)
 have nil1 : ∀ es : List (List PyData), (∀ e ∈ es, Far k N e) → es.filterMap (phi k) = [] := fun es he => List.filterMap_eq_nil_iff.mpr fun e q => phi_far (he e q)
 rcases hl with rfl | hl
 · refine nil1 Fd fun e he => ?_
   obtain ⟨i, hi, rfl⟩ := List.getElem_of_mem he
   exact h.far i _ (geg hi) (Nat.lt_or_ge i a)
 · rw [← List.take_append_drop a Fd, ← List.take_append_drop g.length (Fd.drop a), List.filterMap_append, List.filterMap_append, nil1 (Fd.take a) fun e he => ?_, nil1 ((Fd.drop a).drop g.length) fun e he => ?_, List.nil_append, List.append_nil]
   · refine mid_outs _ g (by rw [List.length_take, List.length_drop]; lia) fun i y q => ?_
     obtain ⟨e, h1, h2⟩ := h.mid i y q
     exact ⟨e, by rw [List.getElem?_take_of_lt (get_lt q), List.getElem?_drop]; exact h1, h2⟩
   · obtain ⟨i, hi, rfl⟩ := List.getElem_of_mem he
     rw [List.length_drop, List.length_drop] at hi
     rw [List.getElem_drop, List.getElem_drop]
     exact h.far _ _ (geg _) (.inr (by lia))
   · obtain ⟨i, hi, rfl⟩ := List.getElem_of_mem he
     rw [List.length_take] at hi
     rw [List.getElem_take]
     exact h.far i _ (geg _) (.inl (by lia))
theorem VI.bound (h : VI k N a g Fd w) (hk : k < N) : ∀ e ∈ Fd, ∃ d x r p r' q, e = six d x r p r' q ∧ r < N := fun e he => by
 obtain ⟨i, hi, rfl⟩ := List.getElem_of_mem he
 by_cases q : i < a ∨ a + g.length ≤ i
 · obtain ⟨d, x, r, p, r', q', h1, _, h2⟩ := h.far i _ (geg hi) q
   exact ⟨d, x, r, p, r', q', h1, h2⟩
 · have hj : i - a < g.length := by lia
   obtain ⟨e, h1, d, r', q', h2, _⟩ := h.mid (i - a) _ (geg hj)
   rw [show a + (i - a) = i by lia, geg hi] at h1
   cases h1
   exact ⟨_, _, _, _, _, _, h2, hk⟩
noncomputable def bR (rows : LL) (k : Nat) : List PyData := (trAll 0 rows ([], [])).1.filterMap (phi k)
theorem bR_is {rows : LL} {l : List Nat} (hf : faultR (rd rows) = .ok) (hk : rows[k]? = some l) : bR rows k = outG (gRow l) := let ⟨a, h⟩ := row_parts (ok_d0 hf) hk; h.out
end
noncomputable def d_law_by_rows : FnDef := ⟨0, "_law_by_rows", ["_law_tree", "_law_many"], ["_law_found", "_law_part"], .rows 2 3 (n_1 q_1) q_0 brC brK brE⟩
noncomputable abbrev bS (T M : F) (s : Option F) : St := ⟨[some T, some M, none, s], [], 0⟩
section
variable {Γ : Nat → Fn} {T M : F} {s3 : Option F} {xss : List (List PyData)} {r n : Nat}
theorem at_is (h : r < n) : at? n (r : Int) = some r := by
 unfold at? seqIndex?
 have : ¬ (r : Int) < 0 := by lia
 simp [this, h]
theorem rowIx_is (hz : n ≤ 200000) (h : r < n) : rowIx n [.val (.int r)] = some r := by
 show (gd (okLen n) ()).bind (fun _ => at? n (r : Int)) = _
 rw [okLen_of hz, at_is h]; rfl
theorem row_step {d x : PyData} {r p r' q : Nat} (hr : r < xss.length) (hz : xss.length ≤ 200000) (hx : ∀ xs ∈ xss, xs.length ≤ 200000) : ∃ yss, (∀ k : Nat, yss[k]? = (xss[k]?).map (· ++ (phi k (six d x r p r' q)).toList)) ∧ rowE Γ 3 brC brK brE (.tuple (six d x r p r' q)) xss (bS T M s3) = .ok yss (bS T M (some (.val (.tuple (six d x r p r' q))))) := by
 have e1 : ev Γ brC (bS T M (some (.val (.tuple (six d x r p r' q))))) = .ok [bV ((r : Int) == r')] _ := ev_cmp (u := .int r) (v := .int r') rfl rfl
 have go : ∀ {res}, ((toB (ev Γ brC (bS T M (some (.val (.tuple (six d x r p r' q))))))).bind fun b st => if b then (ev Γ brK st).bind fun ks st => (match rowIx xss.length ks with | some n => (ev Γ brE st).bind fun es st => (match rowAdd xss n es with | some r => .ok r st | none => .stuck) | none => .stuck) else .ok xss st) = res → rowE Γ 3 brC brK brE (.tuple (six d x r p r' q)) xss (bS T M s3) = res := fun h => h
 cases hq : ((r : Int) == r') with
 | false =>
  refine ⟨xss, fun k => ?_, go ?_⟩
  · rw [phi_six, if_neg fun z => ?_]
    · show xss[k]? = (xss[k]?).map (· ++ [])
      cases xss[k]? with
      | none => rfl
      | some y => exact congrArg some (List.append_nil y).symm
    · rw [z.1, z.2, beq_self_eq_true] at hq; cases hq
  · rw [e1, hq]; rfl
 | true =>
  have hrr : r = r' := Int.ofNat_inj.mp (eq_of_beq hq)
  subst hrr
  refine ⟨xss.set r (xss[r] ++ [.tuple [x, .int p, .int q]]), fun k => ?_, go ?_⟩
  · rw [phi_six]
    by_cases q1 : r = k
    · subst q1
      rw [if_pos ⟨rfl, rfl⟩, List.getElem?_set_self hr, geg hr]; rfl
    · rw [if_neg fun z => q1 z.1, List.getElem?_set_ne q1]
      show xss[k]? = (xss[k]?).map (· ++ [])
      cases xss[k]? with
      | none => rfl
      | some y => exact congrArg some (List.append_nil y).symm
  · rw [e1, hq]
    show (match rowIx xss.length [.val (.int r)] with | some n => (ev Γ brE (bS T M (some (.val (.tuple (six d x r p r q)))))).bind fun es st => (match rowAdd xss n es with | some r => .ok r st | none => .stuck) | none => .stuck) = _
    rw [rowIx_is hz hr]
    show (match ((xss[r]?).bind fun xs => gd (okLen xs.length) (xss.set r (xs ++ [.tuple [x, .int p, .int q]]))) with | some y => _ | none => _) = _
    rw [geg hr, Option.bind_some, okLen_of (hx _ (List.getElem_mem hr))]; rfl
theorem len_same {f : Nat → List PyData → List PyData} {yss : List (List PyData)} (h : ∀ k : Nat, yss[k]? = (xss[k]?).map (f k)) : yss.length = xss.length := by
 have h1 := h yss.length
 have h2 := h xss.length
 rw [List.getElem?_eq_none_iff.mpr (Nat.le_refl _)] at h1
 rw [List.getElem?_eq_none_iff.mpr (Nat.le_refl xss.length)] at h2
 exact Nat.le_antisymm (List.getElem?_eq_none_iff.mp h2) (List.getElem?_eq_none_iff.mp (Option.map_eq_none_iff.mp h1.symm))
theorem row_all : ∀ (Fd : List (List PyData)) (xss : List (List PyData)) (s3 : Option F), (∀ e ∈ Fd, ∃ d x r p r' q, e = six d x r p r' q ∧ r < xss.length) → xss.length ≤ 200000 → (∀ xs ∈ xss, xs.length + Fd.length ≤ 200000) →
  ∃ yss s', (∀ k : Nat, yss[k]? = (xss[k]?).map (· ++ Fd.filterMap (phi k))) ∧ rowL (rowE Γ 3 brC brK brE) (encF Fd) xss (bS T M s3) = .ok yss (bS T M s')
 | [], xss, s3, _, _, _ => ⟨xss, s3, fun k => by
   show xss[k]? = (xss[k]?).map (· ++ [])
   cases xss[k]? with
   | none => rfl
   | some y => exact congrArg some (List.append_nil y).symm, rfl⟩
 | e :: Fd, xss, s3, he, hz, hx => by
  obtain ⟨d, x, r, p, r', q, rfl, hr⟩ := he e (.head _)
  have hx : ∀ xs ∈ xss, xs.length + (Fd.length + 1) ≤ 200000 := hx
  obtain ⟨yss, h1, h2⟩ := row_step (Γ := Γ) (T := T) (M := M) (s3 := s3) (d := d) (x := x) (p := p) (r' := r') (q := q) hr hz fun xs h => nlt (Nat.le_add_right ..) (hx xs h)
  have hl := len_same h1
  obtain ⟨zss, s', h3, h4⟩ := row_all Fd yss (some (.val (.tuple (six d x r p r' q)))) (fun e h => by rw [hl]; exact he e (.tail _ h)) (by rw [hl]; exact hz) fun ys h => by
   obtain ⟨i, hi, rfl⟩ := List.getElem_of_mem h
   have h5 := h1 i
   rw [geg hi] at h5
   obtain ⟨xs, h6, h7⟩ := msm h5.symm
   have := hx xs (mog h6)
   have h8 : (phi i (six d x r p r' q)).toList.length ≤ 1 := by cases phi i (six d x r p r' q) <;> simp
   rw [← h7, lap]
   lia
  refine ⟨zss, s', fun k => ?_, ?_⟩
  · rw [h3, h1, Option.map_map]
    congr 1
    funext ys
    show (ys ++ (phi k (six d x r p r' q)).toList) ++ Fd.filterMap (phi k) = ys ++ (six d x r p r' q :: Fd).filterMap (phi k)
    rw [List.filterMap_cons, List.append_assoc]
    cases phi k (six d x r p r' q) <;> rfl
  · show (match rowE Γ 3 brC brK brE (.tuple (six d x r p r' q)) xss (bS T M s3) with | .ok r st => rowL (rowE Γ 3 brC brK brE) (encF Fd) r st | _ => .stuck) = _
    rw [h2]; exact h4
noncomputable def bRs (rows : LL) : List PyData := (List.range rows.length).map fun k => .list (bR rows k)
theorem by_rows_ok {rows : LL} (h : OkText rows) (hf : faultR (rd rows) = .ok) (hz : (trAll 0 rows ([], [])).1.length ≤ 100000) : B Γ d_law_by_rows [.val (.list (treeD rows)), .val (.int rows.length)] = .ret (.val (.list (bRs rows))) [] := by
 obtain ⟨l, hl⟩ : ∃ l, rows[0]? = some l := ⟨_, geg h.one⟩
 obtain ⟨a, hv⟩ := row_parts (ok_d0 hf) hl
 have hb := hv.bound h.one
 obtain ⟨yss, s', h1, h2⟩ := row_all (Γ := Γ) (T := .val (.list (treeD rows))) (M := .val (.int rows.length)) (trAll 0 rows ([], [])).1 (List.replicate rows.length []) none (fun e he => by rw [List.length_replicate]; exact hb e he) (by rw [List.length_replicate]; exact big h.most) fun xs hx => by rw [(List.mem_replicate.mp hx).2, List.length_nil, Nat.zero_add]; exact big hz
 have hy : yss.map PyData.list = bRs rows := by
  unfold bRs
  refine List.ext_getElem? fun k => ?_
  rw [List.getElem?_map, List.getElem?_map, h1]
  rcases Nat.lt_or_ge k rows.length with q | q
  · rw [List.getElem?_replicate, if_pos q, List.getElem?_range q]; rfl
  · rw [List.getElem?_eq_none_iff.mpr (by rw [List.length_replicate]; exact q), List.getElem?_eq_none_iff.mpr (by rw [List.length_range]; exact q)]; rfl
 have e1 : (ev Γ (n_1 q_1) (bS (.val (.list (treeD rows))) (.val (.int rows.length)) none)).bind (itE 1) = .ok ((List.range rows.length).map fun (k : Nat) => PyData.int k) (bS (.val (.list (treeD rows))) (.val (.int rows.length)) none) := it_of (fs := [.val (.int rows.length)]) rfl (by
  show ((rangeF 0 (rows.length : Int)).or _) = _
  rw [range_n (big h.most)]; rfl)
 have e2 : (ev Γ q_0 (bS (.val (.list (treeD rows))) (.val (.int rows.length)) none)).bind (itE 0) = .ok (treeD rows) (bS (.val (.list (treeD rows))) (.val (.int rows.length)) none) := it_of (fs := [.val (.list (treeD rows))]) rfl (by
  show (((none : Option (List PyData)).or (gd (okLen (treeD rows).length) (treeD rows))).or none) = _
  rw [okLen_of (by unfold treeD; rw [encF_len]; exact big hz)]; rfl)
 refine run_of rfl (x' := 0) (v' := (bS (.val (.list (treeD rows))) (.val (.int rows.length)) s').v) ?_
 show ((ev Γ (n_1 q_1) (bS (.val (.list (treeD rows))) (.val (.int rows.length)) none)).bind (itE 1)).bind (fun zs st => rowsE Γ 2 3 q_0 brC brK brE zs.length st) = _
 rw [e1]
 show (((ev Γ q_0 (bS (.val (.list (treeD rows))) (.val (.int rows.length)) none)).bind (itE 0)).bind fun xs st => (match rowL (rowE Γ 3 brC brK brE) xs (List.replicate ((List.range rows.length).map fun (k : Nat) => PyData.int k).length []) st with | .ok xss st => Mine.Internal.R.ok (Fl.ret (.val (.list (xss.map .list)))) st | _ => .stuck)) = _
 rw [e2, lmp, List.length_range]
 show (match rowL (rowE Γ 3 brC brK brE) (encF (trAll 0 rows ([], [])).1) (List.replicate rows.length []) (bS (.val (.list (treeD rows))) (.val (.int rows.length)) none) with | .ok xss st => _ | _ => _) = _
 rw [h2, ← hy]
end
section
variable {rows : LL} {ys : LL} {r g : Nat}
theorem splice_lo {k : Nat} (hr : r + g ≤ rows.length) (hk : k < r) : (splice rows ys r g)[k]? = rows[k]? := by
 unfold splice
 rw [List.append_assoc, List.getElem?_append_left (by rw [List.length_take]; lia), List.getElem?_take_of_lt hk]
theorem splice_hi {j : Nat} (hr : r + g ≤ rows.length) : (splice rows ys r g)[r + j + ys.length]? = rows[r + g + j]? := by
 unfold splice
 have hl : (rows.take r ++ ys).length = r + ys.length := by rw [lap, List.length_take]; lia
 rw [List.getElem?_append_right (by rw [hl]; lia), hl, List.getElem?_drop]
 congr 1
 lia
noncomputable def Dn (rows rows' : LL) (ps : List (Nat × Nat)) : Prop := ∃ r g ys, r + g ≤ rows.length ∧ g ≤ 2 ∧ rows' = splice rows ys r g ∧ ps = keepRows r g ys.length rows.length
theorem Dn.len {rows' : LL} {ps : List (Nat × Nat)} (h : Dn rows rows' ps) : ps.length ≤ rows.length ∧ rows.length ≤ ps.length + 2 := by
 obtain ⟨r, g, ys, h1, h2, rfl, rfl⟩ := h
 unfold keepRows
 rw [lap, lmp, lmp, List.length_range, List.length_range]; lia
theorem Dn.same {rows' : LL} {ps : List (Nat × Nat)} (h : Dn rows rows' ps) : ∀ q ∈ ps, ∃ l, rows[q.1]? = some l ∧ rows'[q.2]? = some l := fun q hq => by
 obtain ⟨r, g, ys, h1, h2, rfl, rfl⟩ := h
 unfold keepRows at hq
 rcases List.mem_append.mp hq with hq | hq
 · obtain ⟨k, hk, rfl⟩ := List.mem_map.mp hq
   have hk := List.mem_range.mp hk
   exact ⟨_, geg (show k < rows.length by lia), (splice_lo h1 hk).trans (geg _)⟩
 · obtain ⟨j, hj, rfl⟩ := List.mem_map.mp hq
   have hj := List.mem_range.mp hj
   exact ⟨_, geg (show r + g + j < rows.length by lia), (splice_hi h1).trans (geg _)⟩
theorem keepRow_is {n r : Nat} (h : r < n) : keepRow r n = keepRows r 1 1 n := keep_rows (f := fun k => k) h (fun k hk => beq_no (Nat.ne_of_lt hk)) (fun j hj => by cases Nat.lt_one_iff.mp hj; rw [Nat.add_zero, beq_self_eq_true]; rfl) (fun j => beq_no (by lia)) (fun k hk => rfl) fun j => by lia
theorem put_dn {p c : Nat} {ln : List Nat} (hi : r < rows.length) : Dn rows (splice rows (linesP ln p c) r 1) (putK rows.length r c) := by
 refine ⟨r, 1, linesP ln p c, hi, by decide, rfl, ?_⟩
 unfold putK linesP
 by_cases h : c = 10
 · rw [if_pos h, if_pos h]; rfl
 · rw [if_neg h, if_neg h]; exact keepRow_is hi
theorem cut_dn {p : Nat} {ln : List Nat} (hr : rows[r]? = some ln) (hc : p < ln.length ∨ (p = ln.length ∧ ∃ l2, rows[r + 1]? = some l2 ∧ ln.length + l2.length ≤ 120)) : Dn rows (cutR rows r p) (cutK rows.length (decide (p < ln.length)) r) := by
 have hi := get_lt hr
 unfold cutR cutK
 rw [hr, Option.getD_some]
 rcases hc with hc | ⟨hc, l2, hr2, _⟩
 · rw [if_pos hc, dtt hc]
   exact ⟨r, 1, _, hi, by decide, rfl, keepRow_is hi⟩
 · have hn : ¬ p < ln.length := Nat.not_lt.mpr (Nat.le_of_eq hc.symm)
   rw [if_neg hn, dff hn]
   exact ⟨r, 2, _, get_lt hr2, by decide, rfl, rfl⟩
end
noncomputable def Six (x : List PyData) : Prop := ∃ (a r p q e : Int) (s : Str), x = [.int a, .str s, .int r, .int p, .int q, .int e] ∧ (PyData.str s).canLay0 = true
noncomputable def tkOk : Tk → Prop
 | .word _ l _ => okLine l = true
 | .br _ c => isBr c = true
theorem lay_line {l : List Nat} (h : okLine l = true) : (PyData.str (S l)).canLay0 = true := by
 show PyData.strOk (S l) = true
 unfold PyData.strOk S
 rw [Array.all_eq_true]
 intro i hi
 have hm : (l.toArray)[i] ∈ l := by simp
 have := List.all_eq_true.mp (and2 h).2 _ hm
 unfold isSign at this
 simp at this
 simp
 have := this.1.2
 lia
theorem lay_br {c : Nat} (h : isBr c = true) : (PyData.str (S [c])).canLay0 = true := by
 rw [isBr_is] at h
 unfold isOp isCl at h
 have h1 : (c = 40 ∨ c = 91 ∨ c = 123) ∨ (c = 41 ∨ c = 93 ∨ c = 125) := by simpa using h
 rcases h1 with (rfl | rfl | rfl) | (rfl | rfl | rfl) <;> decide +kernel
theorem six_snoc {Fd : List (List PyData)} {x : List PyData} (h : ∀ x ∈ Fd, Six x) (hx : Six x) : ∀ z ∈ Fd ++ [x], Six z := fun y hy => by
 rcases List.mem_append.mp hy with hy | hy
 · exact h y hy
 · rw [lsm hy]; exact hx
theorem six_step {r : Nat} {s : List (List PyData) × List Nat} {t : Tk} (ht : tkOk t) (h : ∀ x ∈ s.1, Six x) : (∀ x ∈ (stT r s t).1, Six x) ∧ (stT r s t).1.length ≤ s.1.length + 1 := by
 cases t with
 | word p l q => exact ⟨six_snoc h ⟨_, _, _, _, _, _, rfl, lay_line ht⟩, by show (_ ++ [_]).length ≤ _; rw [lap]; exact Nat.le_refl _⟩
 | br p c =>
  unfold stT
  dsimp only
  split
  · refine ⟨fun y hy => ?_, by rw [List.length_set]; exact Nat.le_succ _⟩
    cases hg : s.1[s.2.getLast?.getD 0]? with
    | none => rw [hg, List.set_eq_of_length_le (List.getElem?_eq_none_iff.mp hg)] at hy; exact h y hy
    | some z =>
     rw [hg] at hy
     rcases List.mem_or_eq_of_mem_set hy with hy | rfl
     · exact h y hy
     · obtain ⟨a, r', p', q, e, s', rfl, hs⟩ := h z (mog hg)
       exact ⟨_, _, _, _, _, _, rfl, hs⟩
  · exact ⟨six_snoc h ⟨_, _, _, _, _, _, rfl, lay_br ht⟩, by rw [lap]; exact Nat.le_refl _⟩
theorem six_fold (r : Nat) : ∀ (ts : List Tk) (s : List (List PyData) × List Nat), (∀ t ∈ ts, tkOk t) → (∀ x ∈ s.1, Six x) → (∀ x ∈ (ts.foldl (stT r) s).1, Six x) ∧ (ts.foldl (stT r) s).1.length ≤ s.1.length + ts.length
 | [], s, _, h => ⟨h, Nat.le_refl _⟩
 | t :: ts, s, ht, h => by
  obtain ⟨h1, h2⟩ := six_step (r := r) (ht t (.head _)) h
  obtain ⟨h3, h4⟩ := six_fold r ts (stT r s t) (fun k hk => ht k (.tail _ hk)) h1
  exact ⟨h3, nlt h4 (nlt (Nat.add_le_add_right h2 _) (Nat.le_of_eq (add1 _ _)))⟩
theorem tk_ok {L : List Nat} (hL : okLine L = true) : ∀ (rest : List Nat) (i : Nat) (bg : Option Nat), ∀ t ∈ tk L i bg rest, tkOk t
 | [], i, bg, t, ht => nomatch ht
 | c :: rest, i, bg, t, ht => by
  rw [tk_c] at ht
  rcases List.mem_append.mp ht with ht | ht
  · unfold tkStep at ht
    rcases List.mem_append.mp ht with ht | ht
    · cases he : ends c with
      | false => rw [he] at ht; cases ht
      | true =>
       rw [he] at ht
       cases bg with
       | none => cases ht
       | some b => rw [lsm ht]; exact okLine_sub hL ((List.drop_sublist ..).trans (List.take_sublist ..))
    · cases hb : isBr c with
      | false => rw [hb] at ht; cases ht
      | true => rw [hb] at ht; rw [lsm ht]; exact hb
  · exact tk_ok hL rest _ _ t ht
theorem six_all : ∀ (rows : LL) (n : Nat) (s : List (List PyData) × List Nat), okLines rows → (∀ x ∈ s.1, Six x) → (∀ x ∈ (trAll n rows s).1, Six x) ∧ (trAll n rows s).1.length ≤ s.1.length + 242 * rows.length
 | [], n, s, _, h => ⟨h, Nat.le_refl _⟩
 | l :: rows, n, s, hr, h => by
  obtain ⟨h1, h2⟩ := six_fold n (toks l) s (tk_ok (hr l (.head _)) _ _ _) h
  obtain ⟨h3, h4⟩ := six_all rows (n + 1) _ (fun k hk => hr k (.tail _ hk)) h1
  have := tok_le (hr l (.head _))
  exact ⟨h3, by rw [trAll_c, List.length_cons]; lia⟩
end Mine.Internal.S
end
section
namespace Mine.Internal.L09
open Mine.Internal.S
noncomputable def lB : CS := .seq (.assign (.loc 1) (.call false 43 (n_3 q_2 q_1 (.call true 39 (n_2 q_1 q_3))))) .nil
noncomputable def kB : CS := .seq (.iff (.or (.not (.chain (n_2 l_0 q_9) .LtE .Lt (.op .len (n_1 q_4)))) (.or (.not (.chain (n_2 l_0 q_10) .LtE .Lt (.op .len (n_1 q_1)))) (.cmp .NotEq (n_2 (.op .idx (n_2 q_4 q_9)) (.op .idx (n_2 q_1 q_10)))))) (.seq (.ret (.lit (.bool false))) .nil) .nil) .nil
noncomputable def cN : CE := .cmp .NotEq (n_2 (.op .idx (n_2 q_11 (.op .idx (n_2 q_13 l_0)))) (.op .idx (n_2 q_12 (.op .idx (n_2 q_13 l_1)))))
noncomputable def tl3 : CS := .seq (.iff (.or (.cmp .Is (n_2 q_5 (.lit .none))) (.cmp .Is (n_2 q_7 (.lit .none)))) (.seq (.ret (.lit (.bool true))) .nil) .nil) (.seq (.assign (.loc 11) (.call true 41 (n_2 q_5 (.op .len (n_1 q_4))))) (.seq (.assign (.loc 12) (.call true 41 (n_2 q_7 (.op .len (n_1 q_1))))) (.seq (.ret (.cmp .Eq (n_2 (.comp 13 0 q_8 q_13 cN) (.op .lst .nil)))) .nil)))
noncomputable def tl2 : CS := .seq (.assign (.loc 1) (.call false 43 (n_3 q_2 q_1 q_6))) (.seq (.assign (.loc 7) (.call false 40 (n_1 q_2))) (.seq (.assign (.loc 8) (.meth 27 q_2 .nil)) (.seq (.iff (.or (.cmp .NotEq (n_2 (.meth 22 q_2 .nil) q_1)) (.cmp .Lt (n_2 (.op .len (n_1 q_8)) (bS_ (.op .len (n_1 q_4)) l_2)))) (.seq (.ret (.lit (.bool false))) .nil) .nil) (.seq (.loop true [9, 10] 0 q_8 kB) tl3))))
noncomputable def tl : CS := .seq (.assign (.loc 4) (.meth 22 q_2 .nil)) (.seq (.assign (.loc 5) (.call false 40 (n_1 q_2))) (.seq (.assign (.loc 6) (.call true 42 (n_2 q_1 (.call true 30 (n_2 q_0 l_4))))) (.seq (.iff (.cmp .Is (n_2 q_6 (.lit .none))) (.seq (.ret (.lit (.bool true))) .nil) .nil) tl2)))
noncomputable def m_kept : FnDef := ⟨2, "kept", ["self"], [], (.seq (.ret (.peek .copy (.fld 0 5) .nil)) .nil)⟩
noncomputable def d_law_tree_or : FnDef := ⟨1, "_law_tree_or", ["_law_page"], [], (.seq (.try_ (.seq (.ret (.meth 24 q_0 .nil)) .nil) (.hd 4 none (.seq (.ret (.lit .none)) .nil) .hnil)) .nil)⟩
noncomputable def d_law_last : FnDef := ⟨0, "_law_last", ["_law_rows", "_law_cell"], ["_law_row", "_law_place", "_law_sign"], (.seq (.assign (.loc 2) (bM (bM (bX q_1 l_69621) l_100019) (.op .len (n_1 q_0)))) (.seq (.assign (.loc 3) (bM (bM (bX q_1 l_16807) l_10009) (bA (.op .len (n_1 (.op .idx (n_2 q_0 q_2)))) l_1))) (.seq (.assign (.loc 4) (.op .idx (n_2 (.op .lst (n_3 (.lit (.str (S [97]))) (.lit (.str (S [10]))) (.lit (.str (S [32]))))) (bM (bM q_1 l_5) l_3)))) (.seq (.iff (.cmp .Lt (n_2 (bM q_1 l_5) l_3)) (.seq (.iff (.or (.and (.cmp .Eq (n_2 q_4 (.lit (.str (S [10]))))) (.cmp .Eq (n_2 (.op .len (n_1 q_0)) l_64))) (.and (.cmp .NotEq (n_2 q_4 (.lit (.str (S [10]))))) (.cmp .Eq (n_2 (.op .len (n_1 (.op .idx (n_2 q_0 q_2)))) l_120)))) (.seq (.ret (.lit .none)) .nil) .nil) (.seq (.ret (.op .tup (n_4 l_0 q_2 q_3 q_4))) .nil)) .nil) (.seq (.iff (.cmp .Eq (n_2 q_3 (.op .len (n_1 (.op .idx (n_2 q_0 q_2)))))) (.seq (.iff (.or (.cmp .Eq (n_2 (bA q_2 l_1) (.op .len (n_1 q_0)))) (.cmp .Gt (n_2 (bA (.op .len (n_1 (.op .idx (n_2 q_0 q_2)))) (.op .len (n_1 (.op .idx (n_2 q_0 (bA q_2 l_1)))))) l_120))) (.seq (.ret (.lit .none)) .nil) .nil) .nil) .nil) (.seq (.ret (.op .tup (n_4 l_1 q_2 q_3 (.lit (.str (S [])))))) .nil))))))⟩
noncomputable def d_law_done : FnDef := ⟨1, "_law_done", ["_law_page", "_law_rows", "_law_deed_here"], [], (.seq (.iff (.cmp .Is (n_2 q_2 (.lit .none))) (.seq (.ret q_1) .nil) .nil) (.seq (.iff (.cmp .Eq (n_2 (.op .idx (n_2 q_2 l_0)) l_0)) (.seq (.drop (.meth 20 q_0 (n_3 (.op .idx (n_2 q_2 l_1)) (.op .idx (n_2 q_2 l_2)) (.op .idx (n_2 q_2 l_3))))) (.seq (.ret (.call true 37 (n_4 q_1 (.op .idx (n_2 q_2 l_1)) (.op .idx (n_2 q_2 l_2)) (.op .idx (n_2 q_2 l_3))))) .nil)) .nil) (.seq (.drop (.meth 21 q_0 (n_2 (.op .idx (n_2 q_2 l_1)) (.op .idx (n_2 q_2 l_2))))) (.seq (.ret (.call true 38 (n_3 q_1 (.op .idx (n_2 q_2 l_1)) (.op .idx (n_2 q_2 l_2))))) .nil))))⟩
noncomputable def d_law : FnDef := ⟨1, "law", ["_law_script"], ["_law_rows", "_law_page", "_law_cell", "_law_elder", "_law_before", "_law_deed_here", "_law_after", "_law_kept", "_law_one", "_law_other", "_law_ahead", "_law_behind"], (.seq (.assign (.loc 1) (.call true 33 (n_1 q_0))) (.seq (.assign (.loc 2) (.new (n_1 (.op .list (n_1 q_1))))) (.seq (.loop false [3] 0 (.op (.slc true true) (n_3 q_0 l_5 (bA l_5 (bM (.call true 30 (n_2 q_0 l_3)) l_7)))) lB) (.seq (.assign (.loc 4) (.meth 22 q_2 .nil)) (.seq (.assign (.loc 5) (.call false 40 (n_1 q_2))) (.seq (.assign (.loc 6) (.call true 42 (n_2 q_1 (.call true 30 (n_2 q_0 l_4))))) (.seq (.iff (.cmp .Is (n_2 q_6 (.lit .none))) (.seq (.ret (.lit (.bool true))) .nil) .nil) (.seq (.assign (.loc 1) (.call false 43 (n_3 q_2 q_1 q_6))) (.seq (.assign (.loc 7) (.call false 40 (n_1 q_2))) (.seq (.assign (.loc 8) (.meth 27 q_2 .nil)) (.seq (.iff (.or (.cmp .NotEq (n_2 (.meth 22 q_2 .nil) q_1)) (.cmp .Lt (n_2 (.op .len (n_1 q_8)) (bS_ (.op .len (n_1 q_4)) l_2)))) (.seq (.ret (.lit (.bool false))) .nil) .nil) (.seq (.loop true [9, 10] 0 q_8 kB) (.seq (.iff (.or (.cmp .Is (n_2 q_5 (.lit .none))) (.cmp .Is (n_2 q_7 (.lit .none)))) (.seq (.ret (.lit (.bool true))) .nil) .nil) (.seq (.assign (.loc 11) (.call true 41 (n_2 q_5 (.op .len (n_1 q_4))))) (.seq (.assign (.loc 12) (.call true 41 (n_2 q_7 (.op .len (n_1 q_1))))) (.seq (.ret (.cmp .Eq (n_2 (.comp 13 0 q_8 q_13 cN) (.op .lst .nil)))) .nil))))))))))))))))⟩
noncomputable def P : Tab := [(0, m_init), (1, d_is_sign), (2, d_is_row), (3, d_is_text), (4, d_is_bracket), (5, d_taken_apart), (6, d_tree_mv), (7, d_lower), (8, d_reading_of), (9, d_joined), (10, d_fault_in), (15, m_join_all), (16, m_join_over), (17, m_need_place), (18, m_change_row), (19, m_change_rows), (20, m_put), (21, m_cut), (22, m_text), (23, m_fault), (24, m_tree), (27, m_kept), (30, d_law_cell_at), (31, d_law_any_sign), (32, d_law_stream), (33, d_law_text), (37, d_law_put), (38, d_law_cut), (39, d_law_deed), (40, d_law_tree_or), (41, d_law_by_rows), (42, d_law_last), (43, d_law_done), (44, d_law)]
end Mine.Internal.L09
end
section
namespace Mine.Internal.L09
open Mine.Internal.S
theorem kd : Pd' P := { l0 := rfl, l1 := rfl, l2 := rfl, l3 := rfl, l4 := rfl, l5 := rfl, l7 := rfl, l8 := rfl, l9 := rfl, l10 := rfl, l15 := rfl, l16 := rfl, l17 := rfl, l18 := rfl, l19 := rfl, l20 := rfl, l21 := rfl, l22 := rfl, l23 := rfl }
theorem td : Td' P := ⟨rfl, rfl, rfl, rfl⟩
noncomputable abbrev at2 (i : Nat) : CE := .op .idx (n_2 q_2 (.lit (.int i)))
noncomputable abbrev rV (rows : LL) : F := .val (.list (sRows rows))
section
variable {rows : LL} {cts : List Nat} {es : Es} {m : Int} {ps : List (Nat × Nat)} {r p c : Nat} {ln : List Nat} {Γ : Nat → Fn} {st st1 : St} {X : Int} {d : PyData}
theorem ev_fnP {es : CE} {fs ys : List F} {f : F} {k : Nat} {p' : List Slots} (h : ev Γ es st = .ok fs st1) (ha : args st1.v fs = some ys) (hr : Γ k st1.p ys = .ret f p') : ev Γ (.call false k es) st = .ok [f] { st1 with p := p' } := (ev_call h).trans (by
 unfold callE
 rw [ha]
 show outE false (Γ k st1.p ys) st1 = _
 rw [hr]; rfl)
theorem ev_methx {rc es : CE} {ys as : List F} {k n j : Nat} {p' : List Slots} (hr : ev Γ rc st = .ok [.pg n] st) (he : ev Γ es st = .ok ys st1) (ha : args st1.v (.pg n :: ys) = some as) (hg : Γ k st1.p as = .exc j p') : ev Γ (.meth k rc es) st = .exc j { st1 with p := p' } := by
 show (ev Γ rc st).bind _ = _
 rw [hr]
 show (ev Γ es st).bind _ = _
 rw [he]
 show callE Γ false k (.pg n :: ys) st1 = _
 unfold callE
 rw [ha]
 show outE false (Γ k st1.p as) st1 = _
 rw [hg]; rfl
theorem sp6 (n : Nat) : Sp6 (Gam P (n + 2)) := fun rows h hf => (gam _ rfl _ _).trans (tree_parts_ok (sp4 n kd.toKd') h hf)
theorem sp23 (n : Nat) : Sp23 (Gam P (n + 2)) := fun rows cts es m ps h => (gam _ kd.l23 _ _).trans (fault_m_ok (sp10 n kd.toKd') h)
noncomputable def okT (rows : LL) : Bool := isN (encFa (faultR (rd rows)))
noncomputable def trO (rows : LL) : F := if okT rows then .own (treeD rows) else .val .none
theorem tree_or (n : Nat) (h : Pg rows cts es) : Gam P (n + 4) 40 [pP rows cts es m ps] [.pg 0] = .ret (trO rows) [pP rows cts es m ps] := by
 refine (gam _ rfl _ _).trans ?_
 unfold trO
 by_cases hf : faultR (rd rows) = .ok
 · rw [if_pos (show okT rows = true from (fa_none _).mpr hf)]
   have e1 := ret_own (ev_meth (Γ := Gam P (n + 3)) (k := 24) (r := .get (.loc 0)) (es := .nil) (st := ⟨[some (.pg 0)], [pP rows cts es m ps], 0⟩) (st1 := ⟨[some (.pg 0)], [pP rows cts es m ps], 0⟩) (n := 0) (ys := []) rfl rfl rfl ((gam _ rfl _ _).trans (tree_m (sp6 n) (sp23 n) h hf)))
   refine run_of (x' := 0) (v' := [some (.pg 0)]) rfl (ex_done ?_)
   show tryE (ex (Gam P (n + 3)) (.seq (.ret (.meth 24 q_0 .nil)) .nil) ⟨[some (.pg 0)], [pP rows cts es m ps], 0⟩) _ = _
   rw [ex_done e1]; rfl
 · rw [if_neg (show ¬ okT rows = true from fun q => hf ((fa_none _).mp q))]
   have e1 := ret_exc (ev_methx (Γ := Gam P (n + 3)) (k := 24) (rc := .get (.loc 0)) (es := .nil) (st := ⟨[some (.pg 0)], [pP rows cts es m ps], 0⟩) (st1 := ⟨[some (.pg 0)], [pP rows cts es m ps], 0⟩) (n := 0) (ys := []) rfl rfl rfl ((gam _ rfl _ _).trans (tree_mx (sp23 n) h hf)))
   exact run_of rfl (ex_done ((ex_try (ex_exc e1)).trans rfl))
theorem okK (hp : ps.length ≤ 64) : okLen (encK ps).length = true := okLen_of (by unfold encK; rw [lmp]; exact big hp)
theorem kept_at (n : Nat) (hp : ps.length ≤ 64) : Gam P (n + 1) 27 [pP rows cts es m ps] [.pg 0] = .ret (.own (encK ps)) [pP rows cts es m ps] := (gam _ rfl _ _).trans (run_of rfl (ex_done (ret_own (pk_copy (f := .own (encK ps)) rfl rfl (okK hp)))))
theorem done_no (n : Nat) : Gam P (n + 1) 43 [pP rows cts es m ps] [.pg 0, rV rows, .val .none] = .ret (rV rows) [pP rows cts es m ps] := (gam _ rfl _ _).trans (run_of rfl (ex_done ((ex_then rfl).trans (ex_done (ret_val rfl)))))
theorem done_ok (n : Nat) (h : Pg rows cts es) (hz : es.length ≤ 9000) (hd : Deed rows d) (hn : d ≠ .none) : ∃ rows' cts' es' m' ps', Dn rows rows' ps' ∧ Pg rows' cts' es' ∧ es'.length ≤ es.length + 128 ∧ Gam P (n + 14) 43 [pP rows cts es m ps] [.pg 0, rV rows, .val d] = .ret (.own (sRows rows')) [pP rows' cts' es' m' ps'] := by
 cases hd with
 | no => exact absurd rfl hn
 | put r p c ln hr hp hc =>
  obtain ⟨es', m', h1, h2, h3⟩ := put_x (m := m) (ps := ps) kd n h hr hp hc hz
  refine ⟨_, _, es', m', _, put_dn (get_lt hr), h2, h1, (gam _ rfl _ _).trans ?_⟩
  have e2 : ex (Gam P (n + 13)) _ ⟨[some (.pg 0), some (rV rows), some (.val (.tuple [.int 0, .int r, .int p, sgn c]))], [pP rows cts es m ps], 0⟩ = .ok .next ⟨[some (.pg 0), some (rV rows), some (.val (.tuple [.int 0, .int r, .int p, sgn c]))], [pP (splice rows (linesP ln p c) r 1) (putC cts r c) es' m' (putK rows.length r c)], 0⟩ := ex_drop (ev_meth (st1 := ⟨[some (.pg 0), some (rV rows), some (.val (.tuple [.int 0, .int r, .int p, sgn c]))], [pP rows cts es m ps], 0⟩) (k := 20) (r := .get (.loc 0)) (es := .cons (at2 1) (n_2 (at2 2) (at2 3))) (n := 0) (ys := [.val (.int r), .val (.int p), .val (sgn c)]) rfl rfl rfl h3)
  exact run_of rfl ((ex_skip rfl).trans (ex_done ((ex_then rfl).trans ((ex_next e2).trans (ex_done (ret_own (ev_fn (fs := [rV rows, .val (.int r), .val (.int p), .val (sgn c)]) rfl rfl ((gam _ rfl _ _).trans (law_put_ok h.ok hr hp)))))))))
 | cut r p ln hr hc =>
  obtain ⟨es', m', h1, h2, _, h3⟩ := cut_x (m := m) (ps := ps) kd n h hr hc hz
  refine ⟨_, _, es', m', _, cut_dn hr hc, h2, h1, (gam _ rfl _ _).trans ?_⟩
  have e2 : ex (Gam P (n + 13)) _ ⟨[some (.pg 0), some (rV rows), some (.val (.tuple [.int 1, .int r, .int p, .str (S [])]))], [pP rows cts es m ps], 0⟩ = .ok .next ⟨[some (.pg 0), some (rV rows), some (.val (.tuple [.int 1, .int r, .int p, .str (S [])]))], [pP (cutR rows r p) (cutC cts (decide (p < ln.length)) r) es' m' (cutK rows.length (decide (p < ln.length)) r)], 0⟩ := ex_drop (ev_meth (st1 := ⟨[some (.pg 0), some (rV rows), some (.val (.tuple [.int 1, .int r, .int p, .str (S [])]))], [pP rows cts es m ps], 0⟩) (k := 21) (r := .get (.loc 0)) (es := .cons (at2 1) (n_1 (at2 2))) (n := 0) (ys := [.val (.int r), .val (.int p)]) rfl rfl rfl h3)
  exact run_of rfl ((ex_skip rfl).trans ((ex_skip rfl).trans ((ex_next e2).trans (ex_done (ret_own (ev_fn (fs := [rV rows, .val (.int r), .val (.int p)]) rfl rfl ((gam _ rfl _ _).trans (law_cut_all h.ok hr hc))))))))
noncomputable def lL : List Nat := [97, 10, 32]
noncomputable abbrev nS (rows : LL) (X : Int) (a b c : Option F) : St := ⟨[some (rV rows), some (.val (.int X)), a, b, c], [], 0⟩
theorem lL_ok : ∀ c ∈ lL, c = 10 ∨ isSign c = true := by decide
theorem last_ok (h : OkText rows) : ∃ d, Deed rows d ∧ B Γ d_law_last [rV rows, .val (.int X)] = .ret (.val d) [] := by
 have hm := h.most
 obtain ⟨r, hr, e1⟩ := ev_mod3 (Γ := Γ) (X := X) (st := nS rows X none none none) (a := .get (.loc 1)) (k := 69621) (m := 100019) (n := rows.length) rfl rfl h.one rfl (ev_rlen (a := .get (.loc 0)) h rfl)
 obtain ⟨ln, hln⟩ : ∃ ln, rows[r]? = some ln := ⟨_, geg hr⟩
 have hl := okLine_len (h.rows ln (mog hln))
 obtain ⟨p, hp, e2⟩ := ev_mod3 (Γ := Γ) (X := X) (st := nS rows X (sI r) none none) (a := .get (.loc 1)) (b := .op (.bin .Add) (n_2 (.op .len (n_1 (.op .idx (n_2 q_0 q_2)))) l_1)) (k := 16807) (m := 10009) (n := ln.length + 1) rfl rfl (Nat.succ_pos _) rfl ((ev_op (ev_ci (i := ln.length) (ev_slen hl (get_row h hln rfl rfl)) rfl)).trans rfl)
 have hp := Nat.le_of_lt_succ hp
 have b1 : ex Γ (.assign (.loc 2) _) (nS rows X none none none) = .ok .next (nS rows X (sI r) none none) := (ex_assign e1).trans rfl
 have b2 : ex Γ (.assign (.loc 3) _) (nS rows X (sI r) none none) = .ok .next (nS rows X (sI r) (sI p) none) := (ex_assign e2).trans rfl
 obtain ⟨j, hj, ej⟩ := fmod_nat (X.fmod 5) (n := 3) (by decide)
 obtain ⟨c, hc⟩ : ∃ c, lL[j]? = some c := ⟨_, geg (show j < lL.length from hj)⟩
 have b30 : ev Γ (bM (bM q_1 l_5) l_3) (nS rows X (sI r) (sI p) none) = .ok [.val (.int j)] (nS rows X (sI r) (sI p) none) := by
  rw [← ej]; rfl
 have b3 : ex Γ (.assign (.loc 4) (.op .idx (n_2 (.op .lst (n_3 (.lit (.str (S [97]))) (.lit (.str (S [10]))) (.lit (.str (S [32]))))) (bM (bM q_1 l_5) l_3)))) (nS rows X (sI r) (sI p) none) = .ok .next (nS rows X (sI r) (sI p) (sG c)) :=
  (ex_assign ((ev_op (fs := [.val (.list (lL.map sgn)), .val (.int j)]) (ev_cons (f := .own (lL.map sgn)) rfl (ev_ci (i := j) b30 rfl))).trans (lop_idx (show 3 ≤ 200000 by decide) (by rw [List.getElem?_map, hc]; rfl)))).trans rfl
 have b4 : ev Γ (.cmp .Lt (n_2 (bM q_1 l_5) l_3)) (nS rows X (sI r) (sI p) (sG c)) = .ok [bV (decide (X.fmod 5 < 3))] (nS rows X (sI r) (sI p) (sG c)) := rfl
 cases hq4 : decide (X.fmod 5 < 3) with
 | true =>
  rw [hq4] at b4
  have t1 := ev_or (Γ := Γ) (ev_and (a := .cmp .Eq (n_2 q_4 (.lit (.str (S [10]))))) (st := nS rows X (sI r) (sI p) (sG c)) (x := [c] == [10]) rfl fun _ => ev_cmp (op := .Eq) (es := .cons (.op .len (n_1 q_0)) (n_1 l_64)) (u := .int rows.length) (v := .int 64) (q := (rows.length : Int) == 64) (ev_ci (i := rows.length) (ev_rlen h rfl) rfl) rfl) fun _ => ev_and (a := .cmp .NotEq (n_2 q_4 (.lit (.str (S [10]))))) (x := !([c] == [10])) rfl fun _ => ev_cmp (op := .Eq) (es := .cons (.op .len (n_1 (.op .idx (n_2 q_0 q_2)))) (n_1 l_120)) (u := .int ln.length) (v := .int 120) (q := (ln.length : Int) == 120) (ev_ci (i := ln.length) (ev_slen hl (get_row h hln rfl rfl)) rfl) rfl
  cases hq : (([c] == [10]) && ((rows.length : Int) == 64)) || (!([c] == [10]) && ((ln.length : Int) == 120)) with
  | true =>
   rw [hq] at t1
   exact ⟨.none, .no, run_of rfl ((ex_next b1).trans ((ex_next b2).trans ((ex_next b3).trans (ex_done ((ex_then b4).trans (ex_done ((ex_then t1).trans (ex_done (ret_val rfl)))))))))⟩
  | false =>
   rw [hq] at t1
   refine ⟨_, .put r p c ln hln hp ?_, run_of rfl ((ex_next b1).trans ((ex_next b2).trans ((ex_next b3).trans (ex_done ((ex_then b4).trans ((ex_skip t1).trans (ex_done (ret_val rfl))))))))⟩
   rw [Bool.or_eq_false_iff] at hq
   by_cases h10 : c = 10
   · have := hq.1
     rw [h10, show (([10] : List Nat) == [10]) = true from rfl, Bool.true_and] at this
     exact .inl ⟨h10, Nat.lt_of_le_of_ne hm fun q => by rw [q] at this; cases this⟩
   · have := hq.2
     rw [show ([c] == [10]) = false from bfi fun z => h10 (List.cons.inj (eq_of_beq z)).1, Bool.not_false, Bool.true_and] at this
     exact .inr ⟨(lL_ok c (mog hc)).resolve_left h10, Nat.lt_of_le_of_ne hl fun q => by rw [q] at this; cases this⟩
 | false =>
  rw [hq4] at b4
  have e5 := ev_cmp (Γ := Γ) (op := .Eq) (es := .cons q_3 (n_1 (.op .len (n_1 (.op .idx (n_2 q_0 q_2)))))) (st := nS rows X (sI r) (sI p) (sG c)) (u := .int p) (v := .int ln.length) (q := (p : Int) == ln.length) (ev_ci (i := p) rfl (ev_ci (i := ln.length) (ev_slen hl (get_row h hln rfl rfl)) rfl)) rfl
  by_cases hlt : p < ln.length
  · rw [show ((p : Int) == ln.length) = false from bfi fun q => Nat.ne_of_lt hlt (Int.ofNat_inj.mp (eq_of_beq q))] at e5
    exact ⟨_, .cut r p ln hln (.inl hlt), run_of rfl ((ex_next b1).trans ((ex_next b2).trans ((ex_next b3).trans ((ex_skip b4).trans ((ex_skip e5).trans (ex_done (ret_val rfl)))))))⟩
  · have hpe : p = ln.length := Nat.le_antisymm hp (Nat.le_of_not_lt hlt)
    rw [show ((p : Int) == ln.length) = true by rw [hpe]; exact beq_self_eq_true _] at e5
    have a1 := (ev_cmp (Γ := Γ) (op := .Eq) (es := .cons (bA q_2 l_1) (n_1 (.op .len (n_1 q_0)))) (st := nS rows X (sI r) (sI p) (sG c)) (u := .int (r + 1 : Nat)) (v := .int rows.length) (q := ((r + 1 : Nat) : Int) == rows.length) (ev_ci (i := (r + 1 : Nat)) rfl (ev_ci (i := rows.length) (ev_rlen h rfl) rfl)) rfl)
    cases hr2 : rows[r + 1]? with
    | none =>
     have hn : r + 1 = rows.length := Nat.le_antisymm (gsm hln).1 (List.getElem?_eq_none_iff.mp hr2)
     rw [show (((r + 1 : Nat) : Int) == rows.length) = true by rw [hn]; exact beq_self_eq_true _] at a1
     exact ⟨_, .no, run_of rfl ((ex_next b1).trans ((ex_next b2).trans ((ex_next b3).trans ((ex_skip b4).trans (ex_done ((ex_then e5).trans (ex_done ((ex_then (ev_or (x := true) (y := false) a1 fun q => nomatch q)).trans (ex_done (ret_val rfl))))))))))⟩
    | some l2 =>
     have hn : r + 1 < rows.length := (gsm hr2).1
     have hl2 := okLine_len (h.rows l2 (mog hr2))
     rw [show (((r + 1 : Nat) : Int) == rows.length) = false from bfi fun q => Nat.ne_of_lt hn (Int.ofNat_inj.mp (eq_of_beq q))] at a1
     have a2 := ev_or a1 fun _ => ev_cmp (op := .Gt) (es := .cons (bA (.op .len (n_1 (.op .idx (n_2 q_0 q_2)))) (.op .len (n_1 (.op .idx (n_2 q_0 (bA q_2 l_1)))))) (n_1 l_120)) (u := .int (ln.length + l2.length : Nat)) (v := .int 120) (q := decide ((120 : Int) < (ln.length + l2.length : Nat))) (ev_ci (i := (ln.length + l2.length : Nat)) ((ev_op (ev_ci (i := ln.length) (ev_slen hl (get_row h hln rfl rfl)) (ev_ci (i := l2.length) (ev_slen hl2 (get_row (r := r + 1) h hr2 rfl rfl)) rfl))).trans rfl) rfl) rfl
     by_cases h120 : 120 < ln.length + l2.length
     · rw [dtt (show (120 : Int) < (ln.length + l2.length : Nat) by lia)] at a2
       exact ⟨_, .no, run_of rfl ((ex_next b1).trans ((ex_next b2).trans ((ex_next b3).trans ((ex_skip b4).trans (ex_done ((ex_then e5).trans (ex_done ((ex_then a2).trans (ex_done (ret_val rfl))))))))))⟩
     · rw [dff (show ¬ (120 : Int) < (ln.length + l2.length : Nat) by lia)] at a2
       exact ⟨_, .cut r p ln hln (.inr ⟨hpe, l2, hr2, Nat.le_of_not_lt h120⟩), run_of rfl ((ex_next b1).trans ((ex_next b2).trans ((ex_next b3).trans ((ex_skip b4).trans ((ex_next ((ex_then e5).trans ((ex_skip a2).trans rfl))).trans (ex_done (ret_val rfl)))))))⟩
end
end Mine.Internal.L09
end
section
namespace Mine.Internal.L09
open Mine.Internal.S
section
variable {rows : LL}
theorem lay_rows : ∀ (rows : LL), (∀ l ∈ rows, okLine l = true) → PyData.canLayAll0 (sRows rows) = true ∧ PyData.depthAll (sRows rows) = 0
 | [], _ => ⟨rfl, rfl⟩
 | l :: rows, h => by
  obtain ⟨h1, h2⟩ := lay_rows rows fun k hk => h k (.tail _ hk)
  have h3 := lay_line (h l (.head _))
  refine ⟨?_, ?_⟩
  · show ((strD l).canLay0 && PyData.canLayAll0 (sRows rows)) = true
    rw [h3, h1]; rfl
  · show max (PyData.depth (strD l)) (PyData.depthAll (sRows rows)) = 0
    rw [h2]; rfl
theorem list_eq {ds : List PyData} {n : Nat} (h1 : PyData.canLayAll0 ds = true) (h2 : PyData.depthAll ds ≤ n) (hn : n ≤ 49) : eqF (.list ds) (.list ds) = some true := by
 refine eq_self rfl rfl ?_
 unfold shallow
 rw [show (PyData.list ds).canLay0 = PyData.canLayAll0 ds from rfl, h1, dtt (show (PyData.list ds).depth ≤ 50 from Nat.succ_le_succ (nlt h2 hn))]; rfl
theorem rows_eq (h : OkText rows) : eqF (.list (sRows rows)) (.list (sRows rows)) = some true := let ⟨h1, h2⟩ := lay_rows rows h.rows; list_eq (n := 0) h1 (Nat.le_of_eq h2) (Nat.zero_le _)
theorem lay_phi (k : Nat) : ∀ (Fd : List (List PyData)), (∀ x ∈ Fd, Six x) → PyData.canLayAll0 (Fd.filterMap (phi k)) = true ∧ PyData.depthAll (Fd.filterMap (phi k)) ≤ 1
 | [], _ => ⟨rfl, Nat.zero_le _⟩
 | x :: Fd, h => by
  obtain ⟨h1, h2⟩ := lay_phi k Fd fun y hy => h y (.tail _ hy)
  obtain ⟨a, r, p, q, e, s, rfl, hs⟩ := h x (.head _)
  rw [List.filterMap_cons]
  unfold phi at h1 h2 ⊢
  split
  · exact ⟨h1, h2⟩
  · rename_i b hb
    by_cases z : (((some (r : Int)) == some (k : Int)) && ((some (q : Int)) == some (k : Int))) = true
    · have hb : some (PyData.tuple [.str s, .int p, .int e]) = some b := by rw [← hb]; exact (if_pos z).symm
      cases hb
      refine ⟨?_, Nat.max_le.mpr ⟨Nat.le_refl 1, h2⟩⟩
      show ((PyData.str s).canLay0 && true && PyData.canLayAll0 _) = true
      rw [hs, h1]; rfl
    · exact absurd (hb.symm.trans (if_neg z)) (nofun)
theorem bR_eq (h : OkText rows) (k : Nat) : eqF (.list (bR rows k)) (.list (bR rows k)) = some true := let ⟨h1, h2⟩ := lay_phi k _ (six_all rows 0 ([], []) h.rows fun x hx => (nomatch hx)).1; list_eq h1 h2 (by decide)
theorem tr_len (h : OkText rows) : (trAll 0 rows ([], [])).1.length ≤ 100000 := nlt (six_all rows 0 ([], []) h.rows fun x hx => (nomatch hx)).2 (by rw [List.length_nil, Nat.zero_add]; exact big (rows_le h))
end
noncomputable abbrev G : Nat → Fn := Gam P 19
noncomputable abbrev wS (xs : List Int) (R : F) (C E Bf D Af K o1 o2 H I : Option F) (rows : LL) (cts : List Nat) (es : Es) (m : Int) (ps : List (Nat × Nat)) : St := ⟨[some (.val (lS xs)), some R, some (.pg 0), C, E, Bf, D, Af, K, o1, o2, H, I], [pP rows cts es m ps], 0⟩
section
variable {xs : List Int} {rows rows' : LL} {cts : List Nat} {es : Es} {m X : Int} {ps : List (Nat × Nat)} {C E Bf D Af K o1 o2 H I : Option F} {R : F} {d : PyData}
theorem getR (hR : R = rV rows ∨ R = .own (sRows rows)) {rw : LL} : ev G q_1 (wS xs R C E Bf D Af K o1 o2 H I rw cts es m ps) = .ok [rV rows] (wS xs (rV rows) C E Bf D Af K o1 o2 H I rw cts es m ps) := by rcases hR with rfl | rfl <;> rfl
theorem lB_ok (h : Pg rows cts es) (hz : es.length ≤ 9000) (hR : R = rV rows ∨ R = .own (sRows rows)) : ∃ rows' cts' es' m' ps' R', Pg rows' cts' es' ∧ es'.length ≤ es.length + 128 ∧ (R' = rV rows' ∨ R' = .own (sRows rows')) ∧ stepB G false [3] lB (.int X) (wS xs R C E Bf D Af K o1 o2 H I rows cts es m ps) = .ok .next (wS xs R' (sI X) E Bf D Af K o1 o2 H I rows' cts' es' m' ps') := by
 obtain ⟨d, hd, g⟩ := deed_ok (Γ := Gam P 18) (X := X) (sp31 17 td) h.ok
 have e0 : ev G (n_3 q_2 q_1 (.call true 39 (n_2 q_1 q_3))) (wS xs R (sI X) E Bf D Af K o1 o2 H I rows cts es m ps) = .ok [.pg 0, rV rows, .val d] (wS xs (rV rows) (sI X) E Bf D Af K o1 o2 H I rows cts es m ps) :=
  ev_cons (f := .pg 0) rfl (ev_cons (f := rV rows) (getR hR) (ev_cons (b := .nil) (f := .val d) (ev_fn (fs := [rV rows, .val (.int X)]) rfl rfl ((gam 18 rfl _ _).trans g)) rfl))
 by_cases hn : d = .none
 · subst hn
   exact ⟨rows, cts, es, m, ps, _, h, Nat.le_add_right .., .inl rfl, (step_of rfl).trans ((ex_next ((ex_assign (ev_fnP e0 rfl (done_no 18))).trans rfl)).trans rfl)⟩
 · obtain ⟨rows', cts', es', m', ps', _, h2, h3, h4⟩ := done_ok (m := m) (ps := ps) 5 h hz hd hn
   exact ⟨rows', cts', es', m', ps', _, h2, h3, .inr rfl, (step_of rfl).trans ((ex_next ((ex_assign (ev_fnP e0 rfl h4)).trans rfl)).trans rfl)⟩
theorem loop_ok : ∀ (ys : List Int) (rows : LL) (cts : List Nat) (es : Es) (m : Int) (ps : List (Nat × Nat)) (R : F) (C : Option F), Pg rows cts es → es.length + 128 * ys.length ≤ 8800 → (R = rV rows ∨ R = .own (sRows rows)) → ∃ rows' cts' es' m' ps' R' C', Pg rows' cts' es' ∧ es'.length ≤ 8800 ∧ (R' = rV rows' ∨ R' = .own (sRows rows')) ∧ forL (stepB G false [3] lB) (ys.map .int) (wS xs R C E Bf D Af K o1 o2 H I rows cts es m ps) = .ok .next (wS xs R' C' E Bf D Af K o1 o2 H I rows' cts' es' m' ps')
 | [], rows, cts, es, m, ps, R, C, h, hz, hR => ⟨rows, cts, es, m, ps, R, C, h, hz, hR, rfl⟩
 | y :: ys, rows, cts, es, m, ps, R, C, h, hz, hR => by
  have hz : es.length + 128 * (ys.length + 1) ≤ 8800 := hz
  obtain ⟨r1, c1, e1, m1, p1, R1, h1, hl, hR1, g1⟩ := lB_ok (X := y) (xs := xs) (C := C) (E := E) (Bf := Bf) (D := D) (Af := Af) (K := K) (o1 := o1) (o2 := o2) (H := H) (I := I) (m := m) (ps := ps) h (by lia) hR
  obtain ⟨r2, c2, e2, m2, p2, R2, C2, h2, hz2, hR2, g2⟩ := loop_ok ys r1 c1 e1 m1 p1 R1 (sI y) h1 (by lia) hR1
  exact ⟨r2, c2, e2, m2, p2, R2, C2, h2, hz2, hR2, (for_next g1).trans g2⟩
theorem slice_ok {st : St} (h : xs.length ≤ 63) (hv : slot st.v 0 = some (.val (lS xs))) : ∃ ys : List Int, ys.length ≤ 63 ∧ ev G (.op (.slc true true) (n_3 q_0 l_5 (bA l_5 (bM (.call true 30 (n_2 q_0 l_3)) l_7)))) st = .ok [.own (ys.map .int)] st := by
 obtain ⟨j, hj, ej⟩ := fmod_nat (xs.getD 3 0) (n := 7) (by decide)
 have e0 : ev G q_0 st = .ok [.val (lS xs)] st := ev_get hv
 have e1 : ev G (bM (.call true 30 (n_2 q_0 l_3)) l_7) st = .ok [.val (.int j)] st := by
  rw [← ej]
  exact (ev_op (ev_ci (i := (xs.getD 3 0)) (ev_fn (fs := [.val (lS xs), .val (.int (3 : Nat))]) (ev_cons (f := .val (lS xs)) e0 rfl) rfl (sp30 18 td xs h 3)) rfl)).trans (op_mod rfl)
 refine ⟨(xs.take (5 + j)).drop 5, by rw [List.length_drop, List.length_take]; lia, ?_⟩
 refine (ev_op (ev_cons (f := .val (lS xs)) e0 (ev_ci (i := 5) rfl (ev_ci (b := .nil) (i := (5 + j : Nat)) ((ev_op (ev_ci (i := 5) rfl (ev_ci (b := .nil) (i := j) e1 rfl))).trans rfl) rfl)))).trans ?_
 show oneO ((none : Option F).or ((none : Option F).or ((cutL (xs.map PyData.int) (some (.int 5)) (some (.int (5 + j : Nat)))).map F.own))) st = _
 unfold cutL lenL
 rw [okLen_of (by rw [lmp]; lia), show gd true (xs.map PyData.int).length = some (xs.map PyData.int).length from rfl, Option.bind_some, bnd_ok (show 5 + j ≤ 100000 by lia), List.map_drop, List.map_take]; rfl
theorem chain_in {st : St} {i n : Nat} {e c : CE} (hi : i < n) (he : ev G e st = .ok [.val (.int i)] st) (hc : ev G c st = .ok [.val (.int n)] st) : ev G (.not (.chain (n_2 l_0 e) .LtE .Lt c)) st = .ok [bV false] st :=
 ev_not (x := true) ((ev_chain (u := .int 0) (v := .int i) (w := .int n) (q1 := decide ((0 : Int) ≤ i)) (q2 := decide ((i : Int) < n)) (ev_ci (i := 0) rfl (ev_ci (b := .nil) (i := i) he rfl)) rfl hc rfl).trans (by rw [dtt (Int.natCast_nonneg i), dtt (Int.ofNat_lt.mpr hi)]; rfl))
theorem kept_loop (h : OkText rows) (h' : OkText rows') {ps' : List (Nat × Nat)} : ∀ (qs : List (Nat × Nat)) (o1 o2 : Option F), (∀ q ∈ qs, ∃ l, rows[q.1]? = some l ∧ rows'[q.2]? = some l) → ∃ o1' o2', forL (stepB G true [9, 10] kB) (encK qs) (wS xs (rV rows') C (some (rV rows)) Bf D Af K o1 o2 H I rows' cts es m ps') = .ok .next (wS xs (rV rows') C (some (rV rows)) Bf D Af K o1' o2' H I rows' cts es m ps')
 | [], o1, o2, _ => ⟨o1, o2, rfl⟩
 | (a, b) :: qs, o1, o2, hq => by
  obtain ⟨l, h1, h2⟩ := hq (a, b) (.head _)
  obtain ⟨o1', o2', ih⟩ := kept_loop h h' qs (sI a) (sI b) fun q hm => hq q (.tail _ hm)
  have e1 := ev_or (Γ := G) (x := false) (y := false) (chain_in (st := wS xs (rV rows') C (some (rV rows)) Bf D Af K (sI a) (sI b) H I rows' cts es m ps') (e := .get (.loc 9)) (c := .op .len (n_1 q_4)) (get_lt h1) rfl (ev_rlen h rfl)) fun _ => ev_or (x := false) (y := false) (chain_in (e := .get (.loc 10)) (c := .op .len (n_1 q_1)) (get_lt h2) rfl (ev_rlen h' rfl)) fun _ => (ev_cmp (op := .NotEq) (u := strD l) (v := strD l) (q := !(l == l)) (ev_cs (l := l) (get_row (a := .get (.loc 4)) (b := .get (.loc 9)) h h1 rfl rfl) (ev_cs (b := .nil) (l := l) (get_row (a := .get (.loc 1)) (b := .get (.loc 10)) h' h2 rfl rfl) rfl)) rfl).trans (by rw [beq_self_eq_true]; rfl)
  exact ⟨o1', o2', (for_next ((step_of rfl).trans ((ex_skip e1).trans rfl))).trans ih⟩
theorem bRs_at {k : Nat} (h : k < rows.length) : (bRs rows)[k]? = some (.list (bR rows k)) := by unfold bRs; rw [List.getElem?_map, List.getElem?_range h]; rfl
theorem bRs_len (h : OkText rows) : (bRs rows).length ≤ 200000 := by unfold bRs; rw [lmp, List.length_range]; exact big h.most
theorem comp_ok {ps' : List (Nat × Nat)} (h : OkText rows) (h' : OkText rows') (hf : faultR (rd rows) = .ok) (hf' : faultR (rd rows') = .ok) (hq : ∀ q ∈ ps', ∃ l, rows[q.1]? = some l ∧ rows'[q.2]? = some l) (hl : ps'.length ≤ 64) :
  ev G (.comp 13 0 q_8 q_13 cN) (wS xs R C E Bf D Af (some (.val (.list (encK ps')))) o1 o2 (some (.val (.list (bRs rows)))) (some (.val (.list (bRs rows')))) rows' cts es m ps') = .ok [.own []] (wS xs R C E Bf D Af (some (.val (.list (encK ps')))) o1 o2 (some (.val (.list (bRs rows)))) (some (.val (.list (bRs rows')))) rows' cts es m ps') := by
 let w : St := wS xs R C E Bf D Af (some (.val (.list (encK ps')))) o1 o2 (some (.val (.list (bRs rows)))) (some (.val (.list (bRs rows')))) rows' cts es m ps'
 refine (ev_compF (g := id) (pr := fun _ => false) (it_of (kd := 0) (fs := [.val (.list (encK ps'))]) (xs := encK ps') (st1 := w) rfl ?_) rfl (fun d hd => ?_) (fun d hd => ev_get (inV_last rfl)) (okK hl) rfl).trans ?_
 · show (((none : Option (List PyData)).or (gd (okLen (encK ps').length) (encK ps'))).or none) = _
   rw [okK hl]; rfl
 · obtain ⟨⟨a, b⟩, hm, rfl⟩ := List.mem_map.mp hd
   obtain ⟨l, h1, h2⟩ := hq _ hm
   let z : St := ⟨inV w.v (.tuple [.int a, .int b]), [pP rows' cts es m ps'], 0⟩
   have e13 : ∀ i : Nat, ∀ d : PyData, [PyData.int a, .int b][i]? = some d → i < 2 → ev G (.op .idx (n_2 q_13 (.lit (.int i)))) z = .ok [.val d] z := fun i d hd hi => by
    refine (ev_op (ev_cons (f := .val (.tuple [.int a, .int b])) (ev_get (inV_last rfl)) rfl)).trans ?_
    match i, hi with
    | 0, _ => cases hd; rfl
    | 1, _ => cases hd; rfl
   have u := bR_is hf h1
   have v := bR_is hf' h2
   exact (ev_cmp (op := .NotEq) (u := .list (bR rows a)) (v := .list (bR rows' b)) (q := false) (ev_cons (f := .val (.list (bR rows a))) ((ev_op (ev_cons (f := .val (.list (bRs rows))) (ev_get (inV_at rfl)) (ev_ci (b := .nil) (i := a) (e13 0 _ rfl (by decide)) rfl))).trans (lop_idx (bRs_len h) (bRs_at (get_lt h1)))) (ev_cons (b := .nil) (f := .val (.list (bR rows' b))) ((ev_op (ev_cons (f := .val (.list (bRs rows'))) (ev_get (inV_at rfl)) (ev_ci (b := .nil) (i := b) (e13 1 _ rfl (by decide)) rfl))).trans (lop_idx (bRs_len h') (bRs_at (get_lt h2)))) rfl)) (by
    show (eqF _ _).map _ = _
    rw [show bR rows' b = bR rows a from v.trans u.symm, bR_eq h a]; rfl))
 · rw [List.filter_eq_nil_iff.mpr fun d _ => Bool.false_ne_true]; rfl
end
end Mine.Internal.L09
end
section
namespace Mine.Internal.L09
open Mine.Internal.S
section
variable {xs : List Int} {rows rows' : LL} {cts : List Nat} {es : Es} {m X : Int} {ps : List (Nat × Nat)} {C E Bf D Af K o1 o2 H I : Option F} {R : F} {d : PyData} {a b : CE} {st st1 : St}
noncomputable abbrev tru (r : Mine.Internal.R Fl) : Prop := ∃ v p x, r = .ok (.ret (.val (.bool true))) ⟨v, p, x⟩
theorem ev_orR {r : Mine.Internal.R (List F)} (h : ev G a st = .ok [bV false] st1) (h2 : ev G b st1 = r) : ev G (.or a b) st = r := by
 show (toB (ev G a st)).bind _ = _
 rw [h]; exact h2
theorem ev_orT (h : ev G a st = .ok [bV true] st1) : ev G (.or a b) st = .ok [bV true] st1 := by
 show (toB (ev G a st)).bind _ = _
 rw [h]; rfl
theorem len_l {st : St} {i : Nat} {f : F} {ds : List PyData} (hf : ev G (.get (.loc i)) st = .ok [.val (.list ds)] st1) (hz : ds.length ≤ 64) : ev G (.op .len (n_1 (.get (.loc i)))) st = .ok [.val (.int ds.length)] st1 := (ev_op (ev_cons (b := .nil) (f := .val (.list ds)) hf rfl)).trans (lop_len (big hz))
theorem asg_tr {i : Nat} : asgE (.loc i) [trO rows] st = nextO (setP st (some (trO rows)) (.loc i)) := by unfold trO; cases okT rows <;> rfl
theorem tl3_ok {ps' : List (Nat × Nat)} (h : OkText rows) (h' : OkText rows') (hq : ∀ q ∈ ps', ∃ l, rows[q.1]? = some l ∧ rows'[q.2]? = some l) (hl : ps'.length ≤ 64) : tru (ex G tl3 (wS xs (rV rows') C (some (rV rows)) (some (trO rows)) D (some (trO rows')) (some (.val (.list (encK ps')))) o1 o2 H I rows' cts es m ps')) := by
 let u : Option F → Option F → Option F → Option F → St := fun b a h i => wS xs (rV rows') C (some (rV rows)) b D a (some (.val (.list (encK ps')))) o1 o2 h i rows' cts es m ps'
 let x : Option F := some (.val (.list (treeD rows)))
 let x' : Option F := some (.val (.list (treeD rows')))
 let z : Option F := some (.val (.list (bRs rows)))
 let z' : Option F := some (.val (.list (bRs rows')))
 unfold trO
 cases ht : okT rows with
 | false =>
  exact ⟨_, _, _, ex_done ((ex_then (ev_orT (ev_cmp (Γ := G) (op := .Is) (es := .cons q_5 (n_1 (.lit .none))) (u := .none) (v := .none) (q := true) rfl rfl))).trans (ex_done (ret_val rfl)))⟩
 | true =>
  have c1 := ev_cmp (Γ := G) (op := .Is) (es := .cons q_5 (n_1 (.lit .none))) (st := u (some (.own (treeD rows))) (some (trO rows')) H I) (st1 := u x (some (trO rows')) H I) (u := .list (treeD rows)) (v := .none) (q := false) rfl rfl
  unfold trO at c1
  cases ht' : okT rows' with
  | false =>
   rw [ht'] at c1
   exact ⟨_, _, _, ex_done ((ex_then (ev_orR c1 (ev_cmp (Γ := G) (op := .Is) (es := .cons q_7 (n_1 (.lit .none))) (u := .none) (v := .none) (q := true) rfl rfl))).trans (ex_done (ret_val rfl)))⟩
  | true =>
   rw [ht'] at c1
   have hf := (fa_none _).mp ht
   have hf' := (fa_none _).mp ht'
   have c2 := ev_orR c1 (ev_cmp (Γ := G) (op := .Is) (es := .cons q_7 (n_1 (.lit .none))) (st1 := u x x' H I) (u := .list (treeD rows')) (v := .none) (q := false) rfl rfl)
   have e1 : ex G (.assign (.loc 11) (.call true 41 (n_2 q_5 (.op .len (n_1 q_4))))) (u x x' H I) = .ok .next (u x x' z I) :=
    (ex_assign (ev_fn (fs := [.val (.list (treeD rows)), .val (.int rows.length)]) (ev_cons (f := .val (.list (treeD rows))) rfl (ev_ci (b := .nil) (i := rows.length) (ev_rlen h rfl) rfl)) rfl ((gam 18 rfl _ _).trans (by_rows_ok h hf (tr_len h))))).trans rfl
   have e2 : ex G (.assign (.loc 12) (.call true 41 (n_2 q_7 (.op .len (n_1 q_1))))) (u x x' z I) = .ok .next (u x x' z z') :=
    (ex_assign (ev_fn (fs := [.val (.list (treeD rows')), .val (.int rows'.length)]) (ev_cons (f := .val (.list (treeD rows'))) rfl (ev_ci (b := .nil) (i := rows'.length) (ev_rlen h' rfl) rfl)) rfl ((gam 18 rfl _ _).trans (by_rows_ok h' hf' (tr_len h'))))).trans rfl
   exact ⟨_, _, _, (ex_skip c2).trans ((ex_next e1).trans ((ex_next e2).trans (ex_done (ret_val (ev_cmp (op := .Eq) (u := .list []) (v := .list []) (q := true) (ev_cons (f := .own []) (comp_ok h h' hf hf' hq hl) rfl) rfl)))))⟩
theorem tl2_ok (h : Pg rows cts es) (hz : es.length ≤ 9000) (hd : Deed rows d) (hn : d ≠ .none) : tru (ex G tl2 (wS xs (rV rows) C (some (.own (sRows rows))) (some (trO rows)) (some (.val d)) none none none none none none rows cts es m ps)) := by
 obtain ⟨rows', cts', es', m', ps', hdn, h', _, h4⟩ := done_ok (m := m) (ps := ps) 5 h hz hd hn
 obtain ⟨l1, l2⟩ := hdn.len
 have hps : ps'.length ≤ 64 := nlt l1 h.ok.most
 let o : F := .own (sRows rows)
 let o' : F := .own (sRows rows')
 let t' : Option F := some (trO rows')
 let k' : Option F := some (.own (encK ps'))
 let y' : Option F := some (.val (.list (encK ps')))
 let t0 : Option F := some (trO rows)
 let w : Option F := some (.val d)
 let u : F → F → Option F → Option F → St := fun R E A K => wS xs R C (some E) t0 w A K none none none none rows' cts' es' m' ps'
 have e1 : ex G (.assign (.loc 1) (.call false 43 (n_3 q_2 q_1 q_6))) (wS xs (rV rows) C (some o) t0 w none none none none none none rows cts es m ps) = .ok .next (u o' o none none) := (ex_assign (ev_fnP (fs := [.pg 0, rV rows, .val d]) rfl rfl h4)).trans rfl
 have e2 : ex G (.assign (.loc 7) (.call false 40 (n_1 q_2))) (u o' o none none) = .ok .next (u o' o t' none) := (ex_assign (ev_fnP (fs := [.pg 0]) rfl rfl (tree_or 15 h'))).trans (asg_tr.trans rfl)
 have e3 : ex G (.assign (.loc 8) (.meth 27 q_2 .nil)) (u o' o t' none) = .ok .next (u o' o t' k') := (ex_assign (ev_meth (k := 27) (r := .get (.loc 2)) (es := .nil) (st1 := u o' o t' none) (n := 0) (ys := []) rfl rfl rfl (kept_at 18 hps))).trans rfl
 have c1 := ev_cmp (Γ := G) (op := .NotEq) (es := .cons (.meth 22 q_2 .nil) (n_1 q_1)) (st := u o' o t' k') (st1 := u (rV rows') o t' k') (u := .list (sRows rows')) (v := .list (sRows rows')) (q := false) (ev_cons (f := .own (sRows rows')) (ev_meth (k := 22) (r := .get (.loc 2)) (es := .nil) (st1 := u o' o t' k') (n := 0) (ys := []) rfl rfl rfl ((gam 18 kd.l22 _ _).trans (text_m_ok h'.ok))) rfl) (by
  show (eqF _ _).map _ = _
  rw [rows_eq h'.ok]; rfl)
 have hk : (encK ps').length = ps'.length := lmp ..
 have c2 := ev_cmp (Γ := G) (op := .Lt) (es := .cons (.op .len (n_1 q_8)) (n_1 (bS_ (.op .len (n_1 q_4)) l_2))) (st := u (rV rows') o t' k') (st1 := u (rV rows') (rV rows) t' y') (u := .int (encK ps').length) (v := .int ((sRows rows).length - 2)) (q := decide (((encK ps').length : Int) < (sRows rows).length - 2)) (ev_ci (i := (encK ps').length) (len_l (f := .own (encK ps')) (st1 := u (rV rows') o t' y') rfl (by rw [hk]; exact hps)) (ev_ci (b := .nil) (i := ((sRows rows).length - 2)) ((ev_op (ev_ci (i := (sRows rows).length) (len_l (f := .own (sRows rows)) (st1 := u (rV rows') (rV rows) t' y') rfl (by rw [sRows_len]; exact h.ok.most)) rfl)).trans rfl) rfl)) rfl
 rw [dff (show ¬ ((encK ps').length : Int) < (sRows rows).length - 2 by rw [hk, sRows_len]; lia)] at c2
 obtain ⟨o1', o2', g⟩ := kept_loop (xs := xs) (C := C) (Bf := some (trO rows)) (D := some (.val d)) (Af := some (trO rows')) (K := some (.val (.list (encK ps')))) (H := none) (I := none) (cts := cts') (es := es') (m := m') (ps' := ps') h.ok h'.ok ps' none none hdn.same
 have e5 := (ex_loop (Γ := G) (many := true) (is := [9, 10]) (body := kB) (it_of (kd := 0) (e := .get (.loc 8)) (st := u (rV rows') (rV rows) t' y') (st1 := u (rV rows') (rV rows) t' y') (fs := [.val (.list (encK ps'))]) (xs := encK ps') rfl (by
  show (((none : Option (List PyData)).or (gd (okLen (encK ps').length) (encK ps'))).or none) = _
  rw [okK hps]; rfl))).trans g
 obtain ⟨v, p, x, h6⟩ := tl3_ok (xs := xs) (C := C) (D := some (.val d)) (o1 := o1') (o2 := o2') (H := none) (I := none) (cts := cts') (es := es') (m := m') h.ok h'.ok hdn.same hps
 exact ⟨v, p, x, (ex_next e1).trans ((ex_next e2).trans ((ex_next e3).trans ((ex_skip (ev_orR c1 c2)).trans ((ex_next e5).trans h6))))⟩
theorem tl_ok (hx : xs.length ≤ 63) (h : Pg rows cts es) (hz : es.length ≤ 9000) (hR : R = rV rows ∨ R = .own (sRows rows)) : tru (ex G tl (wS xs R C none none none none none none none none none rows cts es m ps)) := by
 obtain ⟨d, hd, g⟩ := last_ok (Γ := Gam P 18) (X := xs.getD 4 0) h.ok
 have e1 : ex G (.assign (.loc 4) (.meth 22 q_2 .nil)) (wS xs R C none none none none none none none none none rows cts es m ps) = .ok .next (wS xs R C (some (.own (sRows rows))) none none none none none none none none rows cts es m ps) := (ex_assign (ev_meth (k := 22) (r := .get (.loc 2)) (es := .nil) (st1 := wS xs R C none none none none none none none none none rows cts es m ps) (n := 0) (ys := []) rfl rfl rfl ((gam 18 kd.l22 _ _).trans (text_m_ok h.ok)))).trans rfl
 have e2 : ex G (.assign (.loc 5) (.call false 40 (n_1 q_2))) (wS xs R C (some (.own (sRows rows))) none none none none none none none none rows cts es m ps) = .ok .next (wS xs R C (some (.own (sRows rows))) (some (trO rows)) none none none none none none none rows cts es m ps) := (ex_assign (ev_fnP (fs := [.pg 0]) rfl rfl (tree_or 15 h))).trans (asg_tr.trans rfl)
 have e3 : ex G (.assign (.loc 6) (.call true 42 (n_2 q_1 (.call true 30 (n_2 q_0 l_4))))) (wS xs R C (some (.own (sRows rows))) (some (trO rows)) none none none none none none none rows cts es m ps) = .ok .next (wS xs (rV rows) C (some (.own (sRows rows))) (some (trO rows)) (some (.val d)) none none none none none none rows cts es m ps) :=
  (ex_assign (ev_fn (fs := [rV rows, .val (.int (xs.getD 4 0))]) (ev_cons (f := rV rows) (getR hR) (ev_ci (b := .nil) (i := (xs.getD 4 0)) (ev_fn (fs := [.val (lS xs), .val (.int (4 : Nat))]) rfl rfl (sp30 18 td xs hx 4)) rfl)) rfl ((gam 18 rfl _ _).trans g))).trans rfl
 by_cases hn : d = .none
 · subst hn
   exact ⟨_, _, _, (ex_next e1).trans ((ex_next e2).trans ((ex_next e3).trans (ex_done ((ex_then rfl).trans (ex_done (ret_val rfl))))))⟩
 · have c1 := ev_cmp (Γ := G) (op := .Is) (es := .cons q_6 (n_1 (.lit .none))) (st := wS xs (rV rows) C (some (.own (sRows rows))) (some (trO rows)) (some (.val d)) none none none none none none rows cts es m ps) (st1 := wS xs (rV rows) C (some (.own (sRows rows))) (some (trO rows)) (some (.val d)) none none none none none none rows cts es m ps) (u := d) (v := .none) (q := false) rfl (by cases hd with
    | no => exact absurd rfl hn
    | put => rfl
    | cut => rfl)
   obtain ⟨v, p, x, h6⟩ := tl2_ok (xs := xs) (C := C) (m := m) (ps := ps) h hz hd hn
   exact ⟨v, p, x, (ex_next e1).trans ((ex_next e2).trans ((ex_next e3).trans ((ex_skip c1).trans h6)))⟩
theorem plain (hx : xs.length ≤ 63) : ∃ p, Gam P 20 44 [] [.val (lS xs)] = .ret (.val (.bool true)) p := by
 obtain ⟨rows, ⟨h, _, _⟩, g1⟩ := sp33 16 td xs hx
 obtain ⟨es, hl, hp, g2⟩ := init_ok (Γ := Gam P 18) (sp3 15 kd.toKd') (sp5 16 kd.toKd') (sp15 7 kd) h
 have e1 : ex G (.assign (.loc 1) (.call true 33 (n_1 q_0))) ⟨[some (.val (lS xs)), none, none, none, none, none, none, none, none, none, none, none, none], [], 0⟩ = .ok .next ⟨[some (.val (lS xs)), some (rV rows), none, none, none, none, none, none, none, none, none, none, none], [], 0⟩ := (ex_assign (ev_fn (fs := [.val (lS xs)]) rfl rfl g1)).trans rfl
 have n2 : ev G (n_1 (.op .list (n_1 q_1))) ⟨[some (.val (lS xs)), some (rV rows), none, none, none, none, none, none, none, none, none, none, none], [], 0⟩ = .ok [rV rows] ⟨[some (.val (lS xs)), some (rV rows), none, none, none, none, none, none, none, none, none, none, none], [], 0⟩ := ev_cons (f := .own (sRows rows)) ((ev_op (ev_cons (b := .nil) (f := rV rows) rfl rfl)).trans (by
  show oneO (gd (okLen (sRows rows).length) (F.own (sRows rows))) _ = _
  rw [okLen_of (by rw [sRows_len]; exact big h.most)]; rfl)) rfl
 have e2 : ex G (.assign (.loc 2) (.new (n_1 (.op .list (n_1 q_1))))) ⟨[some (.val (lS xs)), some (rV rows), none, none, none, none, none, none, none, none, none, none, none], [], 0⟩ = .ok .next (wS xs (rV rows) none none none none none none none none none none rows (rows.map fun _ => 1) es (cnt none 6 0 rows.length : Nat) []) := by
  refine (ex_assign (fs := [.pg 0]) (st1 := ⟨[some (.val (lS xs)), some (rV rows), none, none, none, none, none, none, none, none, none, none, none], [pP rows (rows.map fun _ => 1) es (cnt none 6 0 rows.length : Nat) []], 0⟩) ((ev_new n2).trans ?_)).trans rfl
  show (match G 0 [List.replicate 6 none] [.pg 0, rV rows] with | .ret (.val .none) p => _ | .exc k p => _ | _ => _) = _
  rw [show G 0 [List.replicate 6 none] [.pg 0, rV rows] = _ from (gam 18 kd.l0 _ _).trans g2]
  rfl
 obtain ⟨ys, hys, g3⟩ := slice_ok (st := wS xs (rV rows) none none none none none none none none none none rows (rows.map fun _ => 1) es (cnt none 6 0 rows.length : Nat) []) hx rfl
 obtain ⟨r', c', es', m', p', R', C', hp', hz', hR', g5⟩ := loop_ok (xs := xs) (E := none) (Bf := none) (D := none) (Af := none) (K := none) (o1 := none) (o2 := none) (H := none) (I := none) ys rows _ es (cnt none 6 0 rows.length : Nat) [] (rV rows) none hp (by lia) (.inl rfl)
 have e5 := (ex_loop (many := false) (is := [3]) (body := lB) (it_of (kd := 0) (st1 := wS xs (rV rows) none none none none none none none none none none rows (rows.map fun _ => 1) es (cnt none 6 0 rows.length : Nat) []) (fs := [.own (ys.map .int)]) (xs := ys.map .int) g3 (by
  show gd (okLen (ys.map PyData.int).length) _ = _
  rw [okLen_of (by rw [lmp]; exact big hys)]; rfl))).trans g5
 obtain ⟨v, p, x, h6⟩ := tl_ok (xs := xs) (C := C') (m := m') (ps := p') hx hp' (nlt hz' (by decide)) hR'
 exact ⟨_, (gam 19 rfl _ _).trans (run_of rfl ((ex_next e1).trans ((ex_next e2).trans ((ex_next e5).trans h6))))⟩
end
end Mine.Internal.L09
end
section
open PySem.W
namespace Mine.Internal.L09
open Mine.Internal.S
noncomputable def xAs : List Addr := [44, 56, 68, 80, 92, 31]
noncomputable def meths : List (FnDef × Addr) := [(m_init, 175), (m_join_all, 182), (m_join_over, 189), (m_need_place, 196), (m_change_row, 201), (m_change_rows, 206), (m_put, 213), (m_cut, 220), (m_text, 227), (m_fault, 234), (m_tree, 241), (m_kept, 262)]
end Mine.Internal.L09
end
section
open PySem.W
namespace Mine.Internal.L09
theorem mem_lookupN {α : Type} : ∀ {l : List (Nat × α)} {n : Nat} {c : α}, l.lookup n = some c → (n, c) ∈ l
 | (k, v) :: r, n, c, h => by
  rw [List.lookup_cons] at h
  cases hb : n == k with
  | true => rw [hb] at h; cases h; rw [beq_iff_eq.mp hb]; exact List.mem_cons_self
  | false => rw [hb] at h; exact List.mem_cons_of_mem _ (mem_lookupN h)
noncomputable def defOk (Q : Params) (d : FnDef) : Bool := if d.kind < 2 then (recsOf view).any fun r => chk P d r else meths.any fun m => m.1.name == d.name && methChk (heapK Q) 265 P d m.2
set_option maxRecDepth 100000 in
theorem defs_ok (Q : Params) : (P.all fun d => defOk Q d.2) = true := by kernel_rfl
set_option maxRecDepth 100000 in
theorem pg_ok (Q : Params) : pgChk (heapK Q) 265 = true := by kernel_rfl
set_option maxRecDepth 100000 in
theorem xc1_ok (Q : Params) : ((List.range 5).all fun k => xcChk1 (heapK Q) xAs k) = true := by kernel_rfl
set_option maxRecDepth 100000 in
theorem xc2_ok (Q : Params) : ((List.range 6).all fun k => xcChk2 (heapK Q) xAs k) = true := by kernel_rfl
theorem spec_ok : ∀ k, k < 5 → specOf view (xcN k) = some ("ValueError.__new__", [.type "ValueError", .type "Exception", .type "BaseException", .type "object"]) := fun k hk => by
 match k, hk with
 | 0, _ => kernel_rfl
 | 1, _ => kernel_rfl
 | 2, _ => kernel_rfl
 | 3, _ => kernel_rfl
 | 4, _ => kernel_rfl
theorem text_ok {w : World} {s : Shared} {mean : ExcName → Option Value} {mg mb : Str → Option Value} (T : Top view ["OPENING"] mean mg mb s.heap) (X : (heapK w.params).In s.heap) : Text (tpOf pr w s mg mb (heapK w.params) 265 xAs) P := by
 have TO : (tpOf pr w s mg mb (heapK w.params) 265 xAs).Ok := top_ok T (by decide +kernel) (by kernel_rfl) (by kernel_rfl) (by kernel_rfl) (let ⟨o, h⟩ : ∃ o, (heapK w.params).lookup 1 = some o := ⟨_, rfl⟩; ⟨o, X 1 o h⟩)
  (opn_of X T.g (a := 95) (n := 3) (h1 := PyData.keyHash w.params ")") (h2 := PyData.keyHash w.params "]") (h3 := PyData.keyHash w.params "}") (k1 := ")") (k2 := "]") (k3 := "}") (v1 := "(") (v2 := "[") (v3 := "{")
   (t1 := 296) (u1 := 297) (t2 := 298) (u2 := 299) (t3 := 300) (u3 := 301) (by kernel_rfl) (by kernel_rfl) ⟨⟨_, _, rfl, rfl⟩, ⟨_, _, rfl, rfl⟩, ⟨_, _, rfl, rfl⟩, trivial⟩
   (by decide +kernel) (by decide +kernel) (by decide +kernel) (by decide +kernel) (by decide +kernel) (by decide +kernel) (by decide))
 refine ⟨TO, pg_of X T.g (pg_ok _), xco_of X T.g (xc1_ok _) (xc2_ok _) T spec_ok, xl_of' X T.g (xc1_ok _) (xc2_ok _), xlk_of X T.g (xc1_ok _) (xc2_ok _), fun k d hk => ?_⟩
 have := List.all_eq_true.mp (defs_ok w.params) _ (mem_lookupN hk)
 unfold defOk at this
 by_cases q : d.kind < 2
 · rw [if_pos q] at this
   obtain ⟨r, h1, h2⟩ := List.any_eq_true.mp this
   exact here_top T h1 q h2
 · rw [if_neg q] at this
   obtain ⟨m, h1, h2⟩ := List.any_eq_true.mp this
   exact here_meth X (and2 h2).2
set_option maxRecDepth 100000 in
theorem ws : PySem.Challenge.rw_uf050009_09.wellSaid = true := by kernel_rfl
set_option maxRecDepth 100000 in
set_option maxHeartbeats 8000000 in
theorem cw : PySem.Challenge.rw_uf050009_09.Holds := by
 w_on
 refine holds_law ws fun said => ?_
 refine holds_open (q := view) (loose := ["OPENING"]) (Xt := Xt) (XP := XL view []) (Yf := Hook.obs hook) (Ya := Hook.val hook) (YP := Hook.says hook) (N := 5570) (byRows sideF sideT) (Hook.of hook) (Hook.keeps hook) (fun s e => xl_of s (Bool.and_eq_true_iff.mp e).1) XL.keeps (by rfl) (by rfl) (by rfl) (fun s e => recFacts_of (Bool.and_eq_true_iff.mp e).2) (by rfl) (by first | assumption | decide +kernel) (by decide +kernel) ⟨rfl, rfl, rfl, rfl, rfl, by decide +kernel⟩ ?hw ?hc
 case hw => w_witness2
 intro w s₀ s₁ mg mb G Y fa o pm cd doc dV kV ho hd hcd hD hmg hg args vals as hpre hlay hrd hwl hlo
 have KX := kIn_of Y
 refine Ground.open G ?_
 intro T B D TE TW
 wrow_args hpre hlay hrd hwl hlo
 rename_i xs hs hlay0 hL1 hr1 hl2 w4 w3 la vs w0 hL ra w1 r0 hI hr hc1 hc2
 obtain ⟨p', hp⟩ := plain (xs := xs) (by lia)
 refine run_law (T := tpOf pr w s₁ mg mb (heapK w.params) 265 xAs) (P := P) (k := 44) (d := d_law) (N := 20) (ds := [.list (xs.map .int)]) (text_ok T KX) rfl rfl hmg ⟨rfl, by decide, by decide⟩ rfl ?_ hp fun h' tk hk' => ?_
 · obtain ⟨o', h1, h2, n', h3⟩ := hL
   exact .cons (.list ⟨o', h1, h2, n', h3⟩ (topT_at h1) (rep_ints hI)) .nil
 · exact GoodW.toG ⟨.inl ⟨.bool true, _, [], rfl, fun _ => rfl, .bool .., by kernel_rfl, fun _ => ⟨.nil, fun a ha => nomatch ha⟩⟩, hk', rfl, hg⟩
end Mine.Internal.L09
end
theorem PySem.Challenge.cw_uf050009_09_holds : PySem.Challenge.rw_uf050009_09.Holds :=
 Mine.Internal.L09.cw
