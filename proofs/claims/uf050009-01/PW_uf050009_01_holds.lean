import PyProof.Rows.All
import Wide.All
import OpenK.KWalk
import OpenK.KTop
import Wide.FinOn
import PyProof.StrLawsIn
import PyProof.P3Eq
import PySem.Challenge.RW_uf050009_01

set_option Elab.async false
set_option genSizeOf false

section
open PySem PySem.Calls PyProof.Rows
set_option Elab.async false
namespace Mine

noncomputable abbrev GM := Addr → Option Obj
noncomputable def GM.le (G G' : GM) : Prop := ∀ b o, G b = some o → G' b = some o
noncomputable def GM.In (G : GM) (h : Heap) : Prop := ∀ b o, G b = some o → h.get? b = some o
noncomputable def GM.put (G : GM) (a : Addr) (o : Obj) : GM := fun b => if b = a then some o else G b

theorem GM.le_refl (G : GM) : G.le G := fun _ _ e => e
theorem GM.le_trans {G H K : GM} (a : G.le H) (b : H.le K) : G.le K := fun x o e => b x o (a x o e)
theorem GM.le_put {G : GM} {a : Addr} {o : Obj} (h : G a = none) : G.le (G.put a o) := fun b o' e => by
  unfold GM.put; split
  · rename_i q; subst q; rw [h] at e; cases e
  · exact e
theorem GM.put_self (G : GM) (a : Addr) (o : Obj) : G.put a o a = some o := by simp [GM.put]
theorem GM.put_ne {G : GM} {a b : Addr} {o : Obj} (h : b ≠ a) : G.put a o b = G b := by simp [GM.put, h]
theorem GM.In.put {G : GM} {h : Heap} {a : Addr} {o : Obj} (i : G.In h) (e : h.get? a = some o) : (G.put a o).In h := fun b o' q => by
  unfold GM.put at q; split at q
  · rename_i q'; subst q'; cases q; exact e
  · exact i b o' q

mutual
inductive Rep (G : GM) : Value → PyData → Prop
  | none : Rep G .none .none
  | bool (b : Bool) : Rep G (.bool b) (.bool b)
  | int (i : Int) (t : Tok) : Rep G (.int i t) (.int i)
  | str (x : Str) (t : Tok) : Rep G (.str x t) (.str x)
  | list {a : Addr} {o : Obj} {vs : Array Value} {n : Nat} {xs : List PyData} : G a = some o → o.cls = .type "list" → o.data = .seq vs n → RepAll G vs.toList xs → Rep G (.ref a) (.list xs)
  | tuple {a : Addr} {o : Obj} {vs : Array Value} {n : Nat} {xs : List PyData} : G a = some o → o.cls = .type "tuple" → o.data = .seq vs n → RepAll G vs.toList xs → Rep G (.ref a) (.tuple xs)
inductive RepAll (G : GM) : List Value → List PyData → Prop
  | nil : RepAll G [] []
  | cons {v : Value} {vs : List Value} {d : PyData} {ds : List PyData} : Rep G v d → RepAll G vs ds → RepAll G (v :: vs) (d :: ds)
end

mutual
theorem Rep.mono {G G' : GM} (l : G.le G') : ∀ {v : Value} {d : PyData}, Rep G v d → Rep G' v d
  | _, _, .none => .none
  | _, _, .bool b => .bool b
  | _, _, .int i t => .int i t
  | _, _, .str x t => .str x t
  | _, _, .list e c d r => .list (l _ _ e) c d (RepAll.mono l r)
  | _, _, .tuple e c d r => .tuple (l _ _ e) c d (RepAll.mono l r)
theorem RepAll.mono {G G' : GM} (l : G.le G') : ∀ {vs : List Value} {ds : List PyData}, RepAll G vs ds → RepAll G' vs ds
  | _, _, .nil => .nil
  | _, _, .cons h r => .cons (Rep.mono l h) (RepAll.mono l r)
end

mutual
theorem Rep.reads {G : GM} {h : Heap} (i : G.In h) : ∀ {v : Value} {d : PyData}, Rep G v d → ∃ as, Reads h v d as
  | _, _, .none => ⟨_, .none⟩
  | _, _, .bool b => ⟨_, .bool b⟩
  | _, _, .int i t => ⟨_, .int i t⟩
  | _, _, .str x t => ⟨_, .str x t⟩
  | _, _, .list e c d r => let ⟨_, q⟩ := RepAll.reads i r; ⟨_, .list (i _ _ e) c d q⟩
  | _, _, .tuple e c d r => let ⟨_, q⟩ := RepAll.reads i r; ⟨_, .tuple (i _ _ e) c d q⟩
theorem RepAll.reads {G : GM} {h : Heap} (i : G.In h) : ∀ {vs : List Value} {ds : List PyData}, RepAll G vs ds → ∃ as, ReadsAll h vs ds as
  | _, _, .nil => ⟨_, .nil⟩
  | _, _, .cons h r => let ⟨_, q⟩ := Rep.reads i h; let ⟨_, q'⟩ := RepAll.reads i r; ⟨_, .cons q q'⟩
end

theorem RepAll.length {G : GM} : ∀ {vs : List Value} {ds : List PyData}, RepAll G vs ds → vs.length = ds.length
  | _, _, .nil => rfl
  | _, _, .cons _ r => by rw [List.length_cons, List.length_cons, RepAll.length r]
theorem RepAll.append {G : GM} {ws : List Value} {es : List PyData} (k : RepAll G ws es) : ∀ {vs : List Value} {ds : List PyData}, RepAll G vs ds → RepAll G (vs ++ ws) (ds ++ es)
  | _, _, .nil => k
  | _, _, .cons h r => .cons h (RepAll.append k r)
theorem RepAll.get {G : GM} : ∀ {vs : List Value} {ds : List PyData}, RepAll G vs ds → ∀ (k : Nat) (d : PyData), ds[k]? = some d → ∃ v, vs[k]? = some v ∧ Rep G v d
  | _, _, .nil, k, d, e => by simp at e
  | _, _, .cons h r, 0, d, e => by simp at e; subst e; exact ⟨_, rfl, h⟩
  | _, _, .cons h r, k + 1, d, e => by simpa using RepAll.get r k d (by simpa using e)
theorem RepAll.get' {G : GM} : ∀ {vs : List Value} {ds : List PyData}, RepAll G vs ds → ∀ (k : Nat) (v : Value), vs[k]? = some v → ∃ d, ds[k]? = some d ∧ Rep G v d
  | _, _, .nil, k, d, e => by simp at e
  | _, _, .cons h r, 0, d, e => by simp at e; subst e; exact ⟨_, rfl, h⟩
  | _, _, .cons h r, k + 1, d, e => by simpa using RepAll.get' r k d (by simpa using e)
theorem RepAll.set {G : GM} {v : Value} {d : PyData} (hv : Rep G v d) : ∀ {vs : List Value} {ds : List PyData}, RepAll G vs ds → ∀ k : Nat, RepAll G (vs.set k v) (ds.set k d)
  | _, _, .nil, _ => .nil
  | _, _, .cons _ r, 0 => .cons hv r
  | _, _, .cons h r, k + 1 => .cons h (RepAll.set hv r k)
theorem RepAll.take {G : GM} : ∀ {vs : List Value} {ds : List PyData}, RepAll G vs ds → ∀ k : Nat, RepAll G (vs.take k) (ds.take k)
  | _, _, _, 0 => by simpa using RepAll.nil
  | _, _, .nil, _ + 1 => .nil
  | _, _, .cons h r, k + 1 => .cons h (RepAll.take r k)
theorem RepAll.drop {G : GM} : ∀ {vs : List Value} {ds : List PyData}, RepAll G vs ds → ∀ k : Nat, RepAll G (vs.drop k) (ds.drop k)
  | _, _, h, 0 => h
  | _, _, .nil, _ + 1 => .nil
  | _, _, .cons _ r, k + 1 => RepAll.drop r k

end Mine
end

section
open PySem PySem.Calls PyProof.Rows
set_option Elab.async false
namespace Mine

/-! the plain data and the evaluator of the small language -/

noncomputable def S (l : List Nat) : Str := ⟨l.toArray⟩
noncomputable def cs (x : Str) : List Nat := x.cps.toList
@[simp] theorem cs_S (l : List Nat) : cs (S l) = l := by simp [cs, S]
@[simp] theorem S_cs (x : Str) : S (cs x) = x := by cases x; simp [cs, S]
theorem S_inj {a b : List Nat} : S a = S b ↔ a = b := ⟨fun h => by simpa using congrArg cs h, fun h => by rw [h]⟩

inductive F where
  | val (d : PyData)
  | own (xs : List PyData)

noncomputable def F.frz : F → PyData
  | .val d => d
  | .own xs => .list xs

noncomputable abbrev St := List (Option F)

inductive R (α : Type) where
  | ok (a : α)
  | exc (k : Nat) (st : St)
  | stuck

@[simp] noncomputable def R.bind {α β : Type} : R α → (α → R β) → R β
  | .ok a, f => f a
  | .exc k st, _ => .exc k st
  | .stuck, _ => .stuck

@[simp] noncomputable def R.ofO {α : Type} : Option α → R α
  | some a => .ok a
  | none => .stuck

/-- what a def of the text gives back -/
inductive Out where
  | ret (f : F)
  | exc (k : Nat)
  | stuck

noncomputable abbrev Fn := List PyData → Out

noncomputable def lim : Nat := 16777216
noncomputable def small (i : Int) : Bool := decide (i.natAbs < 1073741824)
noncomputable def okLen (n : Nat) : Bool := decide (n ≤ 16777216)

noncomputable def binF (op : Operator) (d e : PyData) : Option F :=
  match op, d, e with
  | .Add, .int a, .int b => some (.val (.int (a + b)))
  | .Sub, .int a, .int b => some (.val (.int (a - b)))
  | .Mult, .int a, .int b => if small a || small b then some (.val (.int (a * b))) else none
  | .FloorDiv, .int a, .int b => if small b && b != 0 then some (.val (.int (a.fdiv b))) else none
  | .Mod, .int a, .int b => if b != 0 then some (.val (.int (a.fmod b))) else none
  | .Add, .str x, .str y => if okLen ((cs x).length + (cs y).length) then some (.val (.str (S (cs x ++ cs y)))) else none
  | .Add, .list x, .list y => if okLen (x.length + y.length) then some (.own (x ++ y)) else none
  | .Add, .tuple x, .tuple y => if okLen (x.length + y.length) then some (.val (.tuple (x ++ y))) else none
  | .Mult, .str x, .int n => if okLen ((cs x).length * n.toNat) && decide (n ≤ 16777216) && decide (-16777216 ≤ n) then some (.val (.str (S (List.replicate n.toNat (cs x)).flatten))) else none
  | _, _, _ => none

noncomputable def inStr (x y : Str) : Bool := !(Builtin.Str.occurrences x y 0 x.length 1).isEmpty

noncomputable def shallow (d : PyData) : Bool := d.canLay0 && decide (d.depth ≤ 50)

noncomputable def cmpF (op : CmpOp) (d e : PyData) : Option Bool :=
  match op, d, e with
  | .Eq, .int a, .int b => some (a == b)
  | .NotEq, .int a, .int b => some (a != b)
  | .Lt, .int a, .int b => some (decide (a < b))
  | .LtE, .int a, .int b => some (decide (a ≤ b))
  | .Gt, .int a, .int b => some (decide (b < a))
  | .GtE, .int a, .int b => some (decide (b ≤ a))
  | .Eq, .str x, .str y => some (cs x == cs y)
  | .NotEq, .str x, .str y => some (cs x != cs y)
  | .In, .str y, .str x => some (inStr x y)
  | .NotIn, .str y, .str x => some (!inStr x y)
  | .Eq, d, e => if shallow d && shallow e then some (d.eqv e) else none
  | .NotEq, d, e => if shallow d && shallow e then some (!d.eqv e) else none
  | _, _, _ => none

/-- the place of an index, as Python counts it -/
noncomputable def at? (n : Nat) (i : Int) : Option Nat :=
  if 0 ≤ i then (if i < n then some i.toNat else none) else if -(n : Int) ≤ i then some (n + i).toNat else none

noncomputable def idxF : PyData → PyData → Option PyData
  | .str x, .int i => if okLen (cs x).length then ((at? (cs x).length i).bind fun k => (cs x)[k]?).map fun c => .str (S [c]) else none
  | .list xs, .int i => if okLen xs.length then (at? xs.length i).bind fun k => xs[k]? else none
  | .tuple xs, .int i => if okLen xs.length then (at? xs.length i).bind fun k => xs[k]? else none
  | _, _ => none

noncomputable def bnd (o : Option PyData) (d : Nat) : Option Nat :=
  match o with
  | none => some d
  | some (.int i) => if 0 ≤ i ∧ i < 4611686018427387904 then some i.toNat else none
  | some _ => none

noncomputable def slF (d : PyData) (lo hi : Option PyData) : Option F :=
  match d with
  | .str x => if okLen (cs x).length then (bnd lo 0).bind fun a => (bnd hi (cs x).length).map fun b => .val (.str (S (((cs x).take b).drop a))) else none
  | .list xs => if okLen xs.length then (bnd lo 0).bind fun a => (bnd hi xs.length).map fun b => .own ((xs.take b).drop a) else none
  | _ => none

noncomputable def lenF : PyData → Option Nat
  | .str x => if okLen (cs x).length then some (cs x).length else none
  | .list xs => if okLen xs.length then some xs.length else none
  | .tuple xs => if okLen xs.length then some xs.length else none
  | _ => none

noncomputable def itemsF : PyData → Option (List PyData)
  | .str x => if okLen (cs x).length then some ((cs x).map fun c => .str (S [c])) else none
  | .list xs => if okLen xs.length then some xs else none
  | .tuple xs => if okLen xs.length then some xs else none
  | _ => none

inductive Ty where
  | str | int | bool | list | tuple

noncomputable def isF : PyData → Ty → Bool
  | .str _, .str => true
  | .int _, .int => true
  | .bool _, .int => true
  | .bool _, .bool => true
  | .list _, .list => true
  | .tuple _, .tuple => true
  | _, _ => false

/-- the table OPENING -/
noncomputable def openF (x : Str) : Option Str :=
  if cs x = [41] then some (S [40]) else if cs x = [93] then some (S [91]) else if cs x = [125] then some (S [123]) else none

/-- the text's constants -/
noncomputable def gtab : Nat → Option (Str × PyData)
  | 0 => some ("MOST_ROWS", .int 64)
  | 1 => some ("MOST_SIGNS", .int 120)
  | 2 => some ("OPENERS", .str (S [40, 91, 123]))
  | _ => none

/-- cut at the line ends -/
noncomputable def splitNL : List Nat → List (List Nat)
  | [] => [[]]
  | c :: r => if c = 10 then [] :: splitNL r else match splitNL r with
    | l :: ls => (c :: l) :: ls
    | [] => [[c]]

noncomputable def findF (l : List Nat) (c : Nat) : Int := match l.findIdx? (· == c) with
  | some k => (k : Int)
  | none => -1

noncomputable def strsF : List PyData → Option (List (List Nat))
  | [] => some []
  | .str x :: r => (strsF r).map fun l => cs x :: l
  | _ :: _ => none

set_option genInjectivity false
mutual
inductive CE where
  | none
  | bool (b : Bool)
  | int (i : Int)
  | str (l : List Nat)
  | var (i : Nat)
  | mv (i : Nat)
  | glob (k : Nat)
  | bin (op : Operator) (a b : CE)
  | neg (a : CE)
  | not (a : CE)
  | and (a b : CE)
  | or (a b : CE)
  | cmp (op : CmpOp) (a b : CE)
  | chain2 (a : CE) (o1 : CmpOp) (b : CE) (o2 : CmpOp) (c : CE)
  | isNone (a : CE)
  | isNotNone (a : CE)
  | eqNil (i : Nat)
  | neNil (i : Nat)
  | inOpen (a : CE)
  | getOpen (a : CE)
  | idx (a i : CE)
  | idxv (x : Nat) (i : CE)
  | slc (a : CE) (lo hi : CEo)
  | tup (es : CEs)
  | lst (es : CEs)
  | call (k : Nat) (es : CEs)
  | len (a : CE)
  | lenv (x : Nat)
  | ord (a : CE)
  | isinst (a : CE) (t : Ty)
  | abs (a : CE)
  | toInt (a : CE)
  | list (a : CE)
  | pop (x : Nat)
  | splitNl (a : CE)
  | find (a b : CE)
  | join (a b : CE)
  | comp (n : Nat) (elt : CE) (it : CI) (cond : CEo)
inductive CEo where
  | no
  | yes (e : CE)
inductive CEs where
  | nil
  | cons (e : CE) (es : CEs)
inductive CI where
  | data (e : CE)
  | range (e : CE)
  | enum (e : CE)
end

noncomputable def okF (r : Option F) (st : St) : R (F × St) := match r with | some f => .ok (f, st) | none => .stuck
noncomputable def okD (r : Option PyData) (st : St) : R (F × St) := match r with | some d => .ok (.val d, st) | none => .stuck
noncomputable def okB (r : Option Bool) (st : St) : R (F × St) := match r with | some b => .ok (.val (.bool b), st) | none => .stuck
noncomputable def okI (r : Option Nat) (st : St) : R (F × St) := match r with | some n => .ok (.val (.int n), st) | none => .stuck
noncomputable def outR (o : Out) (st : St) : R (F × St) := match o with | .ret f => .ok (f, st) | .exc _ => .stuck | .stuck => .stuck

noncomputable def slot (st : St) (i : Nat) : Option F := st[i]?.join
noncomputable def ownAt (st : St) (i : Nat) : Option (List PyData) := match slot st i with | some (.own xs) => some xs | _ => none
noncomputable def listAt (st : St) (i : Nat) : Option (List PyData) := match slot st i with | some (.own xs) => some xs | some (.val (.list xs)) => some xs | _ => none

noncomputable def vals (st : St) : St := st.map fun | some (.val d) => some (.val d) | _ => none

noncomputable def mapR (step : PyData → R (List PyData)) : List PyData → R (List PyData)
  | [] => .ok []
  | x :: xs => match step x with
    | .ok ys => (match mapR step xs with | .ok zs => .ok (ys ++ zs) | _ => .stuck)
    | _ => .stuck

noncomputable def enumFrom (n : Nat) : List PyData → List PyData
  | [] => []
  | x :: xs => .tuple [.int n, x] :: enumFrom (n + 1) xs

noncomputable def isN : PyData → Bool
  | .none => true
  | _ => false

noncomputable def boolOf : F → Option Bool
  | .val (.bool b) => some b
  | _ => none

noncomputable def toD (r : R (F × St)) : R (PyData × St) := r.bind fun (f, st) => .ok (f.frz, st)
noncomputable def toB (r : R (F × St)) : R (Bool × St) := r.bind fun (f, st) => match boolOf f with | some b => .ok (b, st) | none => .stuck

mutual
noncomputable def ev (Γ : Nat → Fn) : CE → St → R (F × St)
  | .none, st => .ok (.val .none, st)
  | .bool b, st => .ok (.val (.bool b), st)
  | .int i, st => .ok (.val (.int i), st)
  | .str l, st => .ok (.val (.str (S l)), st)
  | .var i, st => match slot st i with
    | some (.val d) => .ok (.val d, st)
    | some (.own xs) => .ok (.val (.list xs), st.set i (some (.val (.list xs))))
    | none => .stuck
  | .mv i, st => match slot st i with
    | some (.own xs) => .ok (.own xs, st.set i none)
    | _ => .stuck
  | .glob k, st => match gtab k with | some (_, d) => .ok (.val d, st) | none => .stuck
  | .bin op a b, st => (toD (ev Γ a st)).bind fun (x, st) => (toD (ev Γ b st)).bind fun (y, st) => okF (binF op x y) st
  | .neg a, st => (toD (ev Γ a st)).bind fun (x, st) => match x with | .int i => .ok (.val (.int (-i)), st) | _ => .stuck
  | .not a, st => (toB (ev Γ a st)).bind fun (x, st) => .ok (.val (.bool (!x)), st)
  | .and a b, st => (toB (ev Γ a st)).bind fun (x, st) => if x then (ev Γ b st) else .ok (.val (.bool false), st)
  | .or a b, st => (toB (ev Γ a st)).bind fun (x, st) => if x then .ok (.val (.bool true), st) else (ev Γ b st)
  | .cmp op a b, st => (toD (ev Γ a st)).bind fun (x, st) => (toD (ev Γ b st)).bind fun (y, st) => okB (cmpF op x y) st
  | .chain2 a o1 b o2 c, st => (toD (ev Γ a st)).bind fun (x, st) => (toD (ev Γ b st)).bind fun (y, st) => match cmpF o1 x y with
    | some true => (toD (ev Γ c st)).bind fun (z, st) => okB (cmpF o2 y z) st
    | some false => .ok (.val (.bool false), st)
    | none => .stuck
  | .isNone a, st => (toD (ev Γ a st)).bind fun (x, st) => .ok (.val (.bool (isN x)), st)
  | .isNotNone a, st => (toD (ev Γ a st)).bind fun (x, st) => .ok (.val (.bool (!isN x)), st)
  | .eqNil i, st => match listAt st i with | some xs => .ok (.val (.bool xs.isEmpty), st) | none => .stuck
  | .neNil i, st => match listAt st i with | some xs => .ok (.val (.bool (!xs.isEmpty)), st) | none => .stuck
  | .inOpen a, st => (toD (ev Γ a st)).bind fun (x, st) => match x with | .str s => .ok (.val (.bool (openF s).isSome), st) | _ => .stuck
  | .getOpen a, st => (toD (ev Γ a st)).bind fun (x, st) => match x with | .str s => okD ((openF s).map .str) st | _ => .stuck
  | .idx a i, st => (toD (ev Γ a st)).bind fun (x, st) => (toD (ev Γ i st)).bind fun (y, st) => okD (idxF x y) st
  | .idxv i k, st => match listAt st i with
    | some _ => (toD (ev Γ k st)).bind fun (y, st) => (match listAt st i with | some xs => okD (idxF (.list xs) y) st | none => .stuck)
    | none => .stuck
  | .slc a lo hi, st => (toD (ev Γ a st)).bind fun (x, st) => (evo Γ lo st).bind fun (l, st) => (evo Γ hi st).bind fun (h, st) => okF (slF x l h) st
  | .tup es, st => (evs Γ es st).bind fun (xs, st) => .ok (.val (.tuple xs), st)
  | .lst es, st => (evs Γ es st).bind fun (xs, st) => .ok (.own xs, st)
  | .call k es, st => (evs Γ es st).bind fun (xs, st) => outR (Γ k xs) st
  | .len a, st => (toD (ev Γ a st)).bind fun (x, st) => okI (lenF x) st
  | .lenv i, st => match listAt st i with | some xs => okI (lenF (.list xs)) st | none => .stuck
  | .ord a, st => (toD (ev Γ a st)).bind fun (x, st) => match x with | .str s => (match cs s with | [c] => .ok (.val (.int c), st) | _ => .stuck) | _ => .stuck
  | .isinst a t, st => (toD (ev Γ a st)).bind fun (x, st) => .ok (.val (.bool (isF x t)), st)
  | .abs a, st => (toD (ev Γ a st)).bind fun (x, st) => match x with | .int i => .ok (.val (.int i.natAbs), st) | _ => .stuck
  | .toInt a, st => (toD (ev Γ a st)).bind fun (x, st) => match x with | .bool b => .ok (.val (.int (if b then 1 else 0)), st) | _ => .stuck
  | .list a, st => (toD (ev Γ a st)).bind fun (x, st) => match x with | .list xs => (if okLen xs.length then .ok (.own xs, st) else .stuck) | _ => .stuck
  | .pop i, st => match ownAt st i with
    | some xs => (match xs.getLast? with | some d => (if okLen xs.length then .ok (.val d, st.set i (some (.own xs.dropLast))) else .stuck) | none => .stuck)
    | none => .stuck
  | .splitNl a, st => (toD (ev Γ a st)).bind fun (x, st) => match x with | .str s => (if okLen ((cs s).length + 1) then .ok (.own ((splitNL (cs s)).map fun l => .str (S l)), st) else .stuck) | _ => .stuck
  | .find a b, st => (toD (ev Γ a st)).bind fun (x, st) => match x with
    | .str s => (toD (ev Γ b st)).bind fun (y, st) => (match y with
      | .str t => (match cs t with | [c] => (if okLen (cs s).length then .ok (.val (.int (findF (cs s) c)), st) else .stuck) | _ => .stuck)
      | _ => .stuck)
    | _ => .stuck
  | .join a b, st => (toD (ev Γ a st)).bind fun (x, st) => match x with
    | .str s => (toD (ev Γ b st)).bind fun (y, st) => (match y with
      | .list xs => (match cs s, strsF xs with | [], some ls => (if okLen ls.flatten.length then .ok (.val (.str (S ls.flatten)), st) else .stuck) | _, _ => .stuck)
      | _ => .stuck)
    | _ => .stuck
  | .comp n elt it cond, st => (evi Γ it st).bind fun (xs, st) =>
      match mapR (fun x => (evc Γ cond (vals st ++ [some (.val x)])).bind fun b => if b then (toD (ev Γ elt (vals st ++ [some (.val x)]))).bind fun (y, _) => .ok [y] else .ok []) xs with
      | .ok ys => if okLen xs.length && st.length == n then .ok (.own ys, st) else .stuck
      | _ => .stuck
noncomputable def evo (Γ : Nat → Fn) : CEo → St → R (Option PyData × St)
  | .no, st => .ok (Option.none, st)
  | .yes e, st => (toD (ev Γ e st)).bind fun (x, st) => .ok (some x, st)
noncomputable def evc (Γ : Nat → Fn) : CEo → St → R Bool
  | .no, _ => .ok true
  | .yes e, st => (toB (ev Γ e st)).bind fun (b, _) => .ok b
noncomputable def evs (Γ : Nat → Fn) : CEs → St → R (List PyData × St)
  | .nil, st => .ok ([], st)
  | .cons e es, st => (toD (ev Γ e st)).bind fun (x, st) => (evs Γ es st).bind fun (xs, st) => .ok (x :: xs, st)
noncomputable def evi (Γ : Nat → Fn) : CI → St → R (List PyData × St)
  | .data e, st => (toD (ev Γ e st)).bind fun (x, st) => match itemsF x with | some xs => .ok (xs, st) | none => .stuck
  | .range e, st => (toD (ev Γ e st)).bind fun (x, st) => match x with | .int n => (if decide (n ≤ 16777216) && decide (-16777216 ≤ n) then .ok ((List.range n.toNat).map fun (k : Nat) => PyData.int k, st) else .stuck) | _ => .stuck
  | .enum e, st => (toD (ev Γ e st)).bind fun (x, st) => match x with
    | .list xs => (if okLen xs.length then .ok (enumFrom 0 xs, st) else .stuck)
    | .str q => (if okLen (cs q).length then .ok (enumFrom 0 ((cs q).map fun c => .str (S [c])), st) else .stuck)
    | _ => .stuck
end

inductive Tg where
  | one (i : Nat)
  | many (is : List Nat)

mutual
inductive CS where
  | assign (i : Nat) (e : CE)
  | unpack (is : List Nat) (e : CE)
  | setidx (x : Nat) (k v : CE)
  | append (x : Nat) (e : CE)
  | drop (e : CE)
  | ret (e : CE)
  | iff (c : CE) (a b : CSs)
  | loop (t : Tg) (it : CI) (body : CSs)
  | raise (k : Nat)
inductive CSs where
  | nil
  | cons (s : CS) (r : CSs)
end

inductive Fl where
  | next
  | ret (f : F)

noncomputable def setAll : List Nat → List PyData → St → Option St
  | [], [], st => some st
  | i :: is, d :: ds, st => if i < st.length then setAll is ds (st.set i (some (.val d))) else none
  | _, _, _ => none

noncomputable def bindT : Tg → PyData → St → Option St
  | .one i, d, st => if i < st.length then some (st.set i (some (.val d))) else none
  | .many is, .tuple ds, st => setAll is ds st
  | .many _, _, _ => none

noncomputable def forL (step : PyData → St → R (Fl × St)) : List PyData → St → R (Fl × St)
  | [], st => .ok (.next, st)
  | x :: xs, st => match step x st with
    | .ok (.next, st') => forL step xs st'
    | .ok (.ret f, st') => .ok (.ret f, st')
    | _ => .stuck

mutual
noncomputable def ex (Γ : Nat → Fn) : CS → St → R (Fl × St)
  | .assign i e, st => (ev Γ e st).bind fun (f, st) => if i < st.length then .ok (.next, st.set i (some f)) else .stuck
  | .unpack is e, st => (toD (ev Γ e st)).bind fun (d, st) => match d with
    | .tuple ds => (match setAll is ds st with | some st' => .ok (.next, st') | none => .stuck)
    | _ => .stuck
  | .setidx x k v, st => (toD (ev Γ v st)).bind fun (d, st) => match ownAt st x with
    | some _ => (toD (ev Γ k st)).bind fun (i, st) => (match ownAt st x, i with
      | some xs, .int n => (match (if 0 ≤ n then at? xs.length n else none) with | some j => (if okLen xs.length then .ok (.next, st.set x (some (.own (xs.set j d)))) else .stuck) | none => .stuck)
      | _, _ => .stuck)
    | none => .stuck
  | .append x e, st => match ownAt st x with
    | some _ => (toD (ev Γ e st)).bind fun (d, st) => (match ownAt st x with | some xs => (if okLen xs.length then .ok (.next, st.set x (some (.own (xs ++ [d])))) else .stuck) | none => .stuck)
    | none => .stuck
  | .drop e, st => (toD (ev Γ e st)).bind fun (_, st) => .ok (.next, st)
  | .ret e, st => (ev Γ e st).bind fun (f, st) => .ok (.ret f, st)
  | .iff c a b, st => (toB (ev Γ c st)).bind fun (t, st) => if t then exs Γ a st else exs Γ b st
  | .loop t it body, st => (evi Γ it st).bind fun (xs, st) => forL (fun x st => match bindT t x st with | some st' => exs Γ body st' | none => .stuck) xs st
  | .raise _, _ => .stuck
noncomputable def exs (Γ : Nat → Fn) : CSs → St → R (Fl × St)
  | .nil, st => .ok (.next, st)
  | .cons s r, st => (ex Γ s st).bind fun (fl, st) => match fl with
    | .next => exs Γ r st
    | .ret f => .ok (.ret f, st)
end

/-- a def: its parameters first, then its other names -/
structure Def where
  nv : Nat
  body : CSs

noncomputable def outOf (r : R (Fl × St)) : Out := match r with
  | .ok (.next, _) => .ret (.val .none)
  | .ok (.ret f, _) => .ret f
  | .exc k _ => .exc k
  | .stuck => .stuck

noncomputable def runDef (Γ : Nat → Fn) (np nv : Nat) (body : CSs) : Fn := fun ds =>
  if ds.length = np then outOf (exs Γ body (ds.map (fun d => some (.val d)) ++ List.replicate nv none)) else .stuck

end Mine
namespace Mine
example (Γ : Nat → Fn) (x y : Int) : ev Γ (.bin .Add (.var 0) (.neg (.var 1))) [some (.val (.int x)), some (.val (.int y))] = .ok (.val (.int (x + -y)), [some (.val (.int x)), some (.val (.int y))]) := rfl
example (Γ : Nat → Fn) (x y : Int) : exs Γ (.cons (.assign 2 (.bin .Add (.var 0) (.neg (.var 1)))) .nil) [some (.val (.int x)), some (.val (.int y)), none] = .ok (.next, [some (.val (.int x)), some (.val (.int y)), some (.val (.int (x + -y)))]) := rfl
end Mine
end

section
open PySem PySem.Calls PyProof.Rows
set_option Elab.async false
set_option linter.unusedVariables false
namespace Mine
theorem qe_none {Γ : Nat → Fn} {st : St} : ev Γ (.none) st = (.ok (.val .none, st)) := rfl
theorem qe_bool {Γ : Nat → Fn} {st : St} {b} : ev Γ (.bool b) st = (.ok (.val (.bool b), st)) := rfl
theorem qe_int {Γ : Nat → Fn} {st : St} {i} : ev Γ (.int i) st = (.ok (.val (.int i), st)) := rfl
theorem qe_str {Γ : Nat → Fn} {st : St} {l} : ev Γ (.str l) st = (.ok (.val (.str (S l)), st)) := rfl
theorem qe_var {Γ : Nat → Fn} {st : St} {i} : ev Γ (.var i) st = (match slot st i with
    | some (.val d) => .ok (.val d, st)
    | some (.own xs) => .ok (.val (.list xs), st.set i (some (.val (.list xs))))
    | none => .stuck) := rfl
theorem qe_mv {Γ : Nat → Fn} {st : St} {i} : ev Γ (.mv i) st = (match slot st i with
    | some (.own xs) => .ok (.own xs, st.set i none)
    | _ => .stuck) := rfl
theorem qe_glob {Γ : Nat → Fn} {st : St} {k} : ev Γ (.glob k) st = (match gtab k with | some (_, d) => .ok (.val d, st) | none => .stuck) := rfl
theorem qe_bin {Γ : Nat → Fn} {st : St} {op} {a} {b} : ev Γ (.bin op a b) st = ((toD (ev Γ a st)).bind fun (x, st) => (toD (ev Γ b st)).bind fun (y, st) => okF (binF op x y) st) := rfl
theorem qe_neg {Γ : Nat → Fn} {st : St} {a} : ev Γ (.neg a) st = ((toD (ev Γ a st)).bind fun (x, st) => match x with | .int i => .ok (.val (.int (-i)), st) | _ => .stuck) := rfl
theorem qe_not {Γ : Nat → Fn} {st : St} {a} : ev Γ (.not a) st = ((toB (ev Γ a st)).bind fun (x, st) => .ok (.val (.bool (!x)), st)) := rfl
theorem qe_and {Γ : Nat → Fn} {st : St} {a} {b} : ev Γ (.and a b) st = ((toB (ev Γ a st)).bind fun (x, st) => if x then (ev Γ b st) else .ok (.val (.bool false), st)) := rfl
theorem qe_or {Γ : Nat → Fn} {st : St} {a} {b} : ev Γ (.or a b) st = ((toB (ev Γ a st)).bind fun (x, st) => if x then .ok (.val (.bool true), st) else (ev Γ b st)) := rfl
theorem qe_cmp {Γ : Nat → Fn} {st : St} {op} {a} {b} : ev Γ (.cmp op a b) st = ((toD (ev Γ a st)).bind fun (x, st) => (toD (ev Γ b st)).bind fun (y, st) => okB (cmpF op x y) st) := rfl
theorem qe_chain2 {Γ : Nat → Fn} {st : St} {a} {o1} {b} {o2} {c} : ev Γ (.chain2 a o1 b o2 c) st = ((toD (ev Γ a st)).bind fun (x, st) => (toD (ev Γ b st)).bind fun (y, st) => match cmpF o1 x y with
    | some true => (toD (ev Γ c st)).bind fun (z, st) => okB (cmpF o2 y z) st
    | some false => .ok (.val (.bool false), st)
    | none => .stuck) := rfl
theorem qe_isNone {Γ : Nat → Fn} {st : St} {a} : ev Γ (.isNone a) st = ((toD (ev Γ a st)).bind fun (x, st) => .ok (.val (.bool (isN x)), st)) := rfl
theorem qe_isNotNone {Γ : Nat → Fn} {st : St} {a} : ev Γ (.isNotNone a) st = ((toD (ev Γ a st)).bind fun (x, st) => .ok (.val (.bool (!isN x)), st)) := rfl
theorem qe_eqNil {Γ : Nat → Fn} {st : St} {i} : ev Γ (.eqNil i) st = (match listAt st i with | some xs => .ok (.val (.bool xs.isEmpty), st) | none => .stuck) := rfl
theorem qe_neNil {Γ : Nat → Fn} {st : St} {i} : ev Γ (.neNil i) st = (match listAt st i with | some xs => .ok (.val (.bool (!xs.isEmpty)), st) | none => .stuck) := rfl
theorem qe_inOpen {Γ : Nat → Fn} {st : St} {a} : ev Γ (.inOpen a) st = ((toD (ev Γ a st)).bind fun (x, st) => match x with | .str s => .ok (.val (.bool (openF s).isSome), st) | _ => .stuck) := rfl
theorem qe_getOpen {Γ : Nat → Fn} {st : St} {a} : ev Γ (.getOpen a) st = ((toD (ev Γ a st)).bind fun (x, st) => match x with | .str s => okD ((openF s).map .str) st | _ => .stuck) := rfl
theorem qe_idx {Γ : Nat → Fn} {st : St} {a} {i} : ev Γ (.idx a i) st = ((toD (ev Γ a st)).bind fun (x, st) => (toD (ev Γ i st)).bind fun (y, st) => okD (idxF x y) st) := rfl
theorem qe_idxv {Γ : Nat → Fn} {st : St} {i} {k} : ev Γ (.idxv i k) st = (match listAt st i with
    | some _ => (toD (ev Γ k st)).bind fun (y, st) => (match listAt st i with | some xs => okD (idxF (.list xs) y) st | none => .stuck)
    | none => .stuck) := rfl
theorem qe_slc {Γ : Nat → Fn} {st : St} {a} {lo} {hi} : ev Γ (.slc a lo hi) st = ((toD (ev Γ a st)).bind fun (x, st) => (evo Γ lo st).bind fun (l, st) => (evo Γ hi st).bind fun (h, st) => okF (slF x l h) st) := rfl
theorem qe_tup {Γ : Nat → Fn} {st : St} {es} : ev Γ (.tup es) st = ((evs Γ es st).bind fun (xs, st) => .ok (.val (.tuple xs), st)) := rfl
theorem qe_lst {Γ : Nat → Fn} {st : St} {es} : ev Γ (.lst es) st = ((evs Γ es st).bind fun (xs, st) => .ok (.own xs, st)) := rfl
theorem qe_call {Γ : Nat → Fn} {st : St} {k} {es} : ev Γ (.call k es) st = ((evs Γ es st).bind fun (xs, st) => outR (Γ k xs) st) := rfl
theorem qe_len {Γ : Nat → Fn} {st : St} {a} : ev Γ (.len a) st = ((toD (ev Γ a st)).bind fun (x, st) => okI (lenF x) st) := rfl
theorem qe_lenv {Γ : Nat → Fn} {st : St} {i} : ev Γ (.lenv i) st = (match listAt st i with | some xs => okI (lenF (.list xs)) st | none => .stuck) := rfl
theorem qe_ord {Γ : Nat → Fn} {st : St} {a} : ev Γ (.ord a) st = ((toD (ev Γ a st)).bind fun (x, st) => match x with | .str s => (match cs s with | [c] => .ok (.val (.int c), st) | _ => .stuck) | _ => .stuck) := rfl
theorem qe_isinst {Γ : Nat → Fn} {st : St} {a} {t} : ev Γ (.isinst a t) st = ((toD (ev Γ a st)).bind fun (x, st) => .ok (.val (.bool (isF x t)), st)) := rfl
theorem qe_abs {Γ : Nat → Fn} {st : St} {a} : ev Γ (.abs a) st = ((toD (ev Γ a st)).bind fun (x, st) => match x with | .int i => .ok (.val (.int i.natAbs), st) | _ => .stuck) := rfl
theorem qe_toInt {Γ : Nat → Fn} {st : St} {a} : ev Γ (.toInt a) st = ((toD (ev Γ a st)).bind fun (x, st) => match x with | .bool b => .ok (.val (.int (if b then 1 else 0)), st) | _ => .stuck) := rfl
theorem qe_list {Γ : Nat → Fn} {st : St} {a} : ev Γ (.list a) st = ((toD (ev Γ a st)).bind fun (x, st) => match x with | .list xs => (if okLen xs.length then .ok (.own xs, st) else .stuck) | _ => .stuck) := rfl
theorem qe_pop {Γ : Nat → Fn} {st : St} {i} : ev Γ (.pop i) st = (match ownAt st i with
    | some xs => (match xs.getLast? with | some d => (if okLen xs.length then .ok (.val d, st.set i (some (.own xs.dropLast))) else .stuck) | none => .stuck)
    | none => .stuck) := rfl
theorem qe_splitNl {Γ : Nat → Fn} {st : St} {a} : ev Γ (.splitNl a) st = ((toD (ev Γ a st)).bind fun (x, st) => match x with | .str s => (if okLen ((cs s).length + 1) then .ok (.own ((splitNL (cs s)).map fun l => .str (S l)), st) else .stuck) | _ => .stuck) := rfl
theorem qe_find {Γ : Nat → Fn} {st : St} {a} {b} : ev Γ (.find a b) st = ((toD (ev Γ a st)).bind fun (x, st) => match x with
    | .str s => (toD (ev Γ b st)).bind fun (y, st) => (match y with
      | .str t => (match cs t with | [c] => (if okLen (cs s).length then .ok (.val (.int (findF (cs s) c)), st) else .stuck) | _ => .stuck)
      | _ => .stuck)
    | _ => .stuck) := rfl
theorem qe_join {Γ : Nat → Fn} {st : St} {a} {b} : ev Γ (.join a b) st = ((toD (ev Γ a st)).bind fun (x, st) => match x with
    | .str s => (toD (ev Γ b st)).bind fun (y, st) => (match y with
      | .list xs => (match cs s, strsF xs with | [], some ls => (if okLen ls.flatten.length then .ok (.val (.str (S ls.flatten)), st) else .stuck) | _, _ => .stuck)
      | _ => .stuck)
    | _ => .stuck) := rfl
theorem qe_comp {Γ : Nat → Fn} {st : St} {n} {elt} {it} {cond} : ev Γ (.comp n elt it cond) st = ((evi Γ it st).bind fun (xs, st) =>
      match mapR (fun x => (evc Γ cond (vals st ++ [some (.val x)])).bind fun b => if b then (toD (ev Γ elt (vals st ++ [some (.val x)]))).bind fun (y, _) => .ok [y] else .ok []) xs with
      | .ok ys => if okLen xs.length && st.length == n then .ok (.own ys, st) else .stuck
      | _ => .stuck) := rfl
theorem qo_no {Γ : Nat → Fn} {st : St} : evo Γ (.no) st = (.ok (Option.none, st)) := rfl
theorem qo_yes {Γ : Nat → Fn} {st : St} {e} : evo Γ (.yes e) st = ((toD (ev Γ e st)).bind fun (x, st) => .ok (some x, st)) := rfl
theorem qc_no {Γ : Nat → Fn} {st : St} : evc Γ (.no) st = (.ok true) := rfl
theorem qc_yes {Γ : Nat → Fn} {st : St} {e} : evc Γ (.yes e) st = ((toB (ev Γ e st)).bind fun (b, _) => .ok b) := rfl
theorem qs_nil {Γ : Nat → Fn} {st : St} : evs Γ (.nil) st = (.ok ([], st)) := rfl
theorem qs_cons {Γ : Nat → Fn} {st : St} {e} {es} : evs Γ (.cons e es) st = ((toD (ev Γ e st)).bind fun (x, st) => (evs Γ es st).bind fun (xs, st) => .ok (x :: xs, st)) := rfl
theorem qi_data {Γ : Nat → Fn} {st : St} {e} : evi Γ (.data e) st = ((toD (ev Γ e st)).bind fun (x, st) => match itemsF x with | some xs => .ok (xs, st) | none => .stuck) := rfl
theorem qi_range {Γ : Nat → Fn} {st : St} {e} : evi Γ (.range e) st = ((toD (ev Γ e st)).bind fun (x, st) => match x with | .int n => (if decide (n ≤ 16777216) && decide (-16777216 ≤ n) then .ok ((List.range n.toNat).map fun (k : Nat) => PyData.int k, st) else .stuck) | _ => .stuck) := rfl
theorem qi_enum {Γ : Nat → Fn} {st : St} {e} : evi Γ (.enum e) st = ((toD (ev Γ e st)).bind fun (x, st) => match x with
    | .list xs => (if okLen xs.length then .ok (enumFrom 0 xs, st) else .stuck)
    | .str q => (if okLen (cs q).length then .ok (enumFrom 0 ((cs q).map fun c => .str (S [c])), st) else .stuck)
    | _ => .stuck) := rfl
theorem qx_assign {Γ : Nat → Fn} {st : St} {i} {e} : ex Γ (.assign i e) st = ((ev Γ e st).bind fun (f, st) => if i < st.length then .ok (.next, st.set i (some f)) else .stuck) := rfl
theorem qx_unpack {Γ : Nat → Fn} {st : St} {is} {e} : ex Γ (.unpack is e) st = ((toD (ev Γ e st)).bind fun (d, st) => match d with
    | .tuple ds => (match setAll is ds st with | some st' => .ok (.next, st') | none => .stuck)
    | _ => .stuck) := rfl
theorem qx_setidx {Γ : Nat → Fn} {st : St} {x} {k} {v} : ex Γ (.setidx x k v) st = ((toD (ev Γ v st)).bind fun (d, st) => match ownAt st x with
    | some _ => (toD (ev Γ k st)).bind fun (i, st) => (match ownAt st x, i with
      | some xs, .int n => (match (if 0 ≤ n then at? xs.length n else none) with | some j => (if okLen xs.length then .ok (.next, st.set x (some (.own (xs.set j d)))) else .stuck) | none => .stuck)
      | _, _ => .stuck)
    | none => .stuck) := rfl
theorem qx_append {Γ : Nat → Fn} {st : St} {x} {e} : ex Γ (.append x e) st = (match ownAt st x with
    | some _ => (toD (ev Γ e st)).bind fun (d, st) => (match ownAt st x with | some xs => (if okLen xs.length then .ok (.next, st.set x (some (.own (xs ++ [d])))) else .stuck) | none => .stuck)
    | none => .stuck) := rfl
theorem qx_drop {Γ : Nat → Fn} {st : St} {e} : ex Γ (.drop e) st = ((toD (ev Γ e st)).bind fun (_, st) => .ok (.next, st)) := rfl
theorem qx_ret {Γ : Nat → Fn} {st : St} {e} : ex Γ (.ret e) st = ((ev Γ e st).bind fun (f, st) => .ok (.ret f, st)) := rfl
theorem qx_iff {Γ : Nat → Fn} {st : St} {c} {a} {b} : ex Γ (.iff c a b) st = ((toB (ev Γ c st)).bind fun (t, st) => if t then exs Γ a st else exs Γ b st) := rfl
theorem qx_loop {Γ : Nat → Fn} {st : St} {t} {it} {body} : ex Γ (.loop t it body) st = ((evi Γ it st).bind fun (xs, st) => forL (fun x st => match bindT t x st with | some st' => exs Γ body st' | none => .stuck) xs st) := rfl
theorem qx_raise {Γ : Nat → Fn} {st : St} {w0} : ex Γ (.raise w0) st = (.stuck) := rfl
theorem qxs_nil {Γ : Nat → Fn} {st : St} : exs Γ (.nil) st = (.ok (.next, st)) := rfl
theorem qxs_cons {Γ : Nat → Fn} {st : St} {s} {r} : exs Γ (.cons s r) st = ((ex Γ s st).bind fun (fl, st) => match fl with
    | .next => exs Γ r st
    | .ret f => .ok (.ret f, st)) := rfl
end Mine
end

section
open PySem PySem.Calls PyProof.Rows
set_option Elab.async false
namespace Mine

/-! a term of the small language stands for a Python text (places in the file do not matter) -/

noncomputable abbrev Kd := List (Str × NameKind)

noncomputable def isLoc (nm : List Str) (kd : Kd) (i : Nat) (x : Str) : Bool :=
  nm[i]? == some x && (kd.lookup x == some .local || kd.lookup x == some .cell) && !(x == ("__debug__" : Str))
noncomputable def isGl (kd : Kd) (x y : Str) : Bool := x == y && kd.lookup x == some .globalImplicit && !(x == ("__debug__" : Str))
noncomputable def relabelK (names kd : Kd) : Kd := names.map fun (n, k) => if (k == .free && true && kd.lookup n == some .cell) then (n, .cell) else (n, k)
/-- a receiver that is a name or a constant -/
noncomputable def plainR : Expr → Bool
  | .Name .. => true
  | .Constant .. => true
  | _ => false
noncomputable def maskN (x : Str) (nm : List Str) : List Str := nm.map fun y => if y == x then ("" : Str) else y
noncomputable def tyName : Ty → Str
  | .str => "str"
  | .int => "int"
  | .bool => "bool"
  | .list => "list"
  | .tuple => "tuple"

/-- the scope of a comprehension is a plain one -/
noncomputable def compOk (scope : Scope) (kd : Kd) (x : Str) : Bool :=
  scope.kind == .function && scope.names.all (fun y => y.2 != .cell && (y.2 != .local || scope.names.lookup y.1 == some .local) && (y.2 != .free || (scope.names.lookup y.1 == some .free && kd.lookup y.1 == some .cell))) &&
  scope.names.lookup x == some .local

noncomputable def notEnum : CI → Bool
  | .enum _ => false
  | _ => true

noncomputable def notComp : Expr → Bool
  | .ListComp .. => false
  | .SetComp .. => false
  | .DictComp .. => false
  | _ => true

/-! what an expression is, as far as its checker looks -/

noncomputable def onS {α : Type} (x : Option α) (f : α → Bool) : Bool := match x with | some v => f v | none => false
theorem onS_true {α : Type} {x : Option α} {f : α → Bool} (h : onS x f = true) : ∃ v, x = some v ∧ f v = true := by
  cases x with
  | none => cases h
  | some v => exact ⟨v, rfl, h⟩
noncomputable def one {α : Type} : List α → Option α
  | [x] => some x
  | _ => none
noncomputable def two {α : Type} : List α → Option (α × α)
  | [x, y] => some (x, y)
  | _ => none
noncomputable def more {α : Type} : List α → Option (α × α × List α)
  | x :: y :: r => some (x, y, r)
  | _ => none
theorem one_eq {α : Type} : ∀ {l : List α} {x : α}, one l = some x → l = [x]
  | [x], _, h => by cases h; rfl
theorem two_eq {α : Type} : ∀ {l : List α} {x : α × α}, two l = some x → l = [x.1, x.2]
  | [x, y], _, h => by cases h; rfl
theorem more_eq {α : Type} : ∀ {l : List α} {x : α × α × List α}, more l = some x → l = x.1 :: x.2.1 :: x.2.2
  | x :: y :: r, _, h => by cases h; rfl

theorem nos {α : Type} {v : α} {P : Prop} (h : none = some v) : P := nomatch h

noncomputable def asConst : Expr → Option Const
  | .Constant v _ _ => some v
  | _ => none
noncomputable def asName : Expr → Option Str
  | .Name x _ => some x
  | _ => none
noncomputable def asBin : Expr → Option (Expr × Operator × Expr)
  | .BinOp l o r _ => some (l, o, r)
  | _ => none
noncomputable def asUn : Expr → Option (UnaryOp × Expr)
  | .UnaryOp o x _ => some (o, x)
  | _ => none
noncomputable def asBool : Expr → Option (BoolOp × List Expr × Pos)
  | .BoolOp o xs p => some (o, xs, p)
  | _ => none
noncomputable def asCmp : Expr → Option (Expr × List CmpOp × List Expr)
  | .Compare l os rs _ => some (l, os, rs)
  | _ => none
noncomputable def asSub : Expr → Option (Expr × Expr)
  | .Subscript v i _ => some (v, i)
  | _ => none
noncomputable def asSlice : Expr → Option (Option Expr × Option Expr × Option Expr)
  | .Slice l u s _ => some (l, u, s)
  | _ => none
noncomputable def asTup : Expr → Option (List Expr)
  | .Tuple es _ _ => some es
  | _ => none
noncomputable def asList : Expr → Option (List Expr)
  | .List es _ => some es
  | _ => none
noncomputable def asCall : Expr → Option (Expr × List Expr × List Keyword × Pos)
  | .Call f as ks p => some (f, as, ks, p)
  | _ => none
noncomputable def asAttr : Expr → Option (Expr × Str × Pos)
  | .Attribute v a p => some (v, a, p)
  | _ => none
noncomputable def asComp : Expr → Option (Expr × List Comprehension × Scope)
  | .ListComp e g s _ => some (e, g, s)
  | _ => none
theorem asConst_eq {e : Expr} {v : Const} (h : asConst e = some v) : ∃ k p, e = .Constant v k p := by cases e <;> first | (cases h; exact ⟨_, _, rfl⟩) | exact nos h
theorem asName_eq {e : Expr} {v : Str} (h : asName e = some v) : ∃ p, e = .Name v p := by cases e <;> first | (cases h; exact ⟨_, rfl⟩) | exact nos h
theorem asBin_eq {e : Expr} {v : Expr × Operator × Expr} (h : asBin e = some v) : ∃ p, e = .BinOp v.1 v.2.1 v.2.2 p := by cases e <;> first | (cases h; exact ⟨_, rfl⟩) | exact nos h
theorem asUn_eq {e : Expr} {v : UnaryOp × Expr} (h : asUn e = some v) : ∃ p, e = .UnaryOp v.1 v.2 p := by cases e <;> first | (cases h; exact ⟨_, rfl⟩) | exact nos h
theorem asBool_eq {e : Expr} {v : BoolOp × List Expr × Pos} (h : asBool e = some v) : e = .BoolOp v.1 v.2.1 v.2.2 := by cases e <;> first | (cases h; rfl) | exact nos h
theorem asCmp_eq {e : Expr} {v : Expr × List CmpOp × List Expr} (h : asCmp e = some v) : ∃ p, e = .Compare v.1 v.2.1 v.2.2 p := by cases e <;> first | (cases h; exact ⟨_, rfl⟩) | exact nos h
theorem asSub_eq {e : Expr} {v : Expr × Expr} (h : asSub e = some v) : ∃ p, e = .Subscript v.1 v.2 p := by cases e <;> first | (cases h; exact ⟨_, rfl⟩) | exact nos h
theorem asSlice_eq {e : Expr} {v : Option Expr × Option Expr × Option Expr} (h : asSlice e = some v) : ∃ p, e = .Slice v.1 v.2.1 v.2.2 p := by cases e <;> first | (cases h; exact ⟨_, rfl⟩) | exact nos h
theorem asTup_eq {e : Expr} {v : List Expr} (h : asTup e = some v) : ∃ k p, e = .Tuple v k p := by cases e <;> first | (cases h; exact ⟨_, _, rfl⟩) | exact nos h
theorem asList_eq {e : Expr} {v : List Expr} (h : asList e = some v) : ∃ p, e = .List v p := by cases e <;> first | (cases h; exact ⟨_, rfl⟩) | exact nos h
theorem asCall_eq {e : Expr} {v : Expr × List Expr × List Keyword × Pos} (h : asCall e = some v) : e = .Call v.1 v.2.1 v.2.2.1 v.2.2.2 := by cases e <;> first | (cases h; rfl) | exact nos h
theorem asAttr_eq {e : Expr} {v : Expr × Str × Pos} (h : asAttr e = some v) : e = .Attribute v.1 v.2.1 v.2.2 := by cases e <;> first | (cases h; rfl) | exact nos h
theorem asComp_eq {e : Expr} {v : Expr × List Comprehension × Scope} (h : asComp e = some v) : ∃ p, e = .ListComp v.1 v.2.1 v.2.2 p := by cases e <;> first | (cases h; exact ⟨_, rfl⟩) | exact nos h

noncomputable def cNone : Const → Bool
  | .none => true
  | _ => false
noncomputable def cBool (b : Bool) : Const → Bool
  | .bool b' => b == b'
  | _ => false
noncomputable def cInt (i : Int) : Const → Bool
  | .int j => i == j
  | _ => false
noncomputable def cStr (l : List Nat) : Const → Bool
  | .str x => cs x == l
  | _ => false
theorem cNone_eq {v : Const} (h : cNone v = true) : v = .none := by cases v <;> first | rfl | cases h
theorem cBool_eq {b : Bool} {v : Const} (h : cBool b v = true) : v = .bool b := by cases v <;> first | (rw [eq_of_beq (show (b == _) = true from h)]) | cases h
theorem cInt_eq {i : Int} {v : Const} (h : cInt i v = true) : v = .int i := by cases v <;> first | (rw [eq_of_beq (show (i == _) = true from h)]) | cases h
theorem cStr_eq {l : List Nat} {v : Const} (h : cStr l v = true) : ∃ x, v = .str x ∧ cs x = l := by cases v <;> first | exact ⟨_, rfl, eq_of_beq h⟩ | cases h

/-- the rest of an and, of an or -/
noncomputable def restB (o : BoolOp) (p : Pos) (y : Expr) : List Expr → Expr
  | [] => y
  | r :: rs => .BoolOp o (y :: r :: rs) p

noncomputable def call1C (kd : Kd) (g : Str) (m : Expr → Bool) (e : Expr) : Bool := onS (asCall e) fun v => onS (asName v.1) fun f => onS (one v.2.1) fun x => v.2.2.1.isEmpty && isGl kd f g && m x
noncomputable def methC (a : Str) (m : Expr → List Expr → Bool) (e : Expr) : Bool := onS (asCall e) fun v => onS (asAttr v.1) fun w => v.2.2.1.isEmpty && w.2.1 == a && w.2.2.endLine == v.2.2.2.line && m w.1 v.2.1
noncomputable def cmp1 (op : CmpOp) (m : Expr → Expr → Bool) (e : Expr) : Bool := onS (asCmp e) fun v => onS (one v.2.1) fun o => onS (one v.2.2) fun r => op == o && m v.1 r

mutual
noncomputable def mE (q : Bool) (ft : Nat → Option Str) (nm : List Str) (kd : Kd) : CE → Expr → Bool
  | .none, e => onS (asConst e) cNone
  | .bool b, e => onS (asConst e) (cBool b)
  | .int i, e => onS (asConst e) (cInt i)
  | .str l, e => onS (asConst e) (cStr l)
  | .var i, e => onS (asName e) (isLoc nm kd i)
  | .mv i, e => onS (asName e) (isLoc nm kd i)
  | .glob k, e => onS (asName e) fun x => onS (gtab k) fun y => isGl kd x y.1
  | .bin op a b, e => onS (asBin e) fun v => op == v.2.1 && mE q ft nm kd a v.1 && mE q ft nm kd b v.2.2
  | .neg a, e => onS (asUn e) fun v => v.1 == .USub && mE q ft nm kd a v.2
  | .not a, e => onS (asUn e) fun v => v.1 == .Not && mE q ft nm kd a v.2
  | .and a b, e => onS (asBool e) fun v => onS (more v.2.1) fun w => v.1 == .And && mE q ft nm kd a w.1 && mE q ft nm kd b (restB .And v.2.2 w.2.1 w.2.2)
  | .or a b, e => onS (asBool e) fun v => onS (more v.2.1) fun w => v.1 == .Or && mE q ft nm kd a w.1 && mE q ft nm kd b (restB .Or v.2.2 w.2.1 w.2.2)
  | .cmp op a b, e => cmp1 op (fun l r => mE q ft nm kd a l && mE q ft nm kd b r) e
  | .chain2 a o1 b o2 c, e => onS (asCmp e) fun v => onS (two v.2.1) fun o => onS (two v.2.2) fun r => o1 == o.1 && o2 == o.2 && mE q ft nm kd a v.1 && mE q ft nm kd b r.1 && mE q ft nm kd c r.2
  | .isNone a, e => cmp1 .Is (fun l r => mE q ft nm kd a l && onS (asConst r) cNone) e
  | .isNotNone a, e => cmp1 .IsNot (fun l r => mE q ft nm kd a l && onS (asConst r) cNone) e
  | .eqNil i, e => cmp1 .Eq (fun l r => onS (asName l) (isLoc nm kd i) && onS (asList r) List.isEmpty) e
  | .neNil i, e => cmp1 .NotEq (fun l r => onS (asName l) (isLoc nm kd i) && onS (asList r) List.isEmpty) e
  | .inOpen a, e => cmp1 .In (fun l r => mE q ft nm kd a l && onS (asName r) fun x => isGl kd x "OPENING") e
  | .getOpen a, e => onS (asSub e) fun v => (onS (asName v.1) fun x => isGl kd x "OPENING") && mE q ft nm kd a v.2
  | .idx a i, e => onS (asSub e) fun v => mE q ft nm kd a v.1 && mE q ft nm kd i v.2
  | .idxv x i, e => onS (asSub e) fun v => onS (asName v.1) (isLoc nm kd x) && mE q ft nm kd i v.2
  | .slc a lo hi, e => onS (asSub e) fun v => onS (asSlice v.2) fun w => w.2.2.isNone && mE q ft nm kd a v.1 && mO q ft nm kd lo w.1 && mO q ft nm kd hi w.2.1
  | .tup es, e => onS (asTup e) fun l => mEs q ft nm kd es l && decide (l.length ≤ 1000)
  | .lst es, e => onS (asList e) fun l => mEs q ft nm kd es l && decide (l.length ≤ 1000)
  | .call k es, e => onS (asCall e) fun v => onS (asName v.1) fun f => v.2.2.1.isEmpty && !v.2.1.isEmpty && (onS (ft k) fun y => isGl kd f y) && mEs q ft nm kd es v.2.1
  | .len a, e => call1C kd "len" (mE q ft nm kd a) e
  | .lenv i, e => call1C kd "len" (fun x => onS (asName x) (isLoc nm kd i)) e
  | .ord a, e => call1C kd "ord" (mE q ft nm kd a) e
  | .abs a, e => call1C kd "abs" (mE q ft nm kd a) e
  | .toInt a, e => call1C kd "int" (mE q ft nm kd a) e
  | .list a, e => call1C kd "list" (mE q ft nm kd a) e
  | .isinst a t, e => onS (asCall e) fun v => onS (asName v.1) fun f => onS (two v.2.1) fun x => v.2.2.1.isEmpty && isGl kd f "isinstance" && (onS (asName x.2) fun y => isGl kd y (tyName t)) && mE q ft nm kd a x.1
  | .pop i, e => methC "pop" (fun v args => onS (asName v) (isLoc nm kd i) && args.isEmpty) e
  | .splitNl a, e => methC "split" (fun v args => plainR v && mE q ft nm kd a v && onS (one args) fun y => onS (asConst y) (cStr [10])) e
  | .find a b, e => methC "find" (fun v args => plainR v && mE q ft nm kd a v && onS (one args) (mE q ft nm kd b)) e
  | .join a b, e => methC "join" (fun v args => plainR v && mE q ft nm kd a v && onS (one args) (mE q ft nm kd b)) e
  | .comp n elt it cond, e => onS (asComp e) fun v => onS (one v.2.1) fun g => onS (asName g.target) fun x =>
      g.is_async == 0 && q && n == nm.length && compOk v.2.2 kd x && notEnum it && mI q ft nm kd it g.iter && mC false ft (maskN x nm ++ [x]) (relabelK v.2.2.names kd) cond g.ifs && mE false ft (maskN x nm ++ [x]) (relabelK v.2.2.names kd) elt v.1 && ((maskN x nm).all fun y => (relabelK v.2.2.names kd).lookup y != some .local) && (relabelK v.2.2.names kd).lookup ("" : Str) == none
noncomputable def mO (q : Bool) (ft : Nat → Option Str) (nm : List Str) (kd : Kd) : CEo → Option Expr → Bool
  | .no, e => e.isNone
  | .yes c, e => onS e (mE q ft nm kd c)
noncomputable def mC (q : Bool) (ft : Nat → Option Str) (nm : List Str) (kd : Kd) : CEo → List Expr → Bool
  | .no, es => es.isEmpty
  | .yes c, es => onS (one es) (mE q ft nm kd c)
noncomputable def mEs (q : Bool) (ft : Nat → Option Str) (nm : List Str) (kd : Kd) : CEs → List Expr → Bool
  | .nil, [] => true
  | .cons c r, e :: es => mE q ft nm kd c e && mEs q ft nm kd r es
  | _, _ => false
noncomputable def mI (q : Bool) (ft : Nat → Option Str) (nm : List Str) (kd : Kd) : CI → Expr → Bool
  | .data c, e => mE q ft nm kd c e
  | .range c, e => call1C kd "range" (mE q ft nm kd c) e
  | .enum c, e => call1C kd "enumerate" (mE q ft nm kd c) e
end

noncomputable def mNames (nm : List Str) (kd : Kd) : List Nat → List Expr → Bool
  | [], [] => true
  | i :: is, .Name x _ :: es => isLoc nm kd i x && mNames nm kd is es
  | _, _ => false
noncomputable def mT (nm : List Str) (kd : Kd) : Tg → Expr → Bool
  | .one i, .Name x _ => isLoc nm kd i x
  | .many is, .Tuple ts _ _ => mNames nm kd is ts
  | _, _ => false

noncomputable def isMany : Tg → Bool
  | .many _ => true
  | _ => false

noncomputable def asAssign : Stmt → Option (Expr × Expr)
  | .Assign [t] v _ => some (t, v)
  | _ => none
noncomputable def asExprS : Stmt → Option Expr
  | .Expr e _ => some e
  | _ => none
noncomputable def asRet : Stmt → Option Expr
  | .Return (some e) _ => some e
  | _ => none
noncomputable def asIf : Stmt → Option (Expr × List Stmt × List Stmt)
  | .If t a b _ => some (t, a, b)
  | _ => none
noncomputable def asFor : Stmt → Option (Expr × Expr × List Stmt)
  | .For t i b [] _ => some (t, i, b)
  | _ => none
noncomputable def isRaise : Stmt → Bool
  | .Raise (some _) none _ => true
  | _ => false
theorem asAssign_eq {t : Stmt} {v : Expr × Expr} (h : asAssign t = some v) : ∃ p, t = .Assign [v.1] v.2 p := by
  cases t with
  | Assign ts w p => cases ts with
    | nil => exact nos h
    | cons x r => cases r with
      | nil => cases h; exact ⟨_, rfl⟩
      | cons _ _ => exact nos h
  | _ => exact nos h
theorem asExprS_eq {t : Stmt} {v : Expr} (h : asExprS t = some v) : ∃ p, t = .Expr v p := by cases t <;> first | (cases h; exact ⟨_, rfl⟩) | exact nos h
theorem asRet_eq {t : Stmt} {v : Expr} (h : asRet t = some v) : ∃ p, t = .Return (some v) p := by
  cases t with
  | Return o p => cases o with
    | none => exact nos h
    | some e => cases h; exact ⟨_, rfl⟩
  | _ => exact nos h
theorem asIf_eq {t : Stmt} {v : Expr × List Stmt × List Stmt} (h : asIf t = some v) : ∃ p, t = .If v.1 v.2.1 v.2.2 p := by cases t <;> first | (cases h; exact ⟨_, rfl⟩) | exact nos h
theorem asFor_eq {t : Stmt} {v : Expr × Expr × List Stmt} (h : asFor t = some v) : ∃ p, t = .For v.1 v.2.1 v.2.2 [] p := by
  cases t with
  | For a b c d p => cases d with
    | nil => cases h; exact ⟨_, rfl⟩
    | cons _ _ => exact nos h
  | _ => exact nos h

mutual
noncomputable def mS (q : Bool) (ft : Nat → Option Str) (nm : List Str) (kd : Kd) : CS → Stmt → Bool
  | .assign i c, t => onS (asAssign t) fun v => onS (asName v.1) (isLoc nm kd i) && mE q ft nm kd c v.2
  | .unpack is c, t => onS (asAssign t) fun v => onS (asTup v.1) (mNames nm kd is) && (asName v.2).isSome && mE q ft nm kd c v.2
  | .setidx x k w, t => onS (asAssign t) fun v => onS (asSub v.1) fun u => onS (asName u.1) (isLoc nm kd x) && mE q ft nm kd k u.2 && mE q ft nm kd w v.2 && notComp v.2
  | .append x c, t => onS (asExprS t) fun e => methC "append" (fun v args => onS (asName v) (isLoc nm kd x) && onS (one args) (mE q ft nm kd c)) e
  | .drop c, t => onS (asExprS t) fun e => mE q ft nm kd c e && notComp e
  | .ret c, t => onS (asRet t) (mE q ft nm kd c)
  | .iff c a b, t => onS (asIf t) fun v => mE q ft nm kd c v.1 && mSs q ft nm kd a v.2.1 && mSs q ft nm kd b v.2.2
  | .loop g it body, t => onS (asFor t) fun v => mT nm kd g v.1 && mI q ft nm kd it v.2.1 && mSs q ft nm kd body v.2.2 && (notEnum it || isMany g)
  | .raise _, t => isRaise t
noncomputable def mSs (q : Bool) (ft : Nat → Option Str) (nm : List Str) (kd : Kd) : CSs → List Stmt → Bool
  | .nil, [] => true
  | .cons c r, s :: ss => mS q ft nm kd c s && mSs q ft nm kd r ss
  | _, _ => false
end

end Mine
end

section
open PySem PySem.Calls PyProof.Rows
set_option Elab.async false
namespace Mine

/-! how a state of the machine stands for a state of the small language -/

/-- the text's top, as its run left it -/
structure Tp where
  prog : Program
  w : World
  GT : GM
  mg : Str → Option Value
  mb : Str → Option Value

structure Cx where
  T : Tp
  A : Around
  env : Env
  nm : List Str
  priv : List Addr
  prot : GM
  G₀ : GM
  lo : Nat
  s₀ : Shared

noncomputable def Acc (env : Env) (x : Str) : Prop := env.kindOf x = some .local ∨ env.kindOf x = some .cell

noncomputable def Holds (env : Env) (h : Heap) (x : Str) (v : Value) : Prop :=
  (env.kindOf x = some .local ∧ ∃ m, h.Ns env.locals m ∧ m x = some v) ∨
  (env.kindOf x = some .cell ∧ ∃ c, env.cells.lookup x = some c ∧ h.IsCell c (some v))

noncomputable def OwnL (G : GM) (h : Heap) (a : Addr) (xs : List PyData) : Prop := ∃ vs, h.PlainList a vs ∧ RepAll G vs.toList xs

noncomputable def RepF (G : GM) (h : Heap) (a : Addr) (v : Value) : F → Prop
  | .val d => Rep G v d
  | .own xs => v = .ref a ∧ OwnL G h a xs

noncomputable def FreeA (cx : Cx) (G : GM) (a : Addr) : Prop := a ∉ cx.priv ∧ G a = none ∧ cx.prot a = none ∧ cx.lo ≤ a

noncomputable def IsL (h : Heap) (a : Addr) : Prop := ∃ vs, h.IsList a vs
theorem IsL.there {h : Heap} {a : Addr} (q : IsL h a) : (h.get? a).isSome = true := by
  obtain ⟨vs, o, ho, _⟩ := q; rw [ho]; rfl
theorem IsL.at {h h' : Heap} {a : Addr} (q : IsL h a) (e : ∀ o, h.get? a = some o → h'.get? a = some o) : IsL h' a := let ⟨vs, l⟩ := q; ⟨vs, l.at e⟩

structure Vals (cx : Cx) (G : GM) (st : St) (x : Option Addr) (h : Heap) (ad : Nat → Addr) : Prop where
  rep : ∀ i f y, slot st i = some f → cx.nm[i]? = some y → Acc cx.env y → ∃ v, Holds cx.env h y v ∧ RepF G h (ad i) v f
  free : ∀ i xs, slot st i = some (.own xs) → FreeA cx G (ad i) ∧ IsL h (ad i)
  inj : ∀ i j xs ys, slot st i = some (.own xs) → slot st j = some (.own ys) → ad i = ad j → i = j
  ex : ∀ a, x = some a → (FreeA cx G a ∧ IsL h a) ∧ ∀ i xs, slot st i = some (.own xs) → ad i ≠ a

noncomputable def SeqO (o : Obj) : Prop := ∃ vs n, o.data = .seq vs n

structure Sim (cx : Cx) (G : GM) (st : St) (x : Option Addr) (s : Shared) : Prop where
  shr : ∃ h tk, s = { cx.s₀ with heap := h, toks := tk }
  keep : cx.prot.In s.heap
  gle : cx.G₀.le G
  gin : G.In s.heap
  gnew : ∀ b o, G b = some o → cx.G₀ b = some o ∨ (cx.lo ≤ b ∧ SeqO o)
  size : cx.lo ≤ s.heap.objs.size
  priv : ∀ p ∈ cx.priv, G p = none ∧ cx.lo ≤ p ∧ (s.heap.get? p).isSome = true
  ns : ∃ m, s.heap.Ns cx.env.locals m
  cells : ∀ y c, (y, c) ∈ cx.env.cells → ∃ v, s.heap.IsCell c v
  vals : ∃ ad, Vals cx G st x s.heap ad

noncomputable def RepR (G : GM) (h : Heap) (v : Value) (x : Option Addr) : F → Prop
  | .val d => x = none ∧ Rep G v d
  | .own xs => ∃ a, x = some a ∧ v = .ref a ∧ OwnL G h a xs

noncomputable def Ext (h h' : Heap) : Prop := ∀ b o, h.get? b = some o → h'.get? b = some o

theorem Ext.size {h h' : Heap} (e : h.objs.size ≤ h'.objs.size) : h.objs.size ≤ h'.objs.size := e
theorem Ext.some {h h' : Heap} (e : Ext h h') {a : Addr} (q : (h.get? a).isSome = true) : (h'.get? a).isSome = true := by
  obtain ⟨o, ho⟩ := Option.isSome_iff_exists.mp q
  rw [e a o ho]; rfl
theorem ext_push (h : Heap) (o : Obj) : Ext h (h.push o) := fun _ _ e => Heap.get?_push_of_some o e
theorem none_at (h : Heap) {n : Addr} (q : h.objs.size ≤ n) : h.get? n = none := by
  cases e : h.get? n with
  | none => rfl
  | some o => exact absurd (Heap.lt_size e) (Nat.not_lt.mpr q)

theorem Holds.ext {env : Env} {h h' : Heap} (e : Ext h h') {x : Str} {v : Value} (q : Holds env h x v) : Holds env h' x v := by
  rcases q with ⟨k, m, hn, hm⟩ | ⟨k, c, hc, o, ho, hd⟩
  · exact .inl ⟨k, m, hn.keeps e, hm⟩
  · exact .inr ⟨k, c, hc, o, e _ _ ho, hd⟩
theorem isList_ext {h h' : Heap} {a : Addr} {vs : Array Value} (q : h.IsList a vs) (e : ∀ o, h.get? a = some o → h'.get? a = some o) : h'.IsList a vs := q.at e
theorem OwnL.ext {G G' : GM} {h h' : Heap} {a : Addr} {xs : List PyData} (q : OwnL G h a xs) (l : G.le G') (e : ∀ o, h.get? a = some o → h'.get? a = some o) : OwnL G' h' a xs :=
  let ⟨vs, hl, hr⟩ := q; ⟨vs, hl.at e, hr.mono l⟩
theorem RepF.ext {G G' : GM} {h h' : Heap} {a : Addr} {v : Value} {f : F} (q : RepF G h a v f) (l : G.le G') (e : ∀ o, h.get? a = some o → h'.get? a = some o) : RepF G' h' a v f := by
  cases f with
  | val d => exact Rep.mono l q
  | own xs => exact ⟨q.1, q.2.ext l e⟩
theorem RepR.ext {G G' : GM} {h h' : Heap} {v : Value} {x : Option Addr} {f : F} (q : RepR G h v x f) (l : G.le G') (e : Ext h h') : RepR G' h' v x f := by
  cases f with
  | val d => exact ⟨q.1, q.2.mono l⟩
  | own xs => obtain ⟨a, h1, h2, h3⟩ := q; exact ⟨a, h1, h2, h3.ext l (e a)⟩
theorem OwnL.some {G : GM} {h : Heap} {a : Addr} {xs : List PyData} (q : OwnL G h a xs) : (h.get? a).isSome = true := by
  obtain ⟨vs, ⟨n, ho⟩, _⟩ := q; rw [ho]; rfl

section
variable {cx : Cx} {G : GM} {st : St} {x : Option Addr} {s : Shared}

theorem Sim.toks (M : Sim cx G st x s) (n : Nat) : Sim cx G st x { s with toks := n } := by
  obtain ⟨h, tk, e⟩ := M.shr
  exact ⟨⟨h, n, by rw [e]⟩, M.keep, M.gle, M.gin, M.gnew, M.size, M.priv, M.ns, M.cells, M.vals⟩

theorem Sim.grow (M : Sim cx G st x s) {h' : Heap} (tk : Nat) (e : Ext s.heap h') (z : s.heap.objs.size ≤ h'.objs.size) : Sim cx G st x { s with heap := h', toks := tk } := by
  obtain ⟨h, t, q⟩ := M.shr
  obtain ⟨ad, V⟩ := M.vals
  obtain ⟨m, hm⟩ := M.ns
  refine ⟨⟨h', tk, by rw [q]⟩, fun b o y => e _ _ (M.keep b o y), M.gle, fun b o y => e _ _ (M.gin b o y), M.gnew, Nat.le_trans M.size z, fun p hp => ?_, ⟨m, hm.keeps e⟩, fun y c hc => ?_, ad, ?_, ?_, V.inj, ?_⟩
  · have P := M.priv p hp; exact ⟨P.1, P.2.1, e.some P.2.2⟩
  · obtain ⟨v, o, ho, hd⟩ := M.cells y c hc; exact ⟨v, o, e _ _ ho, hd⟩
  · intro i f y h1 h2 h3
    obtain ⟨v, hv, hr⟩ := V.rep i f y h1 h2 h3
    exact ⟨v, hv.ext e, hr.ext (GM.le_refl _) (e _)⟩
  · intro i xs h1; have P := V.free i xs h1; exact ⟨P.1, P.2.at (e _)⟩
  · intro a ha; have P := V.ex a ha; exact ⟨⟨P.1.1, P.1.2.at (e _)⟩, P.2⟩

/-- a new object, put by -/
theorem Sim.addG (M : Sim cx G st none s) {h' : Heap} {n : Addr} {o : Obj} (tk : Nat) (e : Ext s.heap h') (z : s.heap.objs.size ≤ h'.objs.size) (hn : s.heap.objs.size ≤ n) (ho : h'.get? n = some o) (hq : SeqO o) :
    G.le (G.put n o) ∧ Sim cx (G.put n o) st none { s with heap := h', toks := tk } := by
  have M' := M.grow tk e z
  have gn : G n = none := by
    cases q : G n with
    | none => rfl
    | some o' => have := M.gin n o' q; rw [none_at _ hn] at this; cases this
  have ne : ∀ {a : Addr}, (s.heap.get? a).isSome = true → a ≠ n := fun {a} q r => by rw [r, none_at _ hn] at q; cases q
  have l : G.le (G.put n o) := GM.le_put gn
  obtain ⟨ad, V⟩ := M.vals
  obtain ⟨ad', V'⟩ := M'.vals
  refine ⟨l, M'.shr, M'.keep, GM.le_trans M'.gle l, M'.gin.put ho, fun b o' q => ?_, M'.size, fun p hp => ?_, M'.ns, M'.cells, ad, ?_, ?_, V.inj, fun a ha => by cases ha⟩
  · unfold GM.put at q; split at q
    · rename_i r; subst r; cases q; exact .inr ⟨Nat.le_trans M.size hn, hq⟩
    · exact M'.gnew b o' q
  · have P := M'.priv p hp; exact ⟨by rw [GM.put_ne (ne (M.priv p hp).2.2)]; exact P.1, P.2⟩
  · intro i f y h1 h2 h3
    obtain ⟨v, hv, hr⟩ := V.rep i f y h1 h2 h3
    exact ⟨v, hv.ext e, hr.ext l (e _)⟩
  · intro i xs h1
    obtain ⟨⟨p1, p2, p3, p4⟩, p5⟩ := V.free i xs h1
    exact ⟨⟨p1, by rw [GM.put_ne (ne p5.there)]; exact p2, p3, p4⟩, p5.at (e _)⟩

/-- a new object, one's own -/
theorem Sim.fresh (M : Sim cx G st none s) {h' : Heap} {n : Addr} (tk : Nat) (e : Ext s.heap h') (z : s.heap.objs.size ≤ h'.objs.size) (hn : s.heap.objs.size ≤ n) (ho : IsL h' n) :
    Sim cx G st (some n) { s with heap := h', toks := tk } := by
  have M' := M.grow tk e z
  obtain ⟨ad, V⟩ := M.vals
  obtain ⟨m, hm⟩ := M.ns
  have ne : ∀ {a : Addr}, (s.heap.get? a).isSome = true → a ≠ n := fun {a} q r => by rw [r, none_at _ hn] at q; cases q
  refine ⟨M'.shr, M'.keep, M'.gle, M'.gin, M'.gnew, M'.size, M'.priv, M'.ns, M'.cells, ad, ?_, ?_, V.inj, fun a ha => ?_⟩
  · intro i f y h1 h2 h3
    obtain ⟨v, hv, hr⟩ := V.rep i f y h1 h2 h3
    exact ⟨v, hv.ext e, hr.ext (GM.le_refl _) (e _)⟩
  · intro i xs h1; have P := V.free i xs h1; exact ⟨P.1, P.2.at (e _)⟩
  · cases ha
    refine ⟨⟨⟨fun q => ne (M.priv n q).2.2 rfl, ?_, ?_, Nat.le_trans M.size hn⟩, ho⟩, fun i xs h1 => ne (V.free i xs h1).2.there⟩
    · cases q : G n with
      | none => rfl
      | some o' => have := M.gin n o' q; rw [none_at _ hn] at this; cases this
    · cases q : cx.prot n with
      | none => rfl
      | some o' => have := M.keep n o' q; rw [none_at _ hn] at this; cases this

theorem Sim.freeze {a : Addr} {o : Obj} (M : Sim cx G st (some a) s) (ho : s.heap.get? a = some o) : G.le (G.put a o) ∧ Sim cx (G.put a o) st none s := by
  obtain ⟨ad, V⟩ := M.vals
  obtain ⟨⟨⟨f1, f2, f3, f4⟩, fL⟩, f5⟩ := V.ex a rfl
  have hq : SeqO o := by
    obtain ⟨vs, o', h1, _, n, h2⟩ := fL
    rw [ho] at h1; cases h1; exact ⟨vs, n, h2⟩
  have l : G.le (G.put a o) := GM.le_put f2
  refine ⟨l, M.shr, M.keep, GM.le_trans M.gle l, M.gin.put ho, fun b o' q => ?_, M.size, fun p hp => ?_, M.ns, M.cells, ad, ?_, ?_, V.inj, fun a ha => by cases ha⟩
  · unfold GM.put at q; split at q
    · rename_i r; subst r; cases q; exact .inr ⟨f4, hq⟩
    · exact M.gnew b o' q
  · have P := M.priv p hp; exact ⟨by rw [GM.put_ne (fun (r : p = a) => f1 (r ▸ hp))]; exact P.1, P.2⟩
  · intro i f y h1 h2 h3
    obtain ⟨v, hv, hr⟩ := V.rep i f y h1 h2 h3
    exact ⟨v, hv, hr.ext l fun _ e => e⟩
  · intro i xs h1
    obtain ⟨⟨p1, p2, p3, p4⟩, p5⟩ := V.free i xs h1
    exact ⟨⟨p1, by rw [GM.put_ne (f5 i xs h1)]; exact p2, p3, p4⟩, p5⟩

/-- any result, frozen -/
theorem Sim.frz {v : Value} {f : F} (M : Sim cx G st x s) (r : RepR G s.heap v x f) : ∃ G', G.le G' ∧ Sim cx G' st none s ∧ Rep G' v f.frz := by
  cases f with
  | val d => obtain ⟨rfl, hr⟩ := r; exact ⟨G, GM.le_refl _, M, hr⟩
  | own xs =>
    obtain ⟨a, rfl, rfl, vs, ⟨n, ho⟩, hr⟩ := r
    obtain ⟨l, M'⟩ := M.freeze ho
    exact ⟨_, l, M', .list (GM.put_self ..) rfl rfl (hr.mono l)⟩

theorem slot_set {st : St} {i j : Nat} {f : Option F} : slot (st.set i f) j = if i = j ∧ i < st.length then f else slot st j := by
  unfold slot
  rw [List.getElem?_set]
  split
  · rename_i h; subst h
    split
    · rename_i h; simp [h]
    · rename_i h; simp [h]
  · rename_i h; simp [h]

theorem slot_lt {st : St} {i : Nat} {f : F} (h : slot st i = some f) : i < st.length := by
  unfold slot at h
  rcases Nat.lt_or_ge i st.length with q | q
  · exact q
  · rw [List.getElem?_eq_none q] at h; cases h

/-- a name's own list is frozen -/
theorem Sim.frzVar {i : Nat} {xs : List PyData} {y : Str} (M : Sim cx G st none s) (hs : slot st i = some (.own xs)) (hy : cx.nm[i]? = some y) (ha : Acc cx.env y) :
    ∃ G' v, G.le G' ∧ Holds cx.env s.heap y v ∧ Rep G' v (.list xs) ∧ Sim cx G' (st.set i (some (.val (.list xs)))) none s := by
  obtain ⟨ad, V⟩ := M.vals
  obtain ⟨v, hv, rfl, vs, ⟨n, ho⟩, hr⟩ := V.rep i _ y hs hy ha
  obtain ⟨⟨f1, f2, f3, f4⟩, _⟩ := V.free i xs hs
  have l : G.le (G.put (ad i) { cls := .type "list", data := .seq vs n }) := GM.le_put f2
  have hrep : Rep (G.put (ad i) { cls := .type "list", data := .seq vs n }) (.ref (ad i)) (.list xs) := .list (GM.put_self ..) rfl rfl (hr.mono l)
  refine ⟨_, _, l, hv, hrep, M.shr, M.keep, GM.le_trans M.gle l, M.gin.put ho, fun b o' q => ?_, M.size, fun p hp => ?_, M.ns, M.cells, ad, ?_, ?_, ?_, fun a ha => by cases ha⟩
  · unfold GM.put at q; split at q
    · rename_i r; subst r; cases q; exact .inr ⟨f4, _, _, rfl⟩
    · exact M.gnew b o' q
  · have P := M.priv p hp; exact ⟨by rw [GM.put_ne (fun (r : p = ad i) => f1 (r ▸ hp))]; exact P.1, P.2⟩
  · intro j f y' h1 h2 h3
    rw [slot_set] at h1
    split at h1
    · rename_i q; obtain ⟨rfl, _⟩ := q; cases h1
      rw [hy] at h2; cases h2
      exact ⟨_, hv, hrep⟩
    · obtain ⟨v, hv, hr⟩ := V.rep j f y' h1 h2 h3
      exact ⟨v, hv, hr.ext l fun _ e => e⟩
  · intro j zs h1
    rw [slot_set] at h1
    split at h1
    · cases h1
    · rename_i q
      obtain ⟨⟨p1, p2, p3, p4⟩, p5⟩ := V.free j zs h1
      exact ⟨⟨p1, by rw [GM.put_ne (fun r => q ⟨V.inj i j _ _ hs h1 r.symm, slot_lt hs⟩)]; exact p2, p3, p4⟩, p5⟩
  · intro j k zs ws h1 h2 e
    rw [slot_set] at h1 h2
    split at h1
    · cases h1
    · split at h2
      · cases h2
      · exact V.inj j k _ _ h1 h2 e

/-- a name's own list is handed on, and the name forgotten -/
theorem Sim.mvVar {i : Nat} {xs : List PyData} {y : Str} (M : Sim cx G st none s) (hs : slot st i = some (.own xs)) (hy : cx.nm[i]? = some y) (ha : Acc cx.env y) :
    ∃ a, Holds cx.env s.heap y (.ref a) ∧ OwnL G s.heap a xs ∧ Sim cx G (st.set i none) (some a) s := by
  obtain ⟨ad, V⟩ := M.vals
  obtain ⟨v, hv, rfl, hO⟩ := V.rep i _ y hs hy ha
  refine ⟨ad i, hv, hO, M.shr, M.keep, M.gle, M.gin, M.gnew, M.size, M.priv, M.ns, M.cells, ad, ?_, ?_, ?_, fun a e => ?_⟩
  · intro j f y' h1 h2 h3
    rw [slot_set] at h1
    split at h1
    · cases h1
    · exact V.rep j f y' h1 h2 h3
  · intro j zs h1
    rw [slot_set] at h1
    split at h1
    · cases h1
    · exact V.free j zs h1
  · intro j k zs ws h1 h2 e
    rw [slot_set] at h1 h2
    split at h1
    · cases h1
    · split at h2
      · cases h2
      · exact V.inj j k _ _ h1 h2 e
  · cases e
    refine ⟨V.free i xs hs, fun j zs h1 r => ?_⟩
    rw [slot_set] at h1
    split at h1
    · cases h1
    · rename_i q
      exact q ⟨V.inj i j _ _ hs h1 r.symm, slot_lt hs⟩

/-- a name's own list is changed -/
theorem Sim.upd {i : Nat} {xs ys : List PyData} {y : Str} (M : Sim cx G st none s) (hs : slot st i = some (.own xs)) (hy : cx.nm[i]? = some y) (ha : Acc cx.env y) :
    ∃ a vs, Holds cx.env s.heap y (.ref a) ∧ s.heap.PlainList a vs ∧ RepAll G vs.toList xs ∧
      ∀ h' tk ws, h'.PlainList a ws → Heap.SameBut a s.heap h' → RepAll G ws.toList ys → Sim cx G (st.set i (some (.own ys))) none { s with heap := h', toks := tk } := by
  obtain ⟨ad, V⟩ := M.vals
  obtain ⟨v, hv, rfl, vs, hl, hr⟩ := V.rep i _ y hs hy ha
  refine ⟨ad i, vs, hv, hl, hr, fun h' tk ws hl' sb hr' => ?_⟩
  obtain ⟨⟨f1, f2, f3, f4⟩, f5⟩ := V.free i xs hs
  obtain ⟨oi, hoi, hci, ni, hdi⟩ := hl.isList
  have kp : ∀ b o, b ≠ ad i → s.heap.get? b = some o → h'.get? b = some o := fun b o hb e => (sb.2 b hb).trans e
  have ks : ∀ {b}, (s.heap.get? b).isSome = true → (h'.get? b).isSome = true := fun {b} e => by
    by_cases q : b = ad i
    · rw [q]; obtain ⟨n, ho⟩ := hl'; rw [ho]; rfl
    · rw [sb.2 b q]; exact e
  have hh : ∀ {y v}, Holds cx.env s.heap y v → Holds cx.env h' y v := fun {y v} q => by
    rcases q with ⟨k, m, ⟨o, es, ep, ho, hd, r⟩, hm⟩ | ⟨k, c, hc, o, ho, hd⟩
    · exact .inl ⟨k, m, ⟨o, es, ep, kp _ _ (fun e => by rw [e, hoi] at ho; cases ho; rw [hdi] at hd; cases hd) ho, hd, r⟩, hm⟩
    · exact .inr ⟨k, c, hc, o, kp _ _ (fun e => by rw [e, hoi] at ho; cases ho; rw [hdi] at hd; cases hd) ho, hd⟩
  obtain ⟨h₁, t₁, q₁⟩ := M.shr
  obtain ⟨m, hm⟩ := M.ns
  refine ⟨⟨h', tk, by rw [q₁]⟩, fun b o e => kp b o (fun q => by rw [q, f3] at e; cases e) (M.keep b o e), M.gle, fun b o e => kp b o (fun q => by rw [q, f2] at e; cases e) (M.gin b o e), M.gnew,
    by rw [show ({ s with heap := h', toks := tk } : Shared).heap.objs.size = s.heap.objs.size from sb.1]; exact M.size, fun p hp => ?_, ?_, fun y c hc => ?_, ad, ?_, ?_, ?_, fun a e => by cases e⟩
  · have P := M.priv p hp; exact ⟨P.1, P.2.1, ks P.2.2⟩
  · obtain ⟨o, es, ep, ho, hd, r⟩ := hm
    exact ⟨m, o, es, ep, kp _ _ (fun e => by rw [e, hoi] at ho; cases ho; rw [hdi] at hd; cases hd) ho, hd, r⟩
  · obtain ⟨v, o, ho, hd⟩ := M.cells y c hc
    exact ⟨v, o, kp _ _ (fun e => by rw [e, hoi] at ho; cases ho; rw [hdi] at hd; cases hd) ho, hd⟩
  · intro j f y' h1 h2 h3
    rw [slot_set] at h1
    split at h1
    · rename_i q; obtain ⟨rfl, _⟩ := q; cases h1
      rw [hy] at h2; cases h2
      exact ⟨_, hh hv, rfl, ws, hl', hr'⟩
    · rename_i q
      obtain ⟨v, hv, hr⟩ := V.rep j f y' h1 h2 h3
      refine ⟨v, hh hv, ?_⟩
      cases f with
      | val d => exact hr
      | own zs => exact ⟨hr.1, hr.2.ext (GM.le_refl _) fun o e => kp _ o (fun r => q ⟨V.inj i j _ _ hs h1 r.symm, slot_lt hs⟩) e⟩
  · intro j zs h1
    rw [slot_set] at h1
    split at h1
    · rename_i q; obtain ⟨rfl, _⟩ := q
      exact ⟨⟨f1, f2, f3, f4⟩, _, hl'.isList⟩
    · rename_i q
      have P := V.free j zs h1
      exact ⟨P.1, P.2.at fun o e => kp _ o (fun r => q ⟨V.inj i j _ _ hs h1 r.symm, slot_lt hs⟩) e⟩
  · intro j k zs ws h1 h2 e
    rw [slot_set] at h1 h2
    split at h1
    · rename_i q; obtain ⟨rfl, _⟩ := q
      split at h2
      · rename_i q'; obtain ⟨rfl, _⟩ := q'; rfl
      · exact V.inj _ _ _ _ hs h2 e
    · split at h2
      · rename_i q'; obtain ⟨rfl, _⟩ := q'; exact V.inj _ _ _ _ h1 hs e
      · exact V.inj j k _ _ h1 h2 e

/-- what the names hold stays while an expression is reckoned -/
noncomputable def Cx.pin (cx : Cx) (s : Shared) : Cx := { cx with prot := fun b => if (b == cx.env.locals || cx.env.cells.any fun c => c.2 == b) = true then s.heap.get? b else cx.prot b }

theorem mem_cells {l : List (Str × Addr)} {y : Str} {c : Addr} (h : l.lookup y = some c) : (l.any fun q => q.2 == c) = true := by
  have := mem_of_lookup h
  exact List.any_eq_true.mpr ⟨_, this, by simp⟩

theorem Sim.pin (M : Sim cx G st none s) : Sim (cx.pin s) G st none s := by
  obtain ⟨ad, V⟩ := M.vals
  refine ⟨M.shr, fun b o e => ?_, M.gle, M.gin, M.gnew, M.size, M.priv, M.ns, M.cells, ad, V.rep, fun i xs h => ?_, V.inj, fun a e => by cases e⟩
  · unfold Cx.pin at e; dsimp only at e; split at e
    · exact e
    · exact M.keep b o e
  · obtain ⟨⟨f1, f2, f3, f4⟩, f5⟩ := V.free i xs h
    refine ⟨⟨f1, f2, ?_, f4⟩, f5⟩
    unfold Cx.pin; dsimp only; split
    · rename_i q
      exfalso
      obtain ⟨vs, o, ho, hc', n, hd⟩ := f5
      simp only [Bool.or_eq_true, beq_iff_eq, List.any_eq_true] at q
      rcases q with q | ⟨c, hc1, hc2⟩
      · obtain ⟨m, o', es, ep, h1, h2, _⟩ := M.ns
        rw [q, h1] at ho; cases ho; rw [h2] at hd; cases hd
      · obtain ⟨v, o', h1, h2⟩ := M.cells c.1 c.2 hc1
        rw [← hc2, h1] at ho; cases ho; rw [h2] at hd; cases hd
    · exact f3

theorem Sim.unpin {s' : Shared} {G' : GM} {st' : St} {x : Option Addr} (M : Sim (cx.pin s) G' st' x s') (hk : cx.prot.In s.heap) : Sim cx G' st' x s' := by
  obtain ⟨ad, V⟩ := M.vals
  have sub : ∀ b, (cx.pin s).prot b = none → cx.prot b = none := fun b e => by
    cases q : cx.prot b with
    | none => rfl
    | some o =>
      unfold Cx.pin at e; dsimp only at e; split at e
      · have := hk b o q; rw [e] at this; cases this
      · rw [q] at e; cases e
  refine ⟨M.shr, fun b o e => M.keep b o ?_, M.gle, M.gin, M.gnew, M.size, M.priv, M.ns, M.cells, ad, V.rep, fun i xs h => ?_, V.inj, fun a e => ?_⟩
  · unfold Cx.pin; dsimp only; split
    · exact hk b o e
    · exact e
  · obtain ⟨⟨f1, f2, f3, f4⟩, f5⟩ := V.free i xs h
    exact ⟨⟨f1, f2, sub _ f3, f4⟩, f5⟩
  · obtain ⟨⟨⟨f1, f2, f3, f4⟩, f5⟩, f6⟩ := V.ex a e
    exact ⟨⟨⟨f1, f2, sub _ f3, f4⟩, f5⟩, f6⟩

theorem Holds.pin {s' : Shared} {G' : GM} {st' : St} {x : Option Addr} {z : Str} {v : Value} (h : Holds cx.env s.heap z v) (M : Sim (cx.pin s) G' st' x s') : Holds cx.env s'.heap z v := by
  rcases h with ⟨k, m, ⟨o, es, ep, ho, r⟩, hm⟩ | ⟨k, c, hc, o, ho, hd⟩
  · exact .inl ⟨k, m, ⟨o, es, ep, M.keep _ _ (by unfold Cx.pin; simp [ho]), r⟩, hm⟩
  · exact .inr ⟨k, c, hc, o, M.keep _ _ (by unfold Cx.pin; simp only [mem_cells hc, Bool.or_true, if_true]; exact ho), hd⟩

theorem Holds.uniq {env : Env} {h : Heap} {z : Str} {v u : Value} (p : Holds env h z v) (q : Holds env h z u) : v = u := by
  rcases p with ⟨k, m, ⟨o, es, ep, ho, hd, _, hf⟩, hm⟩ | ⟨k, c, hc, o, ho, hd⟩ <;> rcases q with ⟨k', m', ⟨o', es', ep', ho', hd', _, hf'⟩, hm'⟩ | ⟨k', c', hc', o', ho', hd'⟩
  · rw [ho] at ho'; cases ho'; rw [hd] at hd'; cases hd'
    rw [← hf, hf'] at hm; rw [hm] at hm'; exact Option.some.inj hm'
  · rw [k] at k'; cases k'
  · rw [k] at k'; cases k'
  · rw [hc] at hc'; cases hc'; rw [ho] at ho'; cases ho'; rw [hd] at hd'; cases hd'; rfl
end

end Mine
end

section
open PySem PySem.Calls PyProof.Rows
set_option Elab.async false
namespace Mine

structure Cx.Full (cx : Cx) : Prop where
  loc : cx.env.locals ∈ cx.priv
  cell : ∀ y c, (y, c) ∈ cx.env.cells → c ∈ cx.priv
  apart : ∀ y c, (y, c) ∈ cx.env.cells → c ≠ cx.env.locals
  inj : ∀ y z c, (y, c) ∈ cx.env.cells → (z, c) ∈ cx.env.cells → y = z
  nodup : ∀ (i j : Nat) (y : Str), cx.nm[i]? = some y → cx.nm[j]? = some y → i = j
  prv : ∀ p ∈ cx.priv, cx.prot p = none
  has : ∀ y, cx.env.kindOf y = some .cell → ∃ c, cx.env.cells.lookup y = some c

structure Cx.Half (cx : Cx) : Prop where
  loc : cx.env.locals ∈ cx.priv
  cell : ∀ y c, (y, c) ∈ cx.env.cells → c ∈ cx.priv
  has : ∀ y, cx.env.kindOf y = some .cell → ∃ c, cx.env.cells.lookup y = some c
theorem Cx.Full.half {cx : Cx} (F : cx.Full) : cx.Half := ⟨F.loc, F.cell, F.has⟩

section
variable {cx : Cx} {G : GM} {st : St} {x : Option Addr} {s : Shared}

theorem Sim.stored {v : Value} {f : F} {i : Nat} {y : Str} {h' : Heap} (M : Sim cx G st x s) (r : RepR G s.heap v x f) (hy : cx.nm[i]? = some y) (hi : i < st.length)
    (p : Addr) (hp : p ∈ cx.priv) (p2 : cx.prot p = none) (sb : Heap.SameBut p s.heap h') (hs : (h'.get? p).isSome = true) (hns : ∃ m, h'.Ns cx.env.locals m) (hcl : ∀ y c, (y, c) ∈ cx.env.cells → ∃ v, h'.IsCell c v)
    (hv : Acc cx.env y → Holds cx.env h' y v) (hoth : ∀ j z u, j ≠ i → cx.nm[j]? = some z → Holds cx.env s.heap z u → Holds cx.env h' z u) (tk : Nat) :
    Sim cx G (st.set i (some f)) none { s with heap := h', toks := tk } := by
  obtain ⟨ad, V⟩ := M.vals
  obtain ⟨h₁, t₁, q₁⟩ := M.shr
  obtain ⟨p1, p3, p4⟩ := M.priv p hp
  have kp : ∀ b o, b ≠ p → s.heap.get? b = some o → h'.get? b = some o := fun b o hb e => (sb.2 b hb).trans e
  have ks : ∀ {b}, (s.heap.get? b).isSome = true → (h'.get? b).isSome = true := fun {b} e => by
    by_cases q : b = p
    · rw [q]; exact hs
    · rw [sb.2 b q]; exact e
  have xf : ∀ a, x = some a → a ≠ p := fun a ha q => (V.ex a ha).1.1.1 (q ▸ hp)
  have wf : ∀ j xs, slot st j = some (.own xs) → ad j ≠ p := fun j xs h1 q => (V.free j xs h1).1.1 (q ▸ hp)
  refine ⟨⟨h', tk, by rw [q₁]⟩, fun b o e => kp b o (fun q => by rw [q, p2] at e; cases e) (M.keep b o e), M.gle, fun b o e => kp b o (fun q => by rw [q, p1] at e; cases e) (M.gin b o e), M.gnew,
    by rw [show ({ s with heap := h', toks := tk } : Shared).heap.objs.size = s.heap.objs.size from sb.1]; exact M.size, fun q hq => ?_, hns, hcl,
    (fun j => if j = i then x.getD 0 else ad j), ?_, ?_, ?_, fun a e => by cases e⟩
  · have P := M.priv q hq; exact ⟨P.1, P.2.1, ks P.2.2⟩
  · intro j g y' h1 h2 h3
    rw [slot_set] at h1
    split at h1
    · rename_i q; obtain ⟨rfl, _⟩ := q; cases h1
      rw [hy] at h2; cases h2
      refine ⟨v, hv h3, ?_⟩
      rw [if_pos rfl]
      cases f with
      | val d => exact r.2
      | own zs =>
        obtain ⟨a, rfl, rfl, hO⟩ := r
        exact ⟨rfl, hO.ext (GM.le_refl _) fun o e => kp a o (xf a rfl) e⟩
    · rename_i q
      have hj : j ≠ i := fun e => q ⟨e.symm, hi⟩
      obtain ⟨u, hu, hr⟩ := V.rep j g y' h1 h2 h3
      refine ⟨u, hoth j y' u hj h2 hu, ?_⟩
      rw [if_neg hj]
      cases g with
      | val d => exact hr
      | own zs => exact ⟨hr.1, hr.2.ext (GM.le_refl _) fun o e => kp _ o (wf j zs h1) e⟩
  · intro j zs h1
    rw [slot_set] at h1
    split at h1
    · rename_i q; obtain ⟨rfl, _⟩ := q; cases h1
      obtain ⟨a, rfl, rfl, hO⟩ := r
      have P := (V.ex a rfl).1
      rw [if_pos rfl]
      exact ⟨P.1, P.2.at fun o e => kp a o (xf a rfl) e⟩
    · rename_i q
      have hj : j ≠ i := fun e => q ⟨e.symm, hi⟩
      have P := V.free j zs h1
      rw [if_neg hj]
      exact ⟨P.1, P.2.at fun o e => kp _ o (wf j zs h1) e⟩
  · intro j k zs ws h1 h2 e
    rw [slot_set] at h1 h2
    split at h1
    · rename_i q; obtain ⟨rfl, _⟩ := q
      split at h2
      · rename_i q'; exact q'.1
      · rename_i q'
        have hk : k ≠ i := fun e => q' ⟨e.symm, hi⟩
        cases h1
        obtain ⟨a, rfl, rfl, hO⟩ := r
        rw [if_pos rfl, if_neg hk] at e
        exact absurd e.symm ((V.ex a rfl).2 k ws h2)
    · rename_i q
      have hj : j ≠ i := fun e => q ⟨e.symm, hi⟩
      split at h2
      · rename_i q'; obtain ⟨rfl, _⟩ := q'
        cases h2
        obtain ⟨a, rfl, rfl, hO⟩ := r
        rw [if_neg hj, if_pos rfl] at e
        exact absurd e ((V.ex a rfl).2 j zs h1)
      · rename_i q'
        have hk : k ≠ i := fun e => q' ⟨e.symm, hi⟩
        rw [if_neg hj, if_neg hk] at e
        exact V.inj j k _ _ h1 h2 e

theorem Sim.store {v : Value} {f : F} {i : Nat} {y : Str} {Q : Unit → Shared → Prop} {E : Value → Shared → Prop} {Md : Model} {A : Around} (C : cx.Full) (hk : cx.env.scope.kind = .function) (M : Sim cx G st x s)
    (r : RepR G s.heap v x f) (hy : cx.nm[i]? = some y) (ha : Acc cx.env y) (hi : i < st.length) (h : ∀ s', Sim cx G (st.set i (some f)) none s' → Q () s') : wpAny Md A (storeName cx.env y v) Q E s := by
  obtain ⟨m, hm⟩ := M.ns
  rcases ha with ha | ha
  · refine wpAny_storeName_local ha hm (fun h' hn hs => ?_) (by rw [hk]; rfl)
    refine h _ (M.stored r hy hi _ C.loc (C.prv _ C.loc) hs ?_ ⟨_, hn⟩ (fun z c hc => ?_) (fun _ => .inl ⟨ha, _, hn, by simp⟩) (fun j z u hj hz hu => ?_) _)
    · obtain ⟨o, _, _, ho, _⟩ := hn; rw [ho]; rfl
    · obtain ⟨w, hw⟩ := M.cells z c hc; exact ⟨w, hw.sameBut hs (C.apart z c hc)⟩
    · rcases hu with ⟨k, m', hn', hm'⟩ | ⟨k, c, hc, hv⟩
      · have e : z ≠ y := fun e => hj (C.nodup j i y (e ▸ hz) hy)
        refine .inl ⟨k, _, hn, ?_⟩
        simp only [if_neg e]
        obtain ⟨o, es, ep, h1, h2, h3, h4⟩ := hm
        obtain ⟨o', es', ep', g1, g2, g3, g4⟩ := hn'
        rw [h1] at g1; cases g1; rw [h2] at g2; cases g2
        rw [← hm', ← g4, h4]
      · exact .inr ⟨k, c, hc, hv.sameBut hs (C.apart z c (mem_of_lookup hc))⟩
  · obtain ⟨c, hc₀⟩ := C.has y ha
    have hc := mem_of_lookup hc₀
    obtain ⟨v₀, hv₀⟩ := M.cells y c hc
    refine wpAny_storeName_cell hk ha hc₀ hv₀ fun h' hv' hs => ?_
    refine h _ (M.stored r hy hi c (C.cell y c hc) (C.prv _ (C.cell y c hc)) hs ?_ ⟨m, hm.sameBut hs (Ne.symm (C.apart y c hc))⟩ (fun z c' hc' => ?_) (fun _ => .inr ⟨ha, c, hc₀, hv'⟩) (fun j z u hj hz hu => ?_) s.toks)
    · obtain ⟨o, ho, _⟩ := hv'; rw [ho]; rfl
    · by_cases e : c' = c
      · subst e; exact ⟨_, hv'⟩
      · obtain ⟨w, hw⟩ := M.cells z c' hc'; exact ⟨w, hw.sameBut hs e⟩
    · rcases hu with ⟨k, m', hn', hm'⟩ | ⟨k, c', hc', hw⟩
      · exact .inl ⟨k, m', hn'.sameBut hs (Ne.symm (C.apart y c hc)), hm'⟩
      · refine .inr ⟨k, c', hc', hw.sameBut hs fun e => hj ?_⟩
        have := C.inj z y c (e ▸ mem_of_lookup hc') hc
        exact C.nodup j i y (this ▸ hz) hy
end

end Mine
end

section
open PySem PySem.Calls PyProof.Rows
set_option Elab.async false
set_option linter.unusedVariables false
namespace Mine

noncomputable def Fly (_ : Cx) (_ : Nat) (_ : Addr) (_ : Shared) : Prop := False

noncomputable def Tri (cx : Cx) {α β : Type} (Rl : GM → Heap → α → Option Addr → β → Prop) (r : R (β × St)) (t : Sem α) (G : GM) (s : Shared) : Prop :=
  ∀ (Q : α → Shared → Prop) (E : Value → Shared → Prop), r ≠ .stuck →
    (∀ b st', r = .ok (b, st') → ∀ G' s' v x, G.le G' → Sim cx G' st' x s' → Rl G' s'.heap v x b → Q v s') →
    (∀ k st', r = .exc k st' → ∀ G' s' e, G.le G' → Sim cx G' st' none s' → Fly cx k e s' → E (.ref e) s') →
    wpAny (model cx.T.prog cx.T.w) cx.A t Q E s

noncomputable def RF (G : GM) (h : Heap) (v : Value) (x : Option Addr) (f : F) : Prop := RepR G h v x f
noncomputable def RD (G : GM) (_ : Heap) (v : Value) (x : Option Addr) (d : PyData) : Prop := x = none ∧ Rep G v d
noncomputable def RB (_ : GM) (_ : Heap) (v : Bool) (x : Option Addr) (b : Bool) : Prop := x = none ∧ v = b
noncomputable def RV (_ : GM) (_ : Heap) (v : Value) (x : Option Addr) (b : Bool) : Prop := x = none ∧ v = .bool b
noncomputable def RL (G : GM) (_ : Heap) (vs : List Value) (x : Option Addr) (ds : List PyData) : Prop := x = none ∧ RepAll G vs ds

section
variable {cx : Cx} {α β γ δ : Type} {Rl : GM → Heap → α → Option Addr → β → Prop} {Rl' : GM → Heap → γ → Option Addr → δ → Prop} {r : R (β × St)} {t : Sem α} {G : GM} {s : Shared}

/-- the first of two steps -/
theorem Tri.seq (h : Tri cx Rl r t G s) {f : β × St → R (δ × St)} {Q : α → Shared → Prop} {E : Value → Shared → Prop} (ns : r.bind f ≠ .stuck)
    (hex : ∀ k st', r.bind f = .exc k st' → ∀ G' s' e, G.le G' → Sim cx G' st' none s' → Fly cx k e s' → E (.ref e) s')
    (hok : ∀ b st', r = .ok (b, st') → ∀ G' s' v x, G.le G' → Sim cx G' st' x s' → Rl G' s'.heap v x b → f (b, st') ≠ .stuck →
      (∀ k st'', f (b, st') = .exc k st'' → ∀ G'' s'' e, G'.le G'' → Sim cx G'' st'' none s'' → Fly cx k e s'' → E (.ref e) s'') → Q v s') :
    wpAny (model cx.T.prog cx.T.w) cx.A t Q E s := by
  refine h Q E (fun e => ns (by rw [e]; rfl)) (fun b st' e G' s' v x l M q => ?_) (fun k st' e G' s' e' l M q => hex k st' (by rw [e]; rfl) G' s' e' l M q)
  have eq : r.bind f = f (b, st') := by rw [e]; rfl
  exact hok b st' e G' s' v x l M q (eq ▸ ns) fun k st'' e'' G'' s'' e' l' M' q' => hex k st'' (eq.trans e'') G'' s'' e' (GM.le_trans l l') M' q'

theorem Tri.mono {r' : R (β × St)} (h : Tri cx Rl r t G s) (e : r = r') : Tri cx Rl r' t G s := e ▸ h
end

structure Cx.Ok (cx : Cx) : Prop where
  kind : cx.env.scope.kind = .function
  glob : cx.env.globals = mainGlobals
  bltn : cx.env.builtins = builtinsNs
  top : cx.T.GT.le cx.G₀
  hand : cx.A.handled = none
  units : cx.A.units + 200 < cLine
  depth : cx.A.depth + 20 < recursionLimit

noncomputable def biTab : List (Str × Value) := [("len", .builtin "len"), ("ord", .builtin "ord"), ("isinstance", .builtin "isinstance"), ("abs", .builtin "abs"), ("int", .type "int"), ("list", .type "list"),
  ("range", .type "range"), ("enumerate", .type "enumerate"), ("str", .type "str"), ("bool", .type "bool"), ("tuple", .type "tuple")]

structure Tp.Ok (T : Tp) : Prop where
  g : ∀ h, T.GT.In h → h.Ns mainGlobals T.mg
  b : ∀ h, T.GT.In h → h.Ns builtinsNs T.mb
  lim : ∀ h, T.GT.In h → h.NoLimit
  con : ∀ k x d, gtab k = some (x, d) → ∃ v, T.mg x = some v ∧ Rep (fun _ => none) v d
  bi : ∀ x v, biTab.lookup x = some v → T.mg x = none ∧ T.mb x = some v
  opn : ∃ a m, T.mg "OPENING" = some (.ref a) ∧ (a == sysModules) = false ∧ (∀ h, T.GT.In h → h.MapOf (strKind T.prog T.w) a m) ∧
    ∀ x, (∀ y, openF x = some y → ∃ t, m x = some (.str y t)) ∧ (openF x = none → m x = none)

/-- an expression is what the term says -/
noncomputable def SE (Γ : Nat → Fn) (cx : Cx) (c : CE) (e : Expr) : Prop := ∀ st G s, Sim cx G st none s → Tri cx RF (ev Γ c st) (eval e cx.env) G s
noncomputable def SD (Γ : Nat → Fn) (cx : Cx) (c : CE) (e : Expr) : Prop := ∀ st G s, Sim cx G st none s → Tri cx RD (toD (ev Γ c st)) (eval e cx.env) G s
noncomputable def SV (Γ : Nat → Fn) (cx : Cx) (c : CE) (e : Expr) : Prop := ∀ st G s, Sim cx G st none s → Tri cx RV (toB (ev Γ c st)) (eval e cx.env) G s
noncomputable def SB (Γ : Nat → Fn) (cx : Cx) (c : CE) (e : Expr) : Prop := ∀ st G s, Sim cx G st none s → Tri cx RB (toB (ev Γ c st)) (isTrue e cx.env (eval e cx.env)) G s

section
variable {Γ : Nat → Fn} {cx : Cx} {c a b : CE} {e x y : Expr} {pos : Pos}

theorem SE.d (h : SE Γ cx c e) : SD Γ cx c e := fun st G s M Q E ns hok hex => by
  refine (h st G s M).seq (f := fun (f, st) => .ok (f.frz, st)) ns hex fun f st' e1 G' s' v x l M' r ns' hex' => ?_
  obtain ⟨G'', l', M'', r'⟩ := M'.frz r
  exact hok f.frz st' (by unfold toD; rw [e1]; rfl) G'' s' v none (GM.le_trans l l') M'' ⟨rfl, r'⟩

theorem boolOf_some {f : F} {b : Bool} (h : boolOf f = some b) : f = .val (.bool b) := by
  unfold boolOf at h
  split at h
  · cases h; rfl
  · cases h

theorem toB_ok {r : R (F × St)} {b : Bool} {st : St} (h : toB r = .ok (b, st)) : r = .ok (.val (.bool b), st) := by
  unfold toB at h
  cases r with
  | ok p =>
    obtain ⟨f, st'⟩ := p
    simp only [R.bind] at h
    cases hb : boolOf f with
    | none => rw [hb] at h; cases h
    | some b' => rw [hb] at h; cases h; rw [boolOf_some hb]
  | exc k st' => cases h
  | stuck => cases h

theorem SE.v (h : SE Γ cx c e) : SV Γ cx c e := fun st G s M Q E ns hok hex => by
  refine (h st G s M).seq (f := fun (f, st) => match boolOf f with | some b => .ok (b, st) | none => .stuck) ns hex fun f st' e1 G' s' v x l M' r ns' hex' => ?_
  cases hb : boolOf f with
  | none => simp only [hb] at ns'; exact absurd rfl ns'
  | some b' =>
    have hf := boolOf_some hb
    subst hf
    obtain ⟨rfl, hr⟩ := r
    cases hr
    exact hok b' st' (by unfold toB; rw [e1]; rfl) G' s' _ none l M' ⟨rfl, rfl⟩

/-- a test that is just its value -/
theorem SE.tst (h : SE Γ cx c e) (he : ∀ whole, isTrue e cx.env whole = (do let v ← whole; standAt e.pos; holding [v] (truthy v))) : SB Γ cx c e := fun st G s M Q E ns hok hex => by
  refine wpAny_isTrue_value ?_ (he _)
  refine h.v st G s M _ _ ns (fun b st' e1 G' s' v x l M' r => ?_) hex
  obtain ⟨rfl, rfl⟩ := r
  exact wpAny_truthy_bool (hok b st' e1 G' s' b none l M' ⟨rfl, rfl⟩)

/-- what costs but a token -/
theorem done {st : St} {G : GM} {s : Shared} (M : Sim cx G st none s) {d : PyData} {v : Value} {Q : Value → Shared → Prop} {r : R (F × St)} (n : Nat) (hv : Rep G v d) (hr : r = .ok (.val d, st))
    (hok : ∀ b st', r = .ok (b, st') → ∀ G' s' v x, G.le G' → Sim cx G' st' x s' → RF G' s'.heap v x b → Q v s') : Q v { s with toks := n } :=
  hok _ _ hr G _ v none (GM.le_refl _) (M.toks n) ⟨rfl, hv⟩
theorem done0 {st : St} {G : GM} {s : Shared} (M : Sim cx G st none s) {d : PyData} {v : Value} {Q : Value → Shared → Prop} {r : R (F × St)} (hv : Rep G v d) (hr : r = .ok (.val d, st))
    (hok : ∀ b st', r = .ok (b, st') → ∀ G' s' v x, G.le G' → Sim cx G' st' x s' → RF G' s'.heap v x b → Q v s') : Q v s :=
  hok _ _ hr G _ v none (GM.le_refl _) M ⟨rfl, hv⟩

theorem s_none {k : Nat} : SE Γ cx .none (.Constant .none k pos) := fun st G s M Q E ns hok hex => wpAny_Constant_none (done0 M .none rfl hok)
theorem s_bool {k : Nat} {b : Bool} : SE Γ cx (.bool b) (.Constant (.bool b) k pos) := fun st G s M Q E ns hok hex => wpAny_Constant_bool (done0 M (.bool b) rfl hok)
theorem s_int {k : Nat} {i : Int} : SE Γ cx (.int i) (.Constant (.int i) k pos) := fun st G s M Q E ns hok hex => wpAny_Constant_int (done M _ (.int i _) rfl hok)
theorem s_str {k : Nat} {l : List Nat} {z : Str} (h : cs z = l) : SE Γ cx (.str l) (.Constant (.str z) k pos) := fun st G s M Q E ns hok hex =>
  wpAny_Constant_str (done M _ (.str z _) (by show R.ok (F.val (.str (S l)), st) = _; rw [← h, S_cs]) hok)

theorem acc_of {nm : List Str} {i : Nat} {z : Str} (h : isLoc nm cx.env.scope.names i z = true) : nm[i]? = some z ∧ Acc cx.env z ∧ (z == ("__debug__" : Str)) = false := by
  unfold isLoc at h
  simp only [Bool.and_eq_true, Bool.or_eq_true, beq_iff_eq, Bool.not_eq_true'] at h
  exact ⟨h.1.1, h.1.2, h.2⟩

/-- a name is loaded -/
theorem load_name {z : Str} {v : Value} {s : Shared} {Q : Value → Shared → Prop} {E : Value → Shared → Prop} {Md : Model} {A : Around} (hk : cx.env.scope.kind = .function) (hv : Holds cx.env s.heap z v) (hd : (z == ("__debug__" : Str)) = false) (h : Q v s) :
    wpAny Md A (eval (.Name z pos) cx.env) Q E s := by
  rcases hv with ⟨k, m, hn, hm⟩ | ⟨k, c, hc, hv⟩
  · exact wpAny_Name (wpAny_loadName_local hk k hn hm h) hd
  · exact wpAny_Name (wpAny_loadName_cell hk k hc hv h) hd

theorem s_var {i : Nat} {z : Str} (C : cx.Ok) (h : isLoc cx.nm cx.env.scope.names i z = true) : SE Γ cx (.var i) (.Name z pos) := fun st G s M Q E ns hok hex => by
  obtain ⟨h1, h2, h3⟩ := acc_of h
  cases hs : slot st i with
  | none => simp only [qe_var, hs] at ns; exact absurd rfl ns
  | some f =>
    cases f with
    | val d =>
      obtain ⟨ad, V⟩ := M.vals
      obtain ⟨v, hv, hr⟩ := V.rep i _ z hs h1 h2
      exact load_name C.kind hv h3 (done0 M hr (by simp only [qe_var, hs]) hok)
    | own xs =>
      obtain ⟨G', v, l, hv, hr, M'⟩ := M.frzVar hs h1 h2
      exact load_name C.kind hv h3 (hok (.val (.list xs)) _ (by simp only [qe_var, hs]) G' s v none l M' ⟨rfl, hr⟩)

theorem s_mv {i : Nat} {z : Str} (C : cx.Ok) (h : isLoc cx.nm cx.env.scope.names i z = true) : SE Γ cx (.mv i) (.Name z pos) := fun st G s M Q E ns hok hex => by
  obtain ⟨h1, h2, h3⟩ := acc_of h
  cases hs : slot st i with
  | none => simp only [qe_mv, hs] at ns; exact absurd rfl ns
  | some f =>
    cases f with
    | val d => simp only [qe_mv, hs] at ns; exact absurd rfl ns
    | own xs =>
      obtain ⟨a, hv, hr, M'⟩ := M.mvVar hs h1 h2
      exact load_name C.kind hv h3 (hok (.own xs) _ (by simp only [qe_mv, hs]) G s _ (some a) (GM.le_refl _) M' ⟨a, rfl, rfl, hr⟩)

theorem gl_of {kd : Kd} {z y : Str} (h : isGl kd z y = true) : z = y ∧ kd.lookup z = some .globalImplicit ∧ (z == ("__debug__" : Str)) = false := by
  unfold isGl at h
  simp only [Bool.and_eq_true, beq_iff_eq, Bool.not_eq_true'] at h
  exact ⟨h.1.1, h.1.2, h.2⟩

theorem Sim.top {G : GM} {st : St} {o : Option Addr} {s : Shared} (C : cx.Ok) (M : Sim cx G st o s) : cx.T.GT.In s.heap := fun b o e => M.gin b o (M.gle b o (C.top b o e))

/-- a name of the text's top -/
theorem load_glob {z y : Str} {v : Value} {st : St} {G : GM} {o : Option Addr} {s : Shared} {Q : Value → Shared → Prop} {E : Value → Shared → Prop} {Md : Model} {A : Around} (TO : cx.T.Ok) (C : cx.Ok) (M : Sim cx G st o s) (h : isGl cx.env.scope.names z y = true)
    (hv : cx.T.mg y = some v) (hq : Q v s) : wpAny Md A (eval (.Name z pos) cx.env) Q E s := by
  obtain ⟨rfl, h2, h3⟩ := gl_of h
  exact Name_function_global C.kind h2 (loadGlobal_global (by rw [C.glob]; exact TO.g _ (M.top C)) hv hq) h3
theorem load_bi {z y : Str} {v : Value} {st : St} {G : GM} {o : Option Addr} {s : Shared} {Q : Value → Shared → Prop} {E : Value → Shared → Prop} {Md : Model} {A : Around} (TO : cx.T.Ok) (C : cx.Ok) (M : Sim cx G st o s) (h : isGl cx.env.scope.names z y = true)
    (hv : biTab.lookup y = some v) (hq : Q v s) : wpAny Md A (eval (.Name z pos) cx.env) Q E s := by
  obtain ⟨rfl, h2, h3⟩ := gl_of h
  obtain ⟨b1, b2⟩ := TO.bi _ _ hv
  exact Name_function_global C.kind h2 (loadGlobal_builtin (by rw [C.glob]; exact TO.g _ (M.top C)) b1 (by rw [C.bltn]; exact TO.b _ (M.top C)) b2 hq) h3

theorem s_glob {k : Nat} {z y : Str} {d : PyData} (TO : cx.T.Ok) (C : cx.Ok) (hg : gtab k = some (y, d)) (h : isGl cx.env.scope.names z y = true) : SE Γ cx (.glob k) (.Name z pos) := fun st G s M Q E ns hok hex => by
  obtain ⟨v, hv, hr⟩ := TO.con k y d hg
  exact load_glob TO C M h hv (done0 M (hr.mono fun b o e => by cases e) (by simp only [qe_glob, hg]) hok)

end
end Mine
end

section
open PySem PySem.Calls PyProof.Rows
set_option Elab.async false
set_option linter.unusedVariables false
namespace Mine

/-! the operators -/

section
variable {prog : Program} {w : World} {A : Around} {E : Value → Shared → Prop} {s : Shared}

theorem add_list_raw {l b : Addr} {its its2 : Array Value} {Q : Value → Shared → Prop} (hl : s.heap.IsList l its) (hb : s.heap.IsList b its2)
    (h : Q (.ref s.heap.objs.size) { s with heap := s.heap.push { cls := .type "list", data := .seq (its ++ its2) } }) (hsz : its.size + its2.size ≤ sizeLine) :
    wpAny (model prog w) A (binaryOp .Add (.ref l) (.ref b)) Q E s := by
  obtain ⟨⟨cls, dd, data, sl⟩, ho, hc, n, hd⟩ := id hl
  obtain ⟨⟨cls2, dd2, data2, sl2⟩, ho2, hc2, n2, hd2⟩ := id hb
  simp only at hc hd hc2 hd2
  subst hc hd hc2 hd2
  exact concat_meets ⟨_, ho, rfl⟩ ⟨_, ho2, rfl⟩ noFill_list_add seq_list_add PySem.F.slot_list_add PySem.F.entry_list_add (PySem.F.args_list_add_2 _ _) (list_addW l b its its2 n n2 dd dd2 sl sl2 hsz) ⟨ho, ho2, h⟩

theorem add_tup_raw {l b : Addr} {its its2 : Array Value} {Q : Value → Shared → Prop} (hl : IsTup s.heap l its) (hb : IsTup s.heap b its2)
    (h0 : its = #[] → Q (.ref b) s) (h1 : its2 = #[] → Q (.ref l) s)
    (h : Q (.ref s.heap.objs.size) { s with heap := s.heap.push { cls := .type "tuple", data := .seq (its ++ its2) } }) (hsz : its.size + its2.size ≤ sizeLine) :
    wpAny (model prog w) A (binaryOp .Add (.ref l) (.ref b)) Q E s := by
  obtain ⟨⟨cls, dd, data, sl⟩, ho, hc, n, hd⟩ := id hl
  obtain ⟨⟨cls2, dd2, data2, sl2⟩, ho2, hc2, n2, hd2⟩ := id hb
  simp only at hc hd hc2 hd2
  subst hc hd hc2 hd2
  by_cases e1 : its.isEmpty = true
  · exact concat_meets ⟨_, ho, rfl⟩ ⟨_, ho2, rfl⟩ noFill_tuple_add seq_tuple_add PySem.F.slot_tuple_add PySem.F.entry_tuple_add (PySem.F.args_tuple_add_2 _ _) (tuple_addW0 l b its its2 n n2 dd dd2 sl sl2 e1) ⟨ho, ho2, h0 (by simpa using e1)⟩
  · by_cases e2 : its2.isEmpty = true
    · exact concat_meets ⟨_, ho, rfl⟩ ⟨_, ho2, rfl⟩ noFill_tuple_add seq_tuple_add PySem.F.slot_tuple_add PySem.F.entry_tuple_add (PySem.F.args_tuple_add_2 _ _) (tuple_addW1 l b its its2 n n2 dd dd2 sl sl2 e1 e2) ⟨ho, ho2, h1 (by simpa using e2)⟩
    · exact concat_meets ⟨_, ho, rfl⟩ ⟨_, ho2, rfl⟩ noFill_tuple_add seq_tuple_add PySem.F.slot_tuple_add PySem.F.entry_tuple_add (PySem.F.args_tuple_add_2 _ _) (tuple_addW2 l b its its2 n n2 dd dd2 sl sl2 e1 e2 hsz) ⟨ho, ho2, h⟩
end

theorem intBits_small {a : Int} (h : small a = true) : Builtin.Int.intBits a ≤ 64 := by
  have h' : a.natAbs < 1073741824 := by simpa [small] using h
  unfold Builtin.Int.intBits
  have : a.natAbs.log2 < 30 := by
    rcases Nat.eq_zero_or_pos a.natAbs with e | e
    · rw [e]; decide
    · exact (Nat.log2_lt (Nat.pos_iff_ne_zero.mp e)).mpr (by omega)
  split <;> omega

theorem okLen_le {n : Nat} (h : okLen n = true) : n ≤ sizeLine := by
  rw [sizeLine_eq]; simpa [okLen] using h

theorem cs_append (x y : Str) : x ++ y = S (cs x ++ cs y) := by
  obtain ⟨x⟩ := x; obtain ⟨y⟩ := y
  show (⟨x ++ y⟩ : Str) = ⟨(x.toList ++ y.toList).toArray⟩
  simp

theorem len_cs (x : Str) : x.length = (cs x).length := by simp [cs, Str.length]

theorem foldl_flat (l : List (Array Nat)) (a : Array Nat) : (l.foldl (· ++ ·) a).toList = a.toList ++ (l.map (·.toList)).flatten := by
  induction l generalizing a with
  | nil => simp
  | cons x r ih => simp [ih]

theorem mul_is (x : Str) (n : Int) : Txt.mul x n = S (List.replicate n.toNat (cs x)).flatten := by
  unfold Txt.mul
  split
  · rename_i h
    have : n.toNat = 0 := by omega
    rw [this]; rfl
  · split
    · rename_i h1 h2
      simp only [Bool.or_eq_true, beq_iff_eq] at h2
      rcases h2 with rfl | h2
      · show x = S (List.replicate 1 (cs x)).flatten
        simp
      · rw [len_cs] at h2
        have e : cs x = [] := List.length_eq_zero_iff.mp h2
        rw [e]
        have : x = S [] := by rw [← e, S_cs]
        rw [this]; simp [S]
    · rename_i h1 h2
      unfold S
      congr 1
      apply Array.ext'
      rw [foldl_flat]
      simp [cs]

theorem mulOk_of {x : Str} {n : Int} (h : (okLen ((cs x).length * n.toNat) && decide (n ≤ 16777216) && decide (-16777216 ≤ n)) = true) : MulOk x n := by
  simp only [Bool.and_eq_true, decide_eq_true_eq] at h
  have h3 := okLen_le h.1.1
  rw [sizeLine_eq] at h3
  refine ⟨?_, fun h1 h2 => ?_, fun h1 h2 => ?_⟩
  · simp only [Bool.or_eq_false_iff, decide_eq_false_iff_not]; omega
  · rw [len_cs]
    have h5 : (cs x).length ≤ (cs x).length * n.toNat := Nat.le_mul_of_pos_right _ (by omega)
    have h6 : ((cs x).length : Int) ≤ 16777216 := by omega
    have h7 : (16777216 : Int) * n ≤ 2 ^ 63 - 1 := by omega
    have h8 : (16777216 : Int) ≤ (2 ^ 63 - 1) / n := (Int.le_ediv_iff_mul_le (by omega)).mpr h7
    omega
  · unfold Builtin.Str.tooLong
    rw [len_cs, sizeLine_eq]
    simpa using h3

theorem rep_list_at {G : GM} {h : Heap} {v : Value} {xs : List PyData} (i : G.In h) (r : Rep G v (.list xs)) : ∃ a vs, v = .ref a ∧ h.IsList a vs ∧ RepAll G vs.toList xs := by
  cases r with
  | list e c d r => exact ⟨_, _, rfl, ⟨_, i _ _ e, c, _, d⟩, r⟩
theorem rep_tup_at {G : GM} {h : Heap} {v : Value} {xs : List PyData} (i : G.In h) (r : Rep G v (.tuple xs)) : ∃ a vs, v = .ref a ∧ IsTup h a vs ∧ RepAll G vs.toList xs := by
  cases r with
  | tuple e c d r => exact ⟨_, _, rfl, ⟨_, i _ _ e, c, _, d⟩, r⟩

section
variable {Γ : Nat → Fn} {cx : Cx} {st : St} {G : GM} {s : Shared} {Q : Value → Shared → Prop} {E : Value → Shared → Prop}

/-- a new list or tuple, at the heap's end -/
theorem Sim.newList (M : Sim cx G st none s) {vs : Array Value} {xs : List PyData} (n : Nat) (hr : RepAll G vs.toList xs) (tk : Nat) :
    Sim cx G st (some s.heap.objs.size) { s with heap := s.heap.push { cls := .type "list", data := .seq vs n }, toks := tk } ∧ OwnL G (s.heap.push { cls := .type "list", data := .seq vs n }) s.heap.objs.size xs :=
  ⟨M.fresh tk (ext_push _ _) (by rw [Heap.size_push]; omega) (Nat.le_refl _) ⟨vs, _, Heap.get?_push_size _ rfl, rfl, n, rfl⟩, vs, ⟨n, Heap.get?_push_size _ rfl⟩, hr⟩
theorem Sim.newTup (M : Sim cx G st none s) {vs : Array Value} {xs : List PyData} (n : Nat) (hr : RepAll G vs.toList xs) (tk : Nat) :
    ∃ G', G.le G' ∧ Sim cx G' st none { s with heap := s.heap.push { cls := .type "tuple", data := .seq vs n }, toks := tk } ∧ Rep G' (.ref s.heap.objs.size) (.tuple xs) := by
  obtain ⟨l, M'⟩ := M.addG (n := s.heap.objs.size) (o := { cls := .type "tuple", data := .seq vs n }) tk (ext_push _ _) (by rw [Heap.size_push]; omega) (Nat.le_refl _) (Heap.get?_push_size _ rfl) ⟨_, _, rfl⟩
  exact ⟨_, l, M', .tuple (GM.put_self ..) rfl rfl (hr.mono l)⟩

theorem bin_ok {op : Operator} {d e : PyData} {f : F} {v u : Value} (hb : binF op d e = some f) (M : Sim cx G st none s) (hv : Rep G v d) (hu : Rep G u e)
    (hok : ∀ G' s' v x, G.le G' → Sim cx G' st x s' → RF G' s'.heap v x f → Q v s') : wpAny (model cx.T.prog cx.T.w) cx.A (binaryOp op v u) Q E s := by
  have fin : ∀ {d v} n, f = .val d → Rep G v d → Q v { s with toks := n } := fun {d v} n hf hr => by subst hf; exact hok G _ v none (GM.le_refl _) (M.toks n) ⟨rfl, hr⟩
  unfold binF at hb
  split at hb
  · cases hb; cases hv; cases hu; exact add_int (fin _ rfl (.int ..))
  · cases hb; cases hv; cases hu; exact sub_int (fin _ rfl (.int ..))
  · split at hb
    · rename_i h; cases hb; cases hv; cases hu
      refine mul_int (fin _ rfl (.int ..)) ?_
      simp only [Bool.or_eq_true] at h
      rcases h with h | h
      · exact IntMulOk.of_left (intBits_small h)
      · exact IntMulOk.of_right (intBits_small h)
    · cases hb
  · split at hb
    · rename_i h; cases hb; cases hv; cases hu
      simp only [Bool.and_eq_true, bne_iff_ne, ne_eq] at h
      exact floordiv_int h.2 (fin _ rfl (.int ..)) (.inl (PyProof.noPylong_small (by simpa [small] using h.1)))
    · cases hb
  · split at hb
    · rename_i h; cases hb; cases hv; cases hu
      exact mod_int' (by simpa using h) (fin _ rfl (.int ..))
    · cases hb
  · split at hb
    · rename_i h; cases hb; cases hv; cases hu
      refine add_str (fun t' tk => ?_) (by rw [len_cs, len_cs]; exact okLen_le h)
      rw [cs_append]
      exact fin _ rfl (.str ..)
    · cases hb
  · split at hb
    · rename_i h; cases hb
      obtain ⟨a, vs, rfl, hl, hr⟩ := rep_list_at M.gin hv
      obtain ⟨b, ws, rfl, hl', hr'⟩ := rep_list_at M.gin hu
      have hz : vs.size + ws.size ≤ sizeLine := by
        have h1 := hr.length; have h2 := hr'.length
        rw [Array.length_toList] at h1 h2; rw [h1, h2]; exact okLen_le h
      refine add_list_raw hl hl' ?_ hz
      obtain ⟨M', hO⟩ := M.newList (vs := vs ++ ws) 0 (by rw [Array.toList_append]; exact RepAll.append hr' hr) s.toks
      exact hok G _ _ _ (GM.le_refl _) M' ⟨_, rfl, rfl, hO⟩
    · cases hb
  · split at hb
    · rename_i h; cases hb
      obtain ⟨a, vs, rfl, hl, hr⟩ := rep_tup_at M.gin hv
      obtain ⟨b, ws, rfl, hl', hr'⟩ := rep_tup_at M.gin hu
      have hz : vs.size + ws.size ≤ sizeLine := by
        have h1 := hr.length; have h2 := hr'.length
        rw [Array.length_toList] at h1 h2; rw [h1, h2]; exact okLen_le h
      refine add_tup_raw hl hl' (fun e => ?_) (fun e => ?_) ?_ hz
      · subst e; cases hr
        exact hok G _ _ none (GM.le_refl _) M ⟨rfl, by simpa using hu⟩
      · subst e; cases hr'
        exact hok G _ _ none (GM.le_refl _) M ⟨rfl, by simpa using hv⟩
      · obtain ⟨G', l, M', hO⟩ := M.newTup (vs := vs ++ ws) 0 (by rw [Array.toList_append]; exact RepAll.append hr' hr) s.toks
        exact hok G' _ _ none l M' ⟨rfl, hO⟩
    · cases hb
  · split at hb
    · rename_i h; cases hb; cases hv; cases hu
      refine SB.mul (mulOk_of h) fun t' k => ?_
      rw [mul_is]
      exact fin _ rfl (.str ..)
    · cases hb
  · cases hb
end
end Mine
end

section
open PySem PySem.Calls PyProof.Rows
set_option Elab.async false
set_option linter.unusedVariables false
namespace Mine

theorem str_eq_cs (x y : Str) : (x == y) = (cs x == cs y) := by
  rw [Bool.eq_iff_iff]
  simp only [beq_iff_eq]
  exact ⟨fun h => by rw [h], fun h => by rw [← S_cs x, ← S_cs y, h]⟩

theorem shallow_of {d : PyData} (h : shallow d = true) : d.canLay0 = true ∧ d.depth ≤ 50 := by
  unfold shallow at h
  simpa using h

section
variable {Γ : Nat → Fn} {cx : Cx} {st : St} {G : GM} {s : Shared} {Q : Value → Shared → Prop} {E : Value → Shared → Prop}

theorem cmp_ok {op : CmpOp} {d e : PyData} {b : Bool} {v u : Value} (C : cx.Ok) (hb : cmpF op d e = some b) (M : Sim cx G st none s) (hv : Rep G v d) (hu : Rep G u e)
    (hok : Q (.bool b) s) : wpAny (model cx.T.prog cx.T.w) cx.A (compareOp op v u) Q E s := by
  have gen : ∀ {d e : PyData} {v u}, Rep G v d → Rep G u e → (shallow d && shallow e) = true → (Q (.bool (d.eqv e)) s → wpAny (model cx.T.prog cx.T.w) cx.A (compareOp .Eq v u) Q E s) ∧ (Q (.bool (!d.eqv e)) s → wpAny (model cx.T.prog cx.T.w) cx.A (compareOp .NotEq v u) Q E s) := by
    intro d e v u hv hu hs
    rw [Bool.and_eq_true] at hs
    obtain ⟨a1, a2⟩ := shallow_of hs.1
    obtain ⟨b1, b2⟩ := shallow_of hs.2
    obtain ⟨as, ra⟩ := hv.reads M.gin
    obtain ⟨bs, rb⟩ := hu.reads M.gin
    have hu : cx.A.units + min d.depth e.depth < cLine := by have := C.units; omega
    exact ⟨fun hq => SeqAt.eqOverData _ _ _ _ _ _ _ _ _ _ _ _ ra rb a1 b1 hu hq, fun hq => SeqAt.neOverData _ _ _ _ _ _ _ _ _ _ _ _ ra rb a1 b1 hu hq⟩
  unfold cmpF at hb
  split at hb
  · cases hb; cases hv; cases hu; exact eq_int hok
  · cases hb; cases hv; cases hu; exact ne_int hok
  · cases hb; cases hv; cases hu; exact lt_int hok
  · cases hb; cases hv; cases hu; exact le_int hok
  · cases hb; cases hv; cases hu; exact gt_int hok
  · cases hb; cases hv; cases hu; exact ge_int hok
  · cases hb; cases hv; cases hu; exact eq_str (by rw [str_eq_cs]; exact hok)
  · cases hb; cases hv; cases hu; exact ne_str (by rw [bne, str_eq_cs]; exact hok)
  · cases hb; cases hv; cases hu; exact in_str hok
  · cases hb; cases hv; cases hu; exact notIn_str hok
  · split at hb
    · rename_i h; cases hb; exact (gen hv hu h).1 hok
    · cases hb
  · split at hb
    · rename_i h; cases hb; exact (gen hv hu h).2 hok
    · cases hb
  · cases hb

variable {c a b a' b' : CE} {e x y z : Expr} {pos : Pos}

theorem ok_okF {r : Option F} {st st' : St} {f : F} (h : okF r st = .ok (f, st')) : r = some f ∧ st = st' := by
  unfold okF at h; split at h
  · cases h; exact ⟨rfl, rfl⟩
  · cases h
theorem okF_ne {r : Option F} {st : St} (h : okF r st ≠ .stuck) : ∃ f, r = some f := by
  unfold okF at h; split at h
  · exact ⟨_, rfl⟩
  · exact absurd rfl h
theorem okD_ne {r : Option PyData} {st : St} (h : okD r st ≠ .stuck) : ∃ f, r = some f := by
  unfold okD at h; split at h
  · exact ⟨_, rfl⟩
  · exact absurd rfl h
theorem okB_ne {r : Option Bool} {st : St} (h : okB r st ≠ .stuck) : ∃ f, r = some f := by
  unfold okB at h; split at h
  · exact ⟨_, rfl⟩
  · exact absurd rfl h
theorem okI_ne {r : Option Nat} {st : St} (h : okI r st ≠ .stuck) : ∃ f, r = some f := by
  unfold okI at h; split at h
  · exact ⟨_, rfl⟩
  · exact absurd rfl h

theorem s_bin {op : Operator} (ha : SD Γ cx a x) (hb : SD Γ cx b y) : SE Γ cx (.bin op a b) (.BinOp x op y pos) := fun st G s M Q E ns hok hex => by
  rw [qe_bin] at ns hok hex
  refine wpAny_BinOp ?_
  refine (ha st G s M).seq ns hex fun d st1 e1 G1 s1 v1 o1 l1 M1 r1 ns1 hex1 => ?_
  obtain ⟨rfl, r1⟩ := r1
  refine (hb st1 G1 s1 M1).seq ns1 hex1 fun d' st2 e2 G2 s2 v2 o2 l2 M2 r2 ns2 hex2 => ?_
  obtain ⟨rfl, r2⟩ := r2
  obtain ⟨f, hf⟩ := okF_ne ns2
  refine bin_ok hf M2 (r1.mono l2) r2 fun G' s' v o l M' r => ?_
  exact hok f st2 (by rw [e1]; simp only [R.bind]; rw [e2]; simp only [R.bind]; rw [hf]; rfl) G' s' v o (GM.le_trans l1 (GM.le_trans l2 l)) M' r

theorem s_neg (ha : SD Γ cx a x) : SE Γ cx (.neg a) (.UnaryOp .USub x pos) := fun st G s M Q E ns hok hex => by
  rw [qe_neg] at ns hok hex
  refine wpAny_UnaryOp ?_
  refine (ha st G s M).seq ns hex fun d st1 e1 G1 s1 v1 o1 l1 M1 r1 ns1 hex1 => ?_
  obtain ⟨rfl, r1⟩ := r1
  cases r1 with
  | int i t => exact neg_int (hok (.val (.int (-i))) st1 (by rw [e1]; rfl) G1 _ _ none l1 (M1.toks _) ⟨rfl, .int ..⟩)
  | none => exact absurd rfl ns1
  | bool b => exact absurd rfl ns1
  | str x t => exact absurd rfl ns1
  | list e c d r => exact absurd rfl ns1
  | tuple e c d r => exact absurd rfl ns1

theorem s_not (ha : SV Γ cx a x) : SE Γ cx (.not a) (.UnaryOp .Not x pos) := fun st G s M Q E ns hok hex => by
  rw [qe_not] at ns hok hex
  refine wpAny_UnaryOp ?_
  refine (ha st G s M).seq ns hex fun b st1 e1 G1 s1 v1 o1 l1 M1 r1 ns1 hex1 => ?_
  obtain ⟨rfl, rfl⟩ := r1
  exact not_value (wpAny_truthy_bool (hok (.val (.bool (!b))) st1 (by rw [e1]; rfl) G1 _ _ none l1 M1 ⟨rfl, .bool _⟩))

theorem boolOp_cons {M : Model} {A : Around} {E : Value → Shared → Prop} {s : Shared} {pos : Pos} {op : BoolOp} {x y : Sem Value} {rest : List (Sem Value)} {Q : Value → Shared → Prop}
    (h : wpAny M A x (fun v s₁ => wpAny M A (truthy v) (fun t s₂ => if (match op, t with | .And, false | .Or, true => true | _, _ => false) then Q v s₂ else wpAny M A (boolOp pos op (y :: rest)) Q E s₂) E s₁) E s) :
    wpAny M A (boolOp pos op (x :: y :: rest)) Q E s := by
  rw [boolOp]
  · refine wpAny_bind (wpAny_mono h (fun v s₁ h₁ => wpAny_bind (wpAny_standAt (wpAny_bind (wpAny_holding (wpAny_mono h₁ (fun t s₂ h₂ => ?_) fun _ _ x => x))))) fun _ _ x => x)
    cases op <;> cases t <;> first | exact wpAny_pure h₂ | exact h₂
  · intro h; cases h

theorem s_and {rest : List Expr} (ha : SV Γ cx a x) (hb : SE Γ cx b (match rest with | [] => y | _ => .BoolOp .And (y :: rest) pos)) : SE Γ cx (.and a b) (.BoolOp .And (x :: y :: rest) pos) := fun st G s M Q E ns hok hex => by
  rw [qe_and] at ns hok hex
  show wpAny _ _ (boolOp pos .And (eval x cx.env :: eval y cx.env :: evalEach rest cx.env)) Q E s
  refine boolOp_cons ?_
  refine (ha st G s M).seq ns hex fun b' st1 e1 G1 s1 v1 o1 l1 M1 r1 ns1 hex1 => ?_
  obtain ⟨rfl, rfl⟩ := r1
  refine wpAny_truthy_bool ?_
  cases b' with
  | false => exact hok (.val (.bool false)) st1 (by rw [e1]; rfl) G1 _ _ none l1 M1 ⟨rfl, .bool _⟩
  | true =>
    have := hb st1 G1 s1 M1 Q E ns1 (fun f st2 e2 G2 s2 v o l2 M2 r2 => hok f st2 (by rw [e1]; exact e2) G2 s2 v o (GM.le_trans l1 l2) M2 r2) hex1
    cases rest with
    | nil => exact this
    | cons z zs => exact this

theorem s_or {rest : List Expr} (ha : SV Γ cx a x) (hb : SE Γ cx b (match rest with | [] => y | _ => .BoolOp .Or (y :: rest) pos)) : SE Γ cx (.or a b) (.BoolOp .Or (x :: y :: rest) pos) := fun st G s M Q E ns hok hex => by
  rw [qe_or] at ns hok hex
  show wpAny _ _ (boolOp pos .Or (eval x cx.env :: eval y cx.env :: evalEach rest cx.env)) Q E s
  refine boolOp_cons ?_
  refine (ha st G s M).seq ns hex fun b' st1 e1 G1 s1 v1 o1 l1 M1 r1 ns1 hex1 => ?_
  obtain ⟨rfl, rfl⟩ := r1
  refine wpAny_truthy_bool ?_
  cases b' with
  | true => exact hok (.val (.bool true)) st1 (by rw [e1]; rfl) G1 _ _ none l1 M1 ⟨rfl, .bool _⟩
  | false =>
    have := hb st1 G1 s1 M1 Q E ns1 (fun f st2 e2 G2 s2 v o l2 M2 r2 => hok f st2 (by rw [e1]; exact e2) G2 s2 v o (GM.le_trans l1 l2) M2 r2) hex1
    cases rest with
    | nil => exact this
    | cons z zs => exact this

/-- the tests -/
theorem b_not (ha : SB Γ cx a x) : SB Γ cx (.not a) (.UnaryOp .Not x pos) := fun st G s M Q E ns hok hex => by
  have q : toB (ev Γ (.not a) st) = (toB (ev Γ a st)).bind fun (x, st) => .ok (!x, st) := by
    rw [qe_not]; unfold toB
    cases ev Γ a st with
    | ok p =>
      obtain ⟨f, st'⟩ := p
      simp only [R.bind]
      cases boolOf f <;> simp [boolOf]
    | exc k st' => rfl
    | stuck => rfl
  rw [q] at ns hok hex
  refine wpAny_isTrue_Not ?_
  refine (ha st G s M).seq ns hex fun b st1 e1 G1 s1 v1 o1 l1 M1 r1 ns1 hex1 => ?_
  obtain ⟨rfl, rfl⟩ := r1
  exact hok (!v1) st1 (by rw [e1]; rfl) G1 _ _ none l1 M1 ⟨rfl, rfl⟩

theorem q_and {st : St} : toB (ev Γ (.and a b) st) = (toB (ev Γ a st)).bind fun (x, st) => if x then toB (ev Γ b st) else .ok (false, st) := by
  rw [qe_and]
  cases h : toB (ev Γ a st) with
  | ok p => obtain ⟨b, st'⟩ := p; cases b <;> simp [toB, boolOf]
  | exc k st' => rfl
  | stuck => rfl
theorem q_or {st : St} : toB (ev Γ (.or a b) st) = (toB (ev Γ a st)).bind fun (x, st) => if x then .ok (true, st) else toB (ev Γ b st) := by
  rw [qe_or]
  cases h : toB (ev Γ a st) with
  | ok p => obtain ⟨b, st'⟩ := p; cases b <;> simp [toB, boolOf]
  | exc k st' => rfl
  | stuck => rfl

theorem b_and {rest : List Expr} (ha : SB Γ cx a x) (hb : SB Γ cx b (match rest with | [] => y | _ => .BoolOp .And (y :: rest) pos)) : SB Γ cx (.and a b) (.BoolOp .And (x :: y :: rest) pos) := fun st G s M Q E ns hok hex => by
  rw [q_and] at ns hok hex
  refine wpAny_isTrue_BoolOp (wpAny_allTrue_And_cons ?_)
  refine (ha st G s M).seq ns hex fun b' st1 e1 G1 s1 v1 o1 l1 M1 r1 ns1 hex1 => ?_
  obtain ⟨rfl, rfl⟩ := r1
  cases v1 with
  | false => exact hok false st1 (by rw [e1]; rfl) G1 _ _ none l1 M1 ⟨rfl, rfl⟩
  | true =>
    simp only [if_true] at ns1 hex1 ⊢
    have ok' : ∀ b st', toB (ev Γ _ st1) = .ok (b, st') → ∀ G' s' v x, G1.le G' → Sim cx G' st' x s' → RB G' s'.heap v x b → Q v s' :=
      fun f st2 e2 G2 s2 v o l2 M2 r2 => hok f st2 (by rw [e1]; exact e2) G2 s2 v o (GM.le_trans l1 l2) M2 r2
    cases rest with
    | nil =>
      refine wpAny_allTrue_And_cons (hb st1 G1 s1 M1 _ _ ns1 (fun f st2 e2 G2 s2 v o l2 M2 r2 => ?_) hex1)
      cases v with
      | false => exact ok' f st2 e2 G2 s2 _ o l2 M2 r2
      | true => exact wpAny_allTrue_And_nil (ok' f st2 e2 G2 s2 _ o l2 M2 r2)
    | cons z zs =>
      have := hb st1 G1 s1 M1 Q E ns1 ok' hex1
      rwa [arm_isTrue_BoolOp] at this

theorem b_or {rest : List Expr} (ha : SB Γ cx a x) (hb : SB Γ cx b (match rest with | [] => y | _ => .BoolOp .Or (y :: rest) pos)) : SB Γ cx (.or a b) (.BoolOp .Or (x :: y :: rest) pos) := fun st G s M Q E ns hok hex => by
  rw [q_or] at ns hok hex
  refine wpAny_isTrue_BoolOp (wpAny_allTrue_Or_cons ?_)
  refine (ha st G s M).seq ns hex fun b' st1 e1 G1 s1 v1 o1 l1 M1 r1 ns1 hex1 => ?_
  obtain ⟨rfl, rfl⟩ := r1
  cases v1 with
  | true => exact hok true st1 (by rw [e1]; rfl) G1 _ _ none l1 M1 ⟨rfl, rfl⟩
  | false =>
    simp only [Bool.false_eq_true, if_false] at ns1 hex1 ⊢
    have ok' : ∀ b st', toB (ev Γ _ st1) = .ok (b, st') → ∀ G' s' v x, G1.le G' → Sim cx G' st' x s' → RB G' s'.heap v x b → Q v s' :=
      fun f st2 e2 G2 s2 v o l2 M2 r2 => hok f st2 (by rw [e1]; exact e2) G2 s2 v o (GM.le_trans l1 l2) M2 r2
    cases rest with
    | nil =>
      refine wpAny_allTrue_Or_cons (hb st1 G1 s1 M1 _ _ ns1 (fun f st2 e2 G2 s2 v o l2 M2 r2 => ?_) hex1)
      cases v with
      | true => exact ok' f st2 e2 G2 s2 _ o l2 M2 r2
      | false => exact wpAny_allTrue_Or_nil (ok' f st2 e2 G2 s2 _ o l2 M2 r2)
    | cons z zs =>
      have := hb st1 G1 s1 M1 Q E ns1 ok' hex1
      rwa [arm_isTrue_BoolOp] at this

end
end Mine
end

section
open PySem PySem.Calls PyProof.Rows
set_option Elab.async false
set_option linter.unusedVariables false
namespace Mine

/-- a comparison of two, walked -/
noncomputable def SC (Γ : Nat → Fn) (cx : Cx) (c : CE) (l : Expr) (op : CmpOp) (r : Expr) : Prop := ∀ st G s, Sim cx G st none s → ∀ (Q : Value → Shared → Prop) (E : Value → Shared → Prop), ev Γ c st ≠ .stuck →
  (∀ b st', ev Γ c st = .ok (.val (.bool b), st') → ∀ G' s', G.le G' → Sim cx G' st' none s' → Q (.bool b) s') →
  (∀ k st', ev Γ c st = .exc k st' → ∀ G' s' e, G.le G' → Sim cx G' st' none s' → Fly cx k e s' → E (.ref e) s') →
  wpAny (model cx.T.prog cx.T.w) cx.A (eval l cx.env) (fun a s₁ => wpAny (model cx.T.prog cx.T.w) cx.A (eval r cx.env) (fun b s₂ => wpAny (model cx.T.prog cx.T.w) cx.A (compareOp op a b) Q E s₂) E s₁) E s

section
variable {Γ : Nat → Fn} {cx : Cx} {st : St} {G : GM} {s : Shared} {Q : Value → Shared → Prop} {E : Value → Shared → Prop} {c a b a' b' : CE} {e x y z : Expr} {pos : Pos} {op o1 o2 : CmpOp}

theorem SC.se (h : SC Γ cx c x op y) (hm : behindInMarks op y = false) : SE Γ cx c (.Compare x [op] [y] pos) := fun st G s M Q E ns hok hex =>
  wpAny_Compare1 (h st G s M Q E ns (fun b st' e G' s' l M' => hok (.val (.bool b)) st' e G' s' _ none l M' ⟨rfl, .bool _⟩) hex) hm

theorem toB_ok' {r : R (F × St)} {b : Bool} {st : St} (h : r = .ok (.val (.bool b), st)) : toB r = .ok (b, st) := by rw [h]; rfl
theorem toB_exc {r : R (F × St)} {k : Nat} {st : St} (h : r = .exc k st) : toB r = .exc k st := by rw [h]; rfl
theorem toB_ne {r : R (F × St)} (h : toB r ≠ .stuck) : r ≠ .stuck := fun e => h (by rw [e]; rfl)

theorem SC.sb (h : SC Γ cx c x op y) (hm : behindInMarks op y = false) : SB Γ cx c (.Compare x [op] [y] pos) := fun st G s M Q E ns hok hex =>
  wpAny_isTrue_Compare1 (h st G s M _ E (toB_ne ns) (fun b st' e G' s' l M' => wpAny_truthy_bool (hok b st' (toB_ok' e) G' s' b none l M' ⟨rfl, rfl⟩)) (fun k st' e => hex k st' (toB_exc e))) hm

theorem c_cmp (C : cx.Ok) (ha : SD Γ cx a x) (hb : SD Γ cx b y) : SC Γ cx (.cmp op a b) x op y := fun st G s M Q E ns hok hex => by
  rw [qe_cmp] at ns hok hex
  refine (ha st G s M).seq ns hex fun d st1 e1 G1 s1 v1 o1 l1 M1 r1 ns1 hex1 => ?_
  obtain ⟨rfl, r1⟩ := r1
  refine (hb st1 G1 s1 M1).seq ns1 hex1 fun d' st2 e2 G2 s2 v2 o2 l2 M2 r2 ns2 hex2 => ?_
  obtain ⟨rfl, r2⟩ := r2
  obtain ⟨t, ht⟩ := okB_ne ns2
  exact cmp_ok C ht M2 (r1.mono l2) r2 (hok t st2 (by rw [e1]; simp only [R.bind]; rw [e2]; simp only [R.bind]; rw [ht]; rfl) G2 s2 (GM.le_trans l1 l2) M2)

theorem rep_none_beq {G : GM} {v : Value} {d : PyData} (r : Rep G v d) : (v == .none) = isN d := by cases r <;> rfl

theorem c_isNone {k : Nat} (ha : SD Γ cx a x) : SC Γ cx (.isNone a) x .Is (.Constant .none k pos) := fun st G s M Q E ns hok hex => by
  rw [qe_isNone] at ns hok hex
  refine (ha st G s M).seq ns hex fun d st1 e1 G1 s1 v1 o1 l1 M1 r1 ns1 hex1 => ?_
  obtain ⟨rfl, r1⟩ := r1
  refine wpAny_Constant_none (is_none ?_)
  rw [rep_none_beq r1]
  exact hok _ st1 (by rw [e1]; rfl) G1 s1 l1 M1
theorem c_isNotNone {k : Nat} (ha : SD Γ cx a x) : SC Γ cx (.isNotNone a) x .IsNot (.Constant .none k pos) := fun st G s M Q E ns hok hex => by
  rw [qe_isNotNone] at ns hok hex
  refine (ha st G s M).seq ns hex fun d st1 e1 G1 s1 v1 o1 l1 M1 r1 ns1 hex1 => ?_
  obtain ⟨rfl, r1⟩ := r1
  refine wpAny_Constant_none (isNot_none ?_)
  rw [rep_none_beq r1]
  exact hok _ st1 (by rw [e1]; rfl) G1 s1 l1 M1

/-- a list at a name, looked at -/
theorem Sim.look {i : Nat} {xs : List PyData} {z : Str} (M : Sim cx G st none s) (hs : listAt st i = some xs) (hy : cx.nm[i]? = some z) (ha : Acc cx.env z) :
    ∃ a vs, Holds cx.env s.heap z (.ref a) ∧ s.heap.IsList a vs ∧ RepAll G vs.toList xs := by
  obtain ⟨ad, V⟩ := M.vals
  unfold listAt at hs
  split at hs
  · rename_i ys hsl; cases hs
    obtain ⟨v, hv, rfl, vs, hl, hr⟩ := V.rep i _ z hsl hy ha
    exact ⟨_, vs, hv, hl.isList, hr⟩
  · rename_i ys hsl; cases hs
    obtain ⟨v, hv, hr⟩ := V.rep i _ z hsl hy ha
    obtain ⟨a, vs, rfl, hl, hr⟩ := rep_list_at M.gin hr
    exact ⟨_, vs, hv, hl, hr⟩
  · cases hs

end

section
variable {cx : Cx} {G : GM} {st : St} {s : Shared}

/-- the list that the name holds, with a new empty one -/
theorem reads_list_of {h : Heap} {a : Addr} {vs : Array Value} {xs : List PyData} {G : GM} (i : G.In h) (hl : h.IsList a vs) (hr : RepAll G vs.toList xs) : ∃ as, Reads h (.ref a) (.list xs) as := by
  obtain ⟨o, ho, hc, n, hd⟩ := hl
  obtain ⟨as, ra⟩ := hr.reads i
  exact ⟨_, .list ho hc hd ra⟩

theorem rep_list_obj {G : GM} {h : Heap} {a : Addr} {vs : Array Value} {xs : List PyData} (hl : h.IsList a vs) (hr : RepAll G vs.toList xs) : ∃ o, h.get? a = some o ∧ o.cls = .type "list" ∧ (∃ n, o.data = .seq vs n) := by
  obtain ⟨o, ho, hc, n, hd⟩ := hl; exact ⟨o, ho, hc, n, hd⟩
end

section
variable {M : Model} {A : Around} {E : Value → Shared → Prop} {s : Shared}
/-- an empty list display -/
theorem empty_display {env : Env} {pos : Pos} {Q : Value → Shared → Prop} (h : Q (.ref s.heap.objs.size) { s with heap := s.heap.push { cls := .type "list", data := .seq #[] } }) : wpAny M A (eval (.List [] pos) env) Q E s :=
  wpAny_List (wpAny_items_nil ⟨Nat.zero_le _, h⟩)
end

end Mine
end

section
open PySem PySem.Calls PyProof.Rows
set_option Elab.async false
set_option linter.unusedVariables false
namespace Mine

noncomputable def notSlice : Expr → Bool
  | .Slice .. => false
  | _ => true
theorem sub_plain {e : Expr} (h : notSlice e = true) (o i : Value) : subscripted e false o i = operate [o, i] (getItem o i) := by
  cases e <;> first | rfl | (exact absurd (show false = true from h) Bool.false_ne_true)

theorem at_seq {n : Nat} {i : Int} {k : Nat} (h : at? n i = some k) : seqIndex? i n = some k ∧ k < n := by
  unfold at? at h
  unfold seqIndex?
  split at h
  · split at h
    · cases h
      have : ¬ i < 0 := by omega
      simp only [this, if_false]
      refine ⟨?_, by omega⟩
      rw [if_pos (by simp only [Bool.and_eq_true, decide_eq_true_eq]; omega)]
    · cases h
  · split at h
    · cases h
      have : i < 0 := by omega
      simp only [this, if_true]
      refine ⟨?_, by omega⟩
      rw [if_pos (by simp only [Bool.and_eq_true, decide_eq_true_eq]; omega), Int.add_comm]
    · cases h
theorem at_fit {n : Nat} {i : Int} {k : Nat} (h : at? n i = some k) (hz : okLen n = true) : -(2 ^ 63) ≤ i ∧ i < 2 ^ 63 := by
  have hz' : n ≤ 16777216 := by simpa [okLen] using hz
  unfold at? at h
  split at h
  · split at h
    · omega
    · cases h
  · split at h
    · omega
    · cases h

section
variable {prog : Program} {w : World} {A : Around} {E : Value → Shared → Prop} {s : Shared}
theorem getItem_list_at {l : Addr} {items : Array Value} {i : Int} {t : Tok} {k : Nat} {x : Value} {Q : Value → Shared → Prop} (hl : s.heap.IsList l items) (hk : at? items.size i = some k) (hz : okLen items.size = true) (hx : items[k]? = some x) (h : Q x s) :
    wpAny (model prog w) A (getItem (.ref l) (.int i t)) Q E s := by
  have hf := at_fit hk hz
  unfold at? at hk
  split at hk
  · split at hk
    · cases hk
      exact wpAny_getItem_list hl (by omega) hf.2 hx h
    · cases hk
  · split at hk
    · cases hk
      exact wpAny_getItem_list_neg hl (by omega) (by omega) hf.1 (by rw [Int.add_comm]; exact hx) h
    · cases hk
end

section
variable {Γ : Nat → Fn} {cx : Cx} {st : St} {G : GM} {s : Shared} {Q : Value → Shared → Prop} {E : Value → Shared → Prop} {c a b a' b' : CE} {e x y z : Expr} {pos pos' : Pos} {op o1 o2 : CmpOp}

theorem nil_cmp {l : Addr} {vs : Array Value} {xs : List PyData} (C : cx.Ok) (M : Sim cx G st none s) (hl : s.heap.IsList l vs) (hr : RepAll G vs.toList xs) :
    (Q (.bool xs.isEmpty) { s with heap := s.heap.push { cls := .type "list", data := .seq #[] } } → wpAny (model cx.T.prog cx.T.w) cx.A (compareOp .Eq (.ref l) (.ref s.heap.objs.size)) Q E { s with heap := s.heap.push { cls := .type "list", data := .seq #[] } }) ∧
    (Q (.bool (!xs.isEmpty)) { s with heap := s.heap.push { cls := .type "list", data := .seq #[] } } → wpAny (model cx.T.prog cx.T.w) cx.A (compareOp .NotEq (.ref l) (.ref s.heap.objs.size)) Q E { s with heap := s.heap.push { cls := .type "list", data := .seq #[] } }) := by
  have h1 : (s.heap.push { cls := .type "list", data := .seq #[] }).IsList l vs := hl.at fun o e => Heap.get?_push_of_some _ e
  have h2 : (s.heap.push { cls := .type "list", data := .seq #[] }).IsList s.heap.objs.size #[] := ⟨_, Heap.get?_push_size _ rfl, rfl, _, rfl⟩
  have hu : cx.A.units < cLine := by have := C.units; omega
  have hlen := hr.length
  cases xs with
  | nil =>
    have hv : vs = #[] := by
      apply Array.ext'
      simpa using hlen
    subst hv
    refine ⟨fun hq => ?_, fun hq => ?_⟩
    · exact SeqAt.RcAt.lists (items := #[]) (items2 := #[]) (e := fun _ => true) h1 h2 rfl hu (fun j j1 => absurd j1 (by simp)) _ _ E Q hq
    · exact SeqAt.RcNeAt.lists (items := #[]) (items2 := #[]) (e := fun _ => true) h1 h2 rfl hu (fun j j1 => absurd j1 (by simp)) _ _ E Q hq
  | cons d ds =>
    have hne : (vs.size != (#[] : Array Value).size) = true := by
      have : vs.size = ds.length + 1 := by simpa using hlen
      simp [this]
    refine ⟨fun hq => ?_, fun hq => ?_⟩
    · exact SeqAt.RcAt.lists_lengths h1 h2 hne hu _ _ E Q hq
    · exact SeqAt.RcNeAt.lists_lengths h1 h2 hne hu _ _ E Q hq

theorem c_eqNil {i : Nat} {z : Str} (C : cx.Ok) (h : isLoc cx.nm cx.env.scope.names i z = true) : SC Γ cx (.eqNil i) (.Name z pos) .Eq (.List [] pos') := fun st G s M Q E ns hok hex => by
  obtain ⟨h1, h2, h3⟩ := acc_of h
  cases hs : listAt st i with
  | none => simp only [qe_eqNil, hs] at ns; exact absurd rfl ns
  | some xs =>
    obtain ⟨l, vs, hv, hl, hr⟩ := M.look hs h1 h2
    refine load_name C.kind hv h3 (empty_display ((nil_cmp C M hl hr).1 ?_))
    exact hok _ st (by simp only [qe_eqNil, hs]) G _ (GM.le_refl _) (M.grow s.toks (ext_push _ _) (by rw [Heap.size_push]; omega))
theorem c_neNil {i : Nat} {z : Str} (C : cx.Ok) (h : isLoc cx.nm cx.env.scope.names i z = true) : SC Γ cx (.neNil i) (.Name z pos) .NotEq (.List [] pos') := fun st G s M Q E ns hok hex => by
  obtain ⟨h1, h2, h3⟩ := acc_of h
  cases hs : listAt st i with
  | none => simp only [qe_neNil, hs] at ns; exact absurd rfl ns
  | some xs =>
    obtain ⟨l, vs, hv, hl, hr⟩ := M.look hs h1 h2
    refine load_name C.kind hv h3 (empty_display ((nil_cmp C M hl hr).2 ?_))
    exact hok _ st (by simp only [qe_neNil, hs]) G _ (GM.le_refl _) (M.grow s.toks (ext_push _ _) (by rw [Heap.size_push]; omega))

theorem c_inOpen {z : Str} (TO : cx.T.Ok) (C : cx.Ok) (ha : SD Γ cx a x) (h : isGl cx.env.scope.names z "OPENING" = true) : SC Γ cx (.inOpen a) x .In (.Name z pos) := fun st G s M Q E ns hok hex => by
  rw [qe_inOpen] at ns hok hex
  refine (ha st G s M).seq ns hex fun d st1 e1 G1 s1 v1 o1 l1 M1 r1 ns1 hex1 => ?_
  obtain ⟨rfl, r1⟩ := r1
  obtain ⟨ad, m, hg, hsm, hm, hf⟩ := TO.opn
  refine load_glob TO C M1 h hg ?_
  cases r1 with
  | str q t =>
    refine wpAny_in_of (strKind_is _ _ q t) hsm (hm _ (M1.top C)) ?_
    have : (m q).isSome = (openF q).isSome := by
      cases ho : openF q with
      | none => rw [(hf q).2 ho]; rfl
      | some y => obtain ⟨t', ht⟩ := (hf q).1 y ho; rw [ht]; rfl
    rw [this]
    exact hok _ st1 (by rw [e1]; rfl) G1 _ l1 (M1.toks _)
  | none => exact (ns1 rfl).elim
  | bool b => exact (ns1 rfl).elim
  | int i t => exact (ns1 rfl).elim
  | list e c d r => exact (ns1 rfl).elim
  | tuple e c d r => exact (ns1 rfl).elim

theorem s_getOpen {z : Str} (TO : cx.T.Ok) (C : cx.Ok) (ha : SD Γ cx a x) (hx : notSlice x = true) (h : isGl cx.env.scope.names z "OPENING" = true) : SE Γ cx (.getOpen a) (.Subscript (.Name z pos') x pos) := fun st G s M Q E ns hok hex => by
  rw [qe_getOpen] at ns hok hex
  obtain ⟨ad, m, hg, hsm, hm, hf⟩ := TO.opn
  refine Subscript_ (load_glob TO C M h hg ?_)
  refine (ha st G s M).seq ns hex fun d st1 e1 G1 s1 v1 o1 l1 M1 r1 ns1 hex1 => ?_
  obtain ⟨rfl, r1⟩ := r1
  have hm1 := hm _ (M1.top C)
  cases r1 with
  | str q t =>
    obtain ⟨d, hd⟩ := okD_ne ns1
    obtain ⟨y, hy, rfl⟩ := Option.map_eq_some_iff.mp hd
    obtain ⟨t', ht⟩ := (hf q).1 y hy
    refine tail_any hm1.typeIs slot_dict_getitem.lookup (wpAny_getItem_of (strKind_is _ _ q t) hm1 ht ?_) (sub_plain hx _ _)
    exact hok (.val (.str y)) st1 (by rw [e1]; simp only [R.bind]; rw [hd]; rfl) G1 _ _ none l1 (M1.toks _) ⟨rfl, .str ..⟩
  | none => exact (ns1 rfl).elim
  | bool b => exact (ns1 rfl).elim
  | int i t => exact (ns1 rfl).elim
  | list e c d r => exact (ns1 rfl).elim
  | tuple e c d r => exact (ns1 rfl).elim

theorem RepAll.size {G : GM} {vs : Array Value} {xs : List PyData} (h : RepAll G vs.toList xs) : vs.size = xs.length := by
  have := h.length; simpa using this

theorem idxL {xs : List PyData} {i : Int} {u : Tok} {p : PyData} {l : Addr} {vs : Array Value} {value slice : Expr} (hsl : notSlice slice = true) (hb : idxF (.list xs) (.int i) = some p) (hl : s.heap.IsList l vs) (hr : RepAll G vs.toList xs)
    (hok : ∀ v, Rep G v p → Q v s) : wpAny (model cx.T.prog cx.T.w) cx.A (subscriptTail value slice (.ref l) (.int i u)) Q E s := by
  simp only [idxF] at hb
  split at hb
  · rename_i hz
    obtain ⟨k, hk, hp⟩ := Option.bind_eq_some_iff.mp hb
    obtain ⟨x, hx, hxr⟩ := hr.get k _ hp
    exact tail_any hl.typeIs slot_list_getitem.lookup (getItem_list_at hl (by rw [hr.size]; exact hk) (by rw [hr.size]; exact hz) (by simpa using hx) (hok _ hxr)) (sub_plain hsl _ _)
  · cases hb

/-- an item -/
theorem idx_ok {d i p : PyData} {v u : Value} {value slice : Expr} (hsl : notSlice slice = true) (hb : idxF d i = some p) (M : Sim cx G st none s) (hv : Rep G v d) (hu : Rep G u i)
    (hok : ∀ v n, Rep G v p → Q v { s with toks := n }) : wpAny (model cx.T.prog cx.T.w) cx.A (subscriptTail value slice v u) Q E s := by
  unfold idxF at hb
  split at hb
  · cases hv; cases hu
    split at hb
    · rename_i hz
      obtain ⟨c, hc, rfl⟩ := Option.map_eq_some_iff.mp hb
      obtain ⟨k, hk, hc⟩ := Option.bind_eq_some_iff.mp hc
      have hf := at_fit hk hz
      refine tail_any (typeIs_str _ _ _) slot_str_getitem.lookup (getItem_str ?_ ?_ (hok _ _ (.str _ _))) (sub_plain hsl _ _)
      · simp only [Bool.or_eq_false_iff, decide_eq_false_iff_not]; omega
      · rw [len_cs, (at_seq hk).1]
        simpa [cs] using hc
    · cases hb
  · obtain ⟨l, vs, rfl, hl, hr⟩ := rep_list_at M.gin hv
    cases hu
    exact idxL hsl (by simpa only [idxF] using hb) hl hr fun v hv => hok v s.toks hv
  · obtain ⟨l, vs, rfl, hl, hr⟩ := rep_tup_at M.gin hv
    cases hu
    split at hb
    · rename_i hz
      obtain ⟨k, hk, hp⟩ := Option.bind_eq_some_iff.mp hb
      obtain ⟨x, hx, hxr⟩ := hr.get k _ hp
      have hf := at_fit hk hz
      refine tail_any hl.typeIs slot_tuple_getitem.lookup (getItem_tuple hl hf.1 hf.2 (by rw [hr.size]; exact (at_seq hk).1) (by simpa using hx) (hok _ s.toks hxr)) (sub_plain hsl _ _)
    · cases hb
  · cases hb

theorem s_idx (ha : SD Γ cx a x) (hb : SD Γ cx b y) (hy : notSlice y = true) : SE Γ cx (.idx a b) (.Subscript x y pos) := fun st G s M Q E ns hok hex => by
  rw [qe_idx] at ns hok hex
  refine Subscript_ ?_
  refine (ha st G s M).seq ns hex fun d st1 e1 G1 s1 v1 o1 l1 M1 r1 ns1 hex1 => ?_
  obtain ⟨rfl, r1⟩ := r1
  refine (hb st1 G1 s1 M1).seq ns1 hex1 fun d' st2 e2 G2 s2 v2 o2 l2 M2 r2 ns2 hex2 => ?_
  obtain ⟨rfl, r2⟩ := r2
  obtain ⟨t, ht⟩ := okD_ne ns2
  refine idx_ok hy ht M2 (r1.mono l2) r2 fun v n hr => ?_
  exact hok (.val t) st2 (by rw [e1]; simp only [R.bind]; rw [e2]; simp only [R.bind]; rw [ht]; rfl) G2 _ v none (GM.le_trans l1 l2) (M2.toks n) ⟨rfl, hr⟩

/-- the same, while the names stay -/
noncomputable def Cx.Like (cx cx' : Cx) : Prop := cx'.T = cx.T ∧ cx'.A = cx.A ∧ cx'.env = cx.env ∧ cx'.nm = cx.nm ∧ cx'.G₀ = cx.G₀ ∧ cx'.priv = cx.priv
theorem Cx.like_pin (cx : Cx) (s : Shared) : cx.Like (cx.pin s) := ⟨rfl, rfl, rfl, rfl, rfl, rfl⟩
theorem Cx.Ok.like {cx cx' : Cx} (C : cx.Ok) (h : cx.Like cx') : cx'.Ok := by
  obtain ⟨h1, h2, h3, h4, h5, h6⟩ := h
  exact ⟨by rw [h3]; exact C.kind, by rw [h3]; exact C.glob, by rw [h3]; exact C.bltn, by rw [h1, h5]; exact C.top, by rw [h2]; exact C.hand, by rw [h2]; exact C.units, by rw [h2]; exact C.depth⟩

theorem Cx.Half.like {cx cx' : Cx} (H : cx.Half) (h : cx.Like cx') : cx'.Half := by
  obtain ⟨h1, h2, h3, h4, h5, h6⟩ := h
  exact ⟨by rw [h3, h6]; exact H.loc, by rw [h3, h6]; exact H.cell, by rw [h3]; exact H.has⟩

theorem fly_pin {cx : Cx} {s : Shared} {k : Nat} {e : Addr} {s' : Shared} (h : Fly (cx.pin s) k e s') : Fly cx k e s' := h

/-- a step behind a name's being loaded: the name's list is where it was -/
theorem pinned {i : Nat} {z : Str} {α : Type} {r : R (PyData × St)} {t : Sem α} {Rl : GM → Heap → α → Option Addr → PyData → Prop} {δ : Type} {f : PyData × St → R (δ × St)} {Q : α → Shared → Prop} {l : Addr} (M : Sim cx G st none s) (hv : Holds cx.env s.heap z (.ref l))
    (h : Tri (cx.pin s) Rl r t G s) (ns : r.bind f ≠ .stuck)
    (hex : ∀ k st', r.bind f = .exc k st' → ∀ G' s' e, G.le G' → Sim cx G' st' none s' → Fly cx k e s' → E (.ref e) s')
    (hok : ∀ b st', r = .ok (b, st') → ∀ G' s' v x, G.le G' → Sim cx G' st' x s' → Rl G' s'.heap v x b → Holds cx.env s'.heap z (.ref l) → f (b, st') ≠ .stuck → Q v s') :
    wpAny (model cx.T.prog cx.T.w) cx.A t Q E s :=
  h.seq (cx := cx.pin s) ns (fun k st' e G' s' a l' M' q => hex k st' e G' s' a l' (M'.unpin M.keep) (fly_pin q)) fun b st' e G' s' v x l' M' r' ns' _ => hok b st' e G' s' v x l' (M'.unpin M.keep) r' (hv.pin M') ns'

theorem Sim.lookAt {i : Nat} {xs : List PyData} {z : Str} {l : Addr} (M : Sim cx G st none s) (hs : listAt st i = some xs) (hy : cx.nm[i]? = some z) (ha : Acc cx.env z) (hv : Holds cx.env s.heap z (.ref l)) :
    ∃ vs, s.heap.IsList l vs ∧ RepAll G vs.toList xs := by
  obtain ⟨a, vs, h1, h2, h3⟩ := M.look hs hy ha
  have := h1.uniq hv
  cases this
  exact ⟨vs, h2, h3⟩

theorem s_idxv {i : Nat} {z : Str} (C : cx.Ok) (hb : ∀ cx', cx.Like cx' → SD Γ cx' b y) (hy : notSlice y = true) (h : isLoc cx.nm cx.env.scope.names i z = true) :
    SE Γ cx (.idxv i b) (.Subscript (.Name z pos') y pos) := fun st G s M Q E ns hok hex => by
  obtain ⟨h1, h2, h3⟩ := acc_of h
  cases hs : listAt st i with
  | none => simp only [qe_idxv, hs] at ns; exact absurd rfl ns
  | some xs =>
    obtain ⟨l, vs, hv, hl, hr⟩ := M.look hs h1 h2
    simp only [qe_idxv, hs] at ns hok hex
    refine Subscript_ (load_name C.kind hv h3 ?_)
    refine pinned (i := i) M hv (hb _ (cx.like_pin s) st G s M.pin) ns hex fun d st1 e1 G1 s1 v1 o1 l1 M1 r1 hv1 ns1 => ?_
    obtain ⟨rfl, r1⟩ := r1
    dsimp only at ns1
    cases hs1 : listAt st1 i with
    | none => rw [hs1] at ns1; exact absurd rfl ns1
    | some ys =>
      rw [hs1] at ns1
      obtain ⟨t, ht⟩ := okD_ne ns1
      obtain ⟨ws, hl1, hr1⟩ := M1.lookAt hs1 h1 h2 hv1
      have fin : ∀ v n, Rep G1 v t → Q v { s1 with toks := n } := fun v n hr =>
        hok (.val t) st1 (by rw [e1]; simp only [R.bind, hs1]; rw [ht]; rfl) G1 _ v none l1 (M1.toks n) ⟨rfl, hr⟩
      cases r1 with
      | int j u => exact idxL hy ht hl1 hr1 fun v hv => fin v s1.toks hv
      | none => cases ht
      | bool b => cases ht
      | str x t => cases ht
      | list e c d r => cases ht
      | tuple e c d r => cases ht
end
end Mine
end

section
open PySem PySem.Calls PyProof.Rows
set_option Elab.async false
set_option linter.unusedVariables false
namespace Mine

section
variable {M : Model} {A : Around} {E : Value → Shared → Prop} {s : Shared} {env : Env}

theorem cmp2_wp {l r1 r2 : Expr} {o1 o2 : CmpOp} {pos : Pos} {Q : Value → Shared → Prop} (hm : behindInMarks o2 r2 = false)
    (h : wpAny M A (eval l env) (fun a s₁ => wpAny M A (eval r1 env) (fun b s₂ => wpAny M A (compareOp o1 a b) (fun c s₃ => wpAny M A (truthy c) (fun t s₄ =>
      if t then wpAny M A (eval r2 env) (fun d s₅ => wpAny M A (compareOp o2 b d) Q E s₅) E s₄ else Q c s₄) E s₃) E s₂) E s₁) E s) :
    wpAny M A (eval (.Compare l [o1, o2] [r1, r2] pos) env) Q E s := by
  refine Compare_chain ?_ (by exact hm)
  refine wpAny_mono h (fun a s₁ h₁ => ?_) fun _ _ x => x
  rw [compareChain]
  · refine wpAny_bind (wpAny_holding (wpAny_mono h₁ (fun b s₂ h₂ => wpAny_bind (wpAny_standAt (wpAny_bind (wpAny_holding (wpAny_mono h₂ (fun c s₃ h₃ => ?_) fun _ _ x => x))))) fun _ _ x => x))
    refine wpAny_bind (wpAny_release' (wpAny_bind (wpAny_holding (wpAny_mono h₃ (fun t s₄ h₄ => ?_) fun _ _ x => x))))
    cases t with
    | false => exact wpAny_pure h₄
    | true =>
      show wpAny M A (compareChain pos b [o2] [eval r2 env]) Q E s₄
      rw [compareChain]
      exact wpAny_bind (wpAny_holding (wpAny_mono h₄ (fun d s₅ h₅ => wpAny_bind (wpAny_standAt (wpAny_operate' h₅))) fun _ _ x => x))
  · intro h; cases h
theorem cmp2_test {l r1 r2 : Expr} {o1 o2 : CmpOp} {pos : Pos} {whole : Sem Value} {Q : Bool → Shared → Prop} (hm : behindInMarks o2 r2 = false)
    (h : wpAny M A (eval l env) (fun a s₁ => wpAny M A (eval r1 env) (fun b s₂ => wpAny M A (compareOp o1 a b) (fun c s₃ => wpAny M A (truthy c) (fun t s₄ =>
      if t then wpAny M A (eval r2 env) (fun d s₅ => wpAny M A (compareOp o2 b d) (fun c s₆ => wpAny M A (truthy c) Q E s₆) E s₅) E s₄ else Q false s₄) E s₃) E s₂) E s₁) E s) :
    wpAny M A (isTrue (.Compare l [o1, o2] [r1, r2] pos) env whole) Q E s := by
  refine isTrue_chain ?_ (by exact hm)
  refine wpAny_mono h (fun a s₁ h₁ => ?_) fun _ _ x => x
  rw [testChain]
  · refine wpAny_bind (wpAny_holding (wpAny_mono h₁ (fun b s₂ h₂ => wpAny_bind (wpAny_standAt (wpAny_bind (wpAny_holding (wpAny_mono h₂ (fun c s₃ h₃ => ?_) fun _ _ x => x))))) fun _ _ x => x))
    refine wpAny_bind (wpAny_release' (wpAny_bind (wpAny_holding (wpAny_mono h₃ (fun t s₄ h₄ => ?_) fun _ _ x => x))))
    cases t with
    | false => exact wpAny_pure h₄
    | true =>
      show wpAny M A (testChain pos b [o2] [eval r2 env]) Q E s₄
      rw [testChain]
      exact wpAny_bind (wpAny_holding (wpAny_mono h₄ (fun d s₅ h₅ => wpAny_bind (wpAny_standAt (wpAny_bind (wpAny_operate' (wpAny_mono h₅ (fun c s₆ h₆ => wpAny_holding h₆) fun _ _ x => x))))) fun _ _ x => x))
  · intro h; cases h
end

section
variable {Γ : Nat → Fn} {cx : Cx} {st : St} {G : GM} {s : Shared} {Q : Value → Shared → Prop} {E : Value → Shared → Prop} {c a b a' b' : CE} {e x y z : Expr} {pos pos' : Pos} {op o1 o2 : CmpOp}

/-- a chain of two comparisons, walked -/
theorem chain_core (C : cx.Ok) (ha : SD Γ cx a x) (hb : SD Γ cx b y) (hc : SD Γ cx c z) (M : Sim cx G st none s) (ns : ev Γ (.chain2 a o1 b o2 c) st ≠ .stuck)
    {K : Value → Value → Shared → Prop} {Q0 : Value → Shared → Prop}
    (hok1 : ∀ t st', ev Γ (.chain2 a o1 b o2 c) st = .ok (.val (.bool t), st') → ∀ G' s', G.le G' → Sim cx G' st' none s' → Q (.bool t) s')
    (hok0 : ∀ st', ev Γ (.chain2 a o1 b o2 c) st = .ok (.val (.bool false), st') → ∀ G' s', G.le G' → Sim cx G' st' none s' → Q0 (.bool false) s')
    (hex : ∀ k st', ev Γ (.chain2 a o1 b o2 c) st = .exc k st' → ∀ G' s' e, G.le G' → Sim cx G' st' none s' → Fly cx k e s' → E (.ref e) s') :
    wpAny (model cx.T.prog cx.T.w) cx.A (eval x cx.env) (fun a s₁ => wpAny (model cx.T.prog cx.T.w) cx.A (eval y cx.env) (fun b s₂ => wpAny (model cx.T.prog cx.T.w) cx.A (compareOp o1 a b) (fun c s₃ => wpAny (model cx.T.prog cx.T.w) cx.A (truthy c) (fun t s₄ =>
      if t then wpAny (model cx.T.prog cx.T.w) cx.A (eval z cx.env) (fun d s₅ => wpAny (model cx.T.prog cx.T.w) cx.A (compareOp o2 b d) Q E s₅) E s₄ else Q0 c s₄) E s₃) E s₂) E s₁) E s := by
  rw [qe_chain2] at ns hok1 hok0 hex
  refine (ha st G s M).seq ns hex fun d st1 e1 G1 s1 v1 p1 l1 M1 r1 ns1 hex1 => ?_
  obtain ⟨rfl, r1⟩ := r1
  refine (hb st1 G1 s1 M1).seq ns1 hex1 fun d' st2 e2 G2 s2 v2 p2 l2 M2 r2 ns2 hex2 => ?_
  obtain ⟨rfl, r2⟩ := r2
  simp only [e1, R.bind, e2] at hok1 hok0
  dsimp only at ns2 hex2
  cases h1 : cmpF o1 d d' with
  | none => rw [h1] at ns2; exact absurd rfl ns2
  | some t =>
    rw [h1] at ns2 hex2 hok1 hok0
    refine cmp_ok C h1 M2 (r1.mono l2) r2 (wpAny_truthy_bool ?_)
    cases t with
    | false => exact hok0 st2 rfl G2 s2 (GM.le_trans l1 l2) M2
    | true =>
      refine (hc st2 G2 s2 M2).seq ns2 hex2 fun d'' st3 e3 G3 s3 v3 p3 l3 M3 r3 ns3 hex3 => ?_
      obtain ⟨rfl, r3⟩ := r3
      obtain ⟨t, ht⟩ := okB_ne ns3
      exact cmp_ok C ht M3 (r2.mono l3) r3 (hok1 t st3 (by simp only [e3, R.bind]; rw [ht]; rfl) G3 s3 (GM.le_trans l1 (GM.le_trans l2 l3)) M3)

theorem s_chain2 (C : cx.Ok) (ha : SD Γ cx a x) (hb : SD Γ cx b y) (hc : SD Γ cx c z) (hm : behindInMarks o2 z = false) : SE Γ cx (.chain2 a o1 b o2 c) (.Compare x [o1, o2] [y, z] pos) := fun st G s M Q E ns hok hex =>
  cmp2_wp hm (chain_core (K := fun _ _ _ => True) (Q := Q) (Q0 := Q) C ha hb hc M ns (fun t st' e G' s' l M' => hok _ st' e G' s' _ none l M' ⟨rfl, .bool _⟩) (fun st' e G' s' l M' => hok _ st' e G' s' _ none l M' ⟨rfl, .bool _⟩) hex)
theorem b_chain2 (C : cx.Ok) (ha : SD Γ cx a x) (hb : SD Γ cx b y) (hc : SD Γ cx c z) (hm : behindInMarks o2 z = false) : SB Γ cx (.chain2 a o1 b o2 c) (.Compare x [o1, o2] [y, z] pos) := fun st G s M Q E ns hok hex =>
  cmp2_test hm (chain_core (K := fun _ _ _ => True) (Q0 := fun _ s => Q false s) C ha hb hc M (toB_ne ns)
    (fun t st' e G' s' l M' => wpAny_truthy_bool (hok t st' (toB_ok' e) G' s' t none l M' ⟨rfl, rfl⟩)) (fun st' e G' s' l M' => hok false st' (toB_ok' e) G' s' _ none l M' ⟨rfl, rfl⟩) (fun k st' e => hex k st' (toB_exc e)))

/-- items, one behind the other -/
noncomputable def SL (Γ : Nat → Fn) (cx : Cx) (cs : CEs) (es : List Expr) : Prop := ∀ (pos : Pos) st G s, Sim cx G st none s → Tri cx RL (evs Γ cs st) (spliced (backTo pos (starEach es cx.env))) G s

theorem l_nil : SL Γ cx .nil [] := fun pos st G s M Q E ns hok hex => wpAny_items_nil (hok [] st rfl G s [] none (GM.le_refl _) M ⟨rfl, .nil⟩)
noncomputable def notStar : Expr → Bool
  | .Starred .. => false
  | _ => true
theorem star_cons {e : Expr} {rest : List Expr} {env : Env} (h : notStar e = true) : starEach (e :: rest) env = (false, eval e env) :: starEach rest env := by
  cases e <;> first | rfl | (exact absurd (show false = true from h) Bool.false_ne_true)
theorem l_cons {cs : CEs} {es : List Expr} (hs : notStar x = true) (ha : SD Γ cx a x) (hb : SL Γ cx cs es) : SL Γ cx (.cons a cs) (x :: es) := fun pos st G s M Q E ns hok hex => by
  rw [qs_cons] at ns hok hex
  rw [star_cons hs]
  show wpAny _ _ (spliced ((false, eval x cx.env) :: backTo pos (starEach es cx.env))) Q E s
  refine spliced_cons ?_
  refine (ha st G s M).seq ns hex fun d st1 e1 G1 s1 v1 p1 l1 M1 r1 ns1 hex1 => ?_
  obtain ⟨rfl, r1⟩ := r1
  refine (hb pos st1 G1 s1 M1).seq ns1 hex1 fun ds st2 e2 G2 s2 vs p2 l2 M2 r2 ns2 hex2 => ?_
  obtain ⟨rfl, r2⟩ := r2
  exact hok (d :: ds) st2 (by simp only [e1, R.bind, e2]) G2 s2 (v1 :: vs) none (GM.le_trans l1 l2) M2 ⟨rfl, .cons (r1.mono l2) r2⟩

/-- the terms' own bound on a display -/
noncomputable def CEs.len : CEs → Nat
  | .nil => 0
  | .cons _ r => r.len + 1
theorem evs_len : ∀ (cs : CEs) (st : St) (ds : List PyData) (st' : St), evs Γ cs st = .ok (ds, st') → ds.length = cs.len
  | .nil, st, ds, st', h => by rw [qs_nil] at h; cases h; rfl
  | .cons e r, st, ds, st', h => by
    rw [qs_cons] at h
    cases h1 : toD (ev Γ e st) with
    | ok p =>
      obtain ⟨d, st1⟩ := p
      simp only [h1, R.bind] at h
      cases h2 : evs Γ r st1 with
      | ok q =>
        obtain ⟨ds', st2⟩ := q
        simp only [h2, R.bind] at h
        cases h
        simp [CEs.len, evs_len r _ _ _ h2]
      | exc k st2 => simp only [h2, R.bind] at h; cases h
      | stuck => simp only [h2, R.bind] at h; cases h
    | exc k st2 => simp only [h1, R.bind] at h; cases h
    | stuck => simp only [h1, R.bind] at h; cases h

theorem s_tup {cs : CEs} {es : List Expr} {k : Nat} (hl : SL Γ cx cs es) (hz : cs.len ≤ 1000) : SE Γ cx (.tup cs) (.Tuple es k pos) := fun st G s M Q E ns hok hex => by
  rw [qe_tup] at ns hok hex
  refine wpAny_Tuple ?_
  refine (hl pos st G s M).seq ns hex fun ds st1 e1 G1 s1 vs p1 l1 M1 r1 ns1 hex1 => ?_
  obtain ⟨rfl, r1⟩ := r1
  obtain ⟨G', l', M', hO⟩ := M1.newTup (vs := vs.toArray) 0 (by simpa using r1) s1.toks
  refine ⟨?_, hok (.val (.tuple ds)) st1 (by simp only [e1, R.bind]) G' _ _ none (GM.le_trans l1 l') M' ⟨rfl, hO⟩⟩
  rw [r1.length, evs_len cs st ds st1 e1, sizeLine_eq]; omega
theorem s_lst {cs : CEs} {es : List Expr} (hl : SL Γ cx cs es) (hz : cs.len ≤ 1000) : SE Γ cx (.lst cs) (.List es pos) := fun st G s M Q E ns hok hex => by
  rw [qe_lst] at ns hok hex
  refine wpAny_List ?_
  refine (hl pos st G s M).seq ns hex fun ds st1 e1 G1 s1 vs p1 l1 M1 r1 ns1 hex1 => ?_
  obtain ⟨rfl, r1⟩ := r1
  obtain ⟨M', hO⟩ := M1.newList (vs := vs.toArray) 0 (by simpa using r1) s1.toks
  refine ⟨?_, hok (.own ds) st1 (by simp only [e1, R.bind]) G1 _ _ _ l1 M' ⟨_, rfl, rfl, hO⟩⟩
  rw [r1.length, evs_len cs st ds st1 e1, sizeLine_eq]; omega
end
end Mine
end

section
open PySem PySem.Calls PyProof.Rows
set_option Elab.async false
set_option linter.unusedVariables false
namespace Mine

noncomputable def tyStr : Ty → String
  | .str => "str"
  | .int => "int"
  | .bool => "bool"
  | .list => "list"
  | .tuple => "tuple"

/-! slices, and the calls of built-in functions -/

theorem bnd_part {G : GM} {v : Value} {d : PyData} {n k : Nat} (r : Rep G v d) (h : bnd (some d) n = some k) : ∃ t, v = .int k t ∧ d = .int k := by
  unfold bnd at h
  cases r with
  | int i t =>
    dsimp only at h
    split at h
    · rename_i hk; cases h; exact ⟨t, by rw [Int.toNat_of_nonneg hk.1], by rw [Int.toNat_of_nonneg hk.1]⟩
    · cases h
  | none => cases h
  | bool b => cases h
  | str x t => cases h
  | list e c d r => cases h
  | tuple e c d r => cases h

theorem cut_same {α : Type} (l : List α) (a b : Nat) : (l.drop (min a l.length)).take (min b l.length - min a l.length) = (l.take b).drop a := by
  rw [List.drop_take]
  by_cases h : a ≤ l.length
  · rw [Nat.min_eq_left h]
    by_cases h' : b ≤ l.length
    · rw [Nat.min_eq_left h']
    · rw [Nat.min_eq_right (by omega)]
      rw [List.take_of_length_le (by simp), List.take_of_length_le (by simp; omega)]
  · have e1 : l.drop a = [] := List.drop_eq_nil_of_le (by omega)
    have e2 : l.drop (min a l.length) = [] := List.drop_eq_nil_of_le (by omega)
    rw [e1, e2]; simp

/-- the two ends of a slice -/
noncomputable def endsOk (lo hi : Option Int) (n a b : Nat) : Prop := (lo = none ∧ a = 0 ∨ lo = some (a : Int)) ∧ (hi = none ∧ b = n ∨ hi = some (b : Int))

noncomputable def clipO (v : Option Int) (d n : Int) : Int := match v with
  | none => d
  | some i => max 0 (min (if i < 0 then i + n else i) n)
theorem clip_one {v : Option Int} {n a d : Nat} (h : v = none ∧ a = d ∨ v = some (a : Int)) (hd : d ≤ n) : clipO v d n = ((min a n : Nat) : Int) := by
  unfold clipO
  rcases h with ⟨rfl, rfl⟩ | rfl
  · simp only; omega
  · have : ¬ ((a : Int) < 0) := by omega
    simp only [this, if_false]; omega

theorem slicePick_is (items : Array Value) {lo hi : Option Int} {a b : Nat} (h : endsOk lo hi items.size a b) : (slicePick items lo hi none).toList = (items.toList.take b).drop a := by
  have e : sliceBounds lo hi none items.size = (((min a items.size : Nat) : Int), ((min b items.size : Nat) : Int), 1) := by
    simp only [sliceBounds, Option.getD_none, show (1 : Int) > 0 by decide, if_true]
    have h1 := clip_one (n := items.size) h.1 (Nat.zero_le _)
    have h2 := clip_one (n := items.size) h.2 (Nat.le_refl _)
    rw [← h1, ← h2]
    cases lo <;> cases hi <;> rfl
  unfold slicePick
  rw [e]
  simp only [sliceRange_one, pick_run]
  rw [List.toList_toArray]
  have := cut_same items.toList a b
  rwa [Array.length_toList] at this

theorem slicePicked_is (x : Str) {l u : Option (Int × Tok)} {a b : Nat} (h : endsOk (l.map (·.1)) (u.map (·.1)) (cs x).length a b) : (slicePicked x l u none).filterMap (x.cps[·]?) = ((cs x).take b).drop a ∧ (slicePicked x l u none).length = (((cs x).take b).drop a).length := by
  have hn : x.length = (cs x).length := len_cs x
  have e : slicePicked x l u none = (List.range (min b (cs x).length - min a (cs x).length)).map (min a (cs x).length + ·) := by
    unfold slicePicked Builtin.Str.strSliceIndices
    simp only [Option.map_none, Option.getD_none, show (1 : Int) > 0 by decide, if_true]
    have h1 := clip_one (n := (cs x).length) h.1 (Nat.zero_le _)
    have h2 := clip_one (n := (cs x).length) h.2 (Nat.le_refl _)
    rw [← sliceRange_one, ← h1, ← h2, hn]
    cases l <;> cases u <;> rfl
  rw [e]
  have hp := pick_run x.cps (min a (cs x).length) (min b (cs x).length - min a (cs x).length)
  have hc := cut_same (cs x) a b
  refine ⟨hp.trans hc, ?_⟩
  rw [List.length_map, List.length_range, ← hc, List.length_take, List.length_drop]
  omega

section
variable {Γ : Nat → Fn} {cx : Cx} {st : St} {G : GM} {s : Shared} {Q : Value → Shared → Prop} {E : Value → Shared → Prop} {c a b a' b' : CE} {e x y z : Expr} {pos pos' : Pos} {op o1 o2 : CmpOp}

/-- an end of a slice that may be left out -/
noncomputable def RO (G : GM) (_ : Heap) (v : Value) (x : Option Addr) (o : Option PyData) : Prop := x = none ∧ match o with | none => v = .none | some d => Rep G v d
noncomputable def SO (Γ : Nat → Fn) (cx : Cx) (c : CEo) (e : Option Expr) : Prop := ∀ st G s, Sim cx G st none s → Tri cx RO (evo Γ c st) (evalPart e cx.env) G s
theorem o_no : SO Γ cx .no none := fun st G s M Q E ns hok hex => wpAny_pure (hok none st rfl G s .none none (GM.le_refl _) M ⟨rfl, rfl⟩)
theorem o_yes (h : SD Γ cx c e) : SO Γ cx (.yes c) (some e) := fun st G s M Q E ns hok hex => by
  rw [qo_yes] at ns hok hex
  refine (h st G s M).seq ns hex fun d st1 e1 G1 s1 v1 p1 l1 M1 r1 ns1 hex1 => ?_
  obtain ⟨rfl, r1⟩ := r1
  exact hok (some d) st1 (by rw [e1]; rfl) G1 s1 v1 none l1 M1 ⟨rfl, r1⟩

theorem RO.part {G : GM} {h : Heap} {v : Value} {o : Option PyData} {x : Option Addr} {n k : Nat} (r : RO G h v x o) (hb : bnd o n = some k) : ∃ p : Option (Int × Tok), v = partValue p ∧ (p.map (·.1) = none ∧ k = n ∨ p.map (·.1) = some (k : Int)) := by
  cases o with
  | none =>
    obtain ⟨_, rfl⟩ := r
    simp only [bnd, Option.some.injEq] at hb
    exact ⟨none, rfl, .inl ⟨rfl, hb.symm⟩⟩
  | some d =>
    obtain ⟨_, r⟩ := r
    obtain ⟨t, rfl, _⟩ := bnd_part r hb
    exact ⟨some ((k : Int), t), rfl, .inr rfl⟩

theorem isPart_of (p : Option (Int × Tok)) : IsPart (partValue p) (p.map (·.1)) := by
  cases p with
  | none => exact .none
  | some q => exact .int q.1 q.2

theorem s_slc {lo hi : CEo} {l u : Option Expr} (ha : SD Γ cx a x) (hlo : SO Γ cx lo l) (hhi : SO Γ cx hi u) : SE Γ cx (.slc a lo hi) (.Subscript x (.Slice l u none pos') pos) := fun st G s M Q E ns hok hex => by
  rw [qe_slc] at ns hok hex
  refine Subscript_ ?_
  refine (ha st G s M).seq ns hex fun d st1 e1 G1 s1 v1 p1 l1 M1 r1 ns1 hex1 => ?_
  obtain ⟨rfl, r1⟩ := r1
  refine wpAny_Slice ?_
  refine (hlo st1 G1 s1 M1).seq ns1 hex1 fun o2 st2 e2 G2 s2 v2 p2 l2 M2 r2 ns2 hex2 => ?_
  have := r2.1; subst this
  refine (hhi st2 G2 s2 M2).seq ns2 hex2 fun o3 st3 e3 G3 s3 v3 p3 l3 M3 r3 ns3 hex3 => ?_
  have := r3.1; subst this
  obtain ⟨f, hf⟩ := okF_ne ns3
  have hev : ev Γ (.slc a lo hi) st = .ok (f, st3) := by rw [qe_slc]; simp only [e1, R.bind, e2, e3]; rw [hf]; rfl
  rw [qe_slc] at hev
  rw [evalPart_none]
  refine wpAny_pure ?_
  have lt := GM.le_trans l1 (GM.le_trans l2 l3)
  have r1' := r1.mono (GM.le_trans l2 l3)
  generalize hs4 : ({ s3 with heap := s3.heap.push { cls := .type "slice", data := .fields #[v2, v3, .none] } } : Shared) = s4
  have M4 : Sim cx G3 st3 none s4 := by rw [← hs4]; exact M3.grow s3.toks (ext_push _ _) (by rw [Heap.size_push]; omega)
  have hsl : ∀ o i, subscripted (.Slice l u none pos') false o i = operate [i, o] (getItem o i) := fun _ _ => rfl
  have hobj : s4.heap.get? s3.heap.objs.size = some { cls := .type "slice", data := .fields #[v2, v3, .none] } := by rw [← hs4]; exact Heap.get?_push_size _ rfl
  cases d with
  | str q =>
    simp only [slF] at hf
    cases r1' with
    | str _ t =>
      split at hf
      · rename_i hz
        obtain ⟨k1, hk1, hf⟩ := Option.bind_eq_some_iff.mp hf
        obtain ⟨k2, hk2, rfl⟩ := Option.map_eq_some_iff.mp hf
        obtain ⟨q1, rfl, hq1⟩ := r2.part hk1
        obtain ⟨q2, rfl, hq2⟩ := r3.part hk2
        have hp := slicePicked_is q (l := q1) (u := q2) (a := k1) (b := k2) ⟨hq1, hq2⟩
        refine tail_any (typeIs_str _ _ _) slot_str_getitem.lookup (wpAny_getItem_str_slice (l := q1) (u := q2) (st := none) ⟨_, hobj, rfl, rfl⟩ rfl ?_) (hsl _ _)
        have hlen : (((cs q).take k2).drop k1).length ≤ (cs q).length := by rw [List.length_drop, List.length_take]; omega
        unfold sliceMade
        split
        · rename_i hw
          simp only [Option.map_none, Option.getD_none, beq_self_eq_true, Bool.true_and, beq_iff_eq] at hw
          rw [hp.2, len_cs] at hw
          have hsame : ((cs q).take k2).drop k1 = cs q := by
            have hsub : (((cs q).take k2).drop k1).Sublist (cs q) := (List.drop_sublist _ _).trans (List.take_sublist _ _)
            exact hsub.eq_of_length hw
          refine hok _ st3 hev G3 _ _ none lt M4 ⟨rfl, ?_⟩
          rw [hsame, S_cs]; exact .str ..
        · refine ⟨?_, hok _ st3 hev G3 _ _ none lt (M4.toks _) ⟨rfl, ?_⟩⟩
          · have hz' := okLen_le hz
            show (((slicePicked q q1 q2 none).filterMap (q.cps[·]?)).toArray).size ≤ sizeLine
            rw [hp.1, List.size_toArray]; omega
          · rw [hp.1]; exact .str ..
      · cases hf
  | list xs =>
    simp only [slF] at hf
    obtain ⟨la, vs, rfl, hl, hr⟩ := rep_list_at M4.gin r1'
    split at hf
    · rename_i hz
      obtain ⟨k1, hk1, hf⟩ := Option.bind_eq_some_iff.mp hf
      obtain ⟨k2, hk2, rfl⟩ := Option.map_eq_some_iff.mp hf
      obtain ⟨q1, rfl, hq1⟩ := r2.part hk1
      obtain ⟨q2, rfl, hq2⟩ := r3.part hk2
      have hp := slicePick_is vs (lo := q1.map (·.1)) (hi := q2.map (·.1)) (a := k1) (b := k2) ⟨hq1, by rw [hr.size]; exact hq2⟩
      refine tail_any hl.typeIs slot_list_getitem.lookup (wpAny_getItem_list_slice hl ⟨_, hobj, rfl, rfl⟩ (isPart_of q1) (isPart_of q2) .none (by simp) ?_ (by rw [hr.size]; exact okLen_le hz)) (hsl _ _)
      obtain ⟨M', hO⟩ := M4.newList (vs := slicePick vs (q1.map (·.1)) (q2.map (·.1)) none) 0 (by rw [hp]; exact (hr.take k2).drop k1) s4.toks
      exact hok (.own _) st3 hev G3 _ _ _ lt M' ⟨_, rfl, rfl, hO⟩
    · cases hf
  | none => cases hf
  | bool b => cases hf
  | int i => cases hf
  | tuple xs => cases hf
  | dict xs => cases hf

/-- the call of a name with one argument -/
theorem call1 {f : Str} {fp : Pos} {fv : Value} {r : R (PyData × St)} {δ : Type} {k : PyData × St → R (δ × St)}
    (hfv : (∃ id, fv = .builtin id) ∨ ∃ T, fv = .type T) (hx : notStar x = true) (hn : wpAny (model cx.T.prog cx.T.w) cx.A (eval (.Name f fp) cx.env) (fun v s' => v = fv ∧ s' = s) E s)
    (h : wpAny (model cx.T.prog cx.T.w) cx.A (eval x cx.env) (fun v s₁ => wpAny (model cx.T.prog cx.T.w) cx.A (call fv [v]) Q E s₁) E s) :
    wpAny (model cx.T.prog cx.T.w) cx.A (eval (.Call (.Name f fp) [x] [] pos) cx.env) Q E s := by
  refine Call_Name (trees := [(false, eval x cx.env)]) (by rw [star_cons hx]; rfl) (wpAny_mono hn (fun v s' hv => ?_) fun _ _ e => e)
  obtain ⟨rfl, rfl⟩ := hv
  have ha : wpAny (model cx.T.prog cx.T.w) cx.A (evalArgs v true [(false, eval x cx.env)] []) (fun a s₁ => wpAny (model cx.T.prog cx.T.w) cx.A (call v ([] ++ a.pos) a.kw) Q E s₁) E s' :=
    evalArgs_plain (spliced_cons (wpAny_mono h (fun _ _ h₁ => spliced_nil h₁) fun _ _ e => e))
  rcases hfv with ⟨id, rfl⟩ | ⟨T, rfl⟩
  · exact callWith_builtin rfl ha
  · exact PyProof.Rows.callWith_type rfl ha

theorem biCall1 {f g : Str} {fp : Pos} {fv : Value} (TO : cx.T.Ok) (C : cx.Ok) (M : Sim cx G st none s) (hg : isGl cx.env.scope.names f g = true) (hb : biTab.lookup g = some fv) (hfv : (∃ id, fv = .builtin id) ∨ ∃ T, fv = .type T) (hx : notStar x = true)
    (h : wpAny (model cx.T.prog cx.T.w) cx.A (eval x cx.env) (fun v s₁ => wpAny (model cx.T.prog cx.T.w) cx.A (call fv [v]) Q E s₁) E s) :
    wpAny (model cx.T.prog cx.T.w) cx.A (eval (.Call (.Name f fp) [x] [] pos) cx.env) Q E s :=
  call1 (r := .stuck) (δ := Unit) (k := fun _ => .stuck) hfv hx (load_bi TO C M hg hb ⟨rfl, rfl⟩) h

theorem len_ok {d : PyData} {v : Value} {n : Nat} (hl : lenF d = some n) (M : Sim cx G st none s) (hv : Rep G v d) (hok : ∀ t tk, Q (.int n t) { s with toks := tk }) : wpAny (model cx.T.prog cx.T.w) cx.A (call (.builtin "len") [v]) Q E s := by
  unfold lenF at hl
  split at hl
  · cases hv
    split at hl
    · rename_i hz; cases hl
      have := okLen_le hz; rw [sizeLine_eq] at this
      refine len_str (by rw [len_cs]; omega) ?_
      rw [len_cs]; exact hok _ _
    · cases hl
  · obtain ⟨a, vs, rfl, hL, hr⟩ := rep_list_at M.gin hv
    split at hl
    · rename_i hz; cases hl
      have := okLen_le hz; rw [sizeLine_eq] at this
      refine len_list hL (by rw [hr.size]; omega) ?_
      rw [hr.size]; exact hok _ _
    · cases hl
  · obtain ⟨a, vs, rfl, hL, hr⟩ := rep_tup_at M.gin hv
    split at hl
    · rename_i hz; cases hl
      have := okLen_le hz; rw [sizeLine_eq] at this
      refine len_tuple hL (by rw [hr.size]; omega) ?_
      rw [hr.size]; exact hok _ _
    · cases hl
  · cases hl

theorem s_len {f : Str} (TO : cx.T.Ok) (C : cx.Ok) (hg : isGl cx.env.scope.names f "len" = true) (hx : notStar x = true) (ha : SD Γ cx a x) : SE Γ cx (.len a) (.Call (.Name f pos') [x] [] pos) := fun st G s M Q E ns hok hex => by
  rw [qe_len] at ns hok hex
  refine biCall1 TO C M hg (by decide +kernel) (.inl ⟨"len", rfl⟩) hx ?_
  refine (ha st G s M).seq ns hex fun d st1 e1 G1 s1 v1 p1 l1 M1 r1 ns1 hex1 => ?_
  obtain ⟨rfl, r1⟩ := r1
  obtain ⟨n, hn⟩ := okI_ne ns1
  exact len_ok hn M1 r1 fun t tk => hok (.val (.int n)) st1 (by rw [e1]; simp only [R.bind]; rw [hn]; rfl) G1 _ _ none l1 (M1.toks tk) ⟨rfl, .int ..⟩

theorem s_lenv {f z : Str} {i : Nat} {pos'' : Pos} (TO : cx.T.Ok) (C : cx.Ok) (hg : isGl cx.env.scope.names f "len" = true) (h : isLoc cx.nm cx.env.scope.names i z = true) : SE Γ cx (.lenv i) (.Call (.Name f pos') [.Name z pos''] [] pos) := fun st G s M Q E ns hok hex => by
  obtain ⟨h1, h2, h3⟩ := acc_of h
  cases hs : listAt st i with
  | none => simp only [qe_lenv, hs] at ns; exact absurd rfl ns
  | some xs =>
    simp only [qe_lenv, hs] at ns hok hex
    obtain ⟨n, hn⟩ := okI_ne ns
    obtain ⟨l, vs, hv, hl, hr⟩ := M.look hs h1 h2
    refine biCall1 TO C M hg (by decide +kernel) (.inl ⟨"len", rfl⟩) rfl (load_name C.kind hv h3 ?_)
    simp only [lenF] at hn
    split at hn
    · rename_i hz
      cases hn
      have := okLen_le hz; rw [sizeLine_eq] at this
      refine len_list hl (by rw [hr.size]; omega) ?_
      rw [hr.size]
      exact hok (.val (.int xs.length)) st (by simp [okI, lenF, hz]) G _ _ none (GM.le_refl _) (M.toks _) ⟨rfl, .int ..⟩
    · cases hn

theorem s_ord {f : Str} (TO : cx.T.Ok) (C : cx.Ok) (hg : isGl cx.env.scope.names f "ord" = true) (hx : notStar x = true) (ha : SD Γ cx a x) : SE Γ cx (.ord a) (.Call (.Name f pos') [x] [] pos) := fun st G s M Q E ns hok hex => by
  rw [qe_ord] at ns hok hex
  refine biCall1 TO C M hg (by decide +kernel) (.inl ⟨"ord", rfl⟩) hx ?_
  refine (ha st G s M).seq ns hex fun d st1 e1 G1 s1 v1 p1 l1 M1 r1 ns1 hex1 => ?_
  obtain ⟨rfl, r1⟩ := r1
  cases r1 with
  | str q t =>
    dsimp only at ns1
    split at ns1
    · rename_i c hc
      refine ord_of_one (by rw [len_cs, hc]; rfl) ?_
      have hq : q.cps.getD 0 0 = c := by
        have : q = S [c] := by rw [← hc, S_cs]
        rw [this]; rfl
      rw [hq]
      exact hok (.val (.int c)) st1 (by rw [e1]; simp only [R.bind, hc]) G1 _ _ none l1 (M1.toks _) ⟨rfl, .int ..⟩
    · exact (ns1 rfl).elim
  | none => exact (ns1 rfl).elim
  | bool b => exact (ns1 rfl).elim
  | int i t => exact (ns1 rfl).elim
  | list e c d r => exact (ns1 rfl).elim
  | tuple e c d r => exact (ns1 rfl).elim

theorem s_abs {f : Str} (TO : cx.T.Ok) (C : cx.Ok) (hg : isGl cx.env.scope.names f "abs" = true) (hx : notStar x = true) (ha : SD Γ cx a x) : SE Γ cx (.abs a) (.Call (.Name f pos') [x] [] pos) := fun st G s M Q E ns hok hex => by
  rw [qe_abs] at ns hok hex
  refine biCall1 TO C M hg (by decide +kernel) (.inl ⟨"abs", rfl⟩) hx ?_
  refine (ha st G s M).seq ns hex fun d st1 e1 G1 s1 v1 p1 l1 M1 r1 ns1 hex1 => ?_
  obtain ⟨rfl, r1⟩ := r1
  cases r1 with
  | int i t =>
    refine call_abs_int fun u tk => ?_
    have hi : (if i < 0 then -i else i) = (i.natAbs : Int) := by split <;> omega
    rw [hi]
    exact hok (.val (.int i.natAbs)) st1 (by rw [e1]; rfl) G1 _ _ none l1 (M1.toks _) ⟨rfl, .int ..⟩
  | none => exact (ns1 rfl).elim
  | bool b => exact (ns1 rfl).elim
  | str x t => exact (ns1 rfl).elim
  | list e c d r => exact (ns1 rfl).elim
  | tuple e c d r => exact (ns1 rfl).elim

theorem s_toInt {f : Str} (TO : cx.T.Ok) (C : cx.Ok) (hg : isGl cx.env.scope.names f "int" = true) (hx : notStar x = true) (ha : SD Γ cx a x) : SE Γ cx (.toInt a) (.Call (.Name f pos') [x] [] pos) := fun st G s M Q E ns hok hex => by
  rw [qe_toInt] at ns hok hex
  refine biCall1 TO C M hg (by decide +kernel) (.inr ⟨"int", rfl⟩) hx ?_
  refine (ha st G s M).seq ns hex fun d st1 e1 G1 s1 v1 p1 l1 M1 r1 ns1 hex1 => ?_
  obtain ⟨rfl, r1⟩ := r1
  cases r1 with
  | bool b => exact call_int_bool (hok (.val (.int (if b then 1 else 0))) st1 (by rw [e1]; rfl) G1 _ _ none l1 (M1.toks _) ⟨rfl, .int ..⟩)
  | none => exact (ns1 rfl).elim
  | int i t => exact (ns1 rfl).elim
  | str x t => exact (ns1 rfl).elim
  | list e c d r => exact (ns1 rfl).elim
  | tuple e c d r => exact (ns1 rfl).elim

theorem s_list {f : Str} (TO : cx.T.Ok) (C : cx.Ok) (hg : isGl cx.env.scope.names f "list" = true) (hx : notStar x = true) (ha : SD Γ cx a x) : SE Γ cx (.list a) (.Call (.Name f pos') [x] [] pos) := fun st G s M Q E ns hok hex => by
  rw [qe_list] at ns hok hex
  refine biCall1 TO C M hg (by decide +kernel) (.inr ⟨"list", rfl⟩) hx ?_
  refine (ha st G s M).seq ns hex fun d st1 e1 G1 s1 v1 p1 l1 M1 r1 ns1 hex1 => ?_
  obtain ⟨rfl, r1⟩ := r1
  cases d with
  | list xs =>
    obtain ⟨la, vs, rfl, hl, hr⟩ := rep_list_at M1.gin r1
    dsimp only at ns1
    split at ns1
    · rename_i hz
      obtain ⟨o, ho, hc, n, hd⟩ := hl
      refine call_list_seq la (.inl rfl) ho hc hd (fun h' c' hk hD => ?_) (by rw [hr.size]; exact okLen_le hz)
      have hsz : s1.heap.objs.size < h'.objs.size := Heap.lt_size hD
      refine hok (.own xs) st1 (by rw [e1]; simp [hz]) G1 _ _ (some _) l1 (M1.fresh s1.toks hk (by omega) (Nat.le_refl _) ⟨vs, _, hD, rfl, c', rfl⟩) ⟨_, rfl, rfl, vs, ⟨c', hD⟩, hr⟩
    · exact (ns1 rfl).elim
  | none => exact (ns1 rfl).elim
  | bool b => exact (ns1 rfl).elim
  | int i => exact (ns1 rfl).elim
  | str x => exact (ns1 rfl).elim
  | tuple xs => exact (ns1 rfl).elim
  | dict xs => exact (ns1 rfl).elim

theorem isi_ok {d : PyData} {v : Value} {t : Ty} (M : Sim cx G st none s) (hv : Rep G v d) (hok : ∀ tk, Q (.bool (isF d t)) { s with toks := tk }) :
    wpAny (model cx.T.prog cx.T.w) cx.A (call (.builtin "isinstance") [v, .type (tyStr t)]) Q E s := by
  cases hv with
  | none => cases t <;> first | exact IsiPair.NoneType_str (hok _) | exact IsiPair.NoneType_int (hok _) | exact IsiPair.NoneType_bool (hok _) | exact IsiPair.NoneType_list (hok _) | exact IsiPair.NoneType_tuple (hok _)
  | bool b => cases t <;> first | exact IsiPair.bool_str (hok _) | exact IsiPair.bool_int (hok s.toks) | exact IsiPair.bool_bool (hok s.toks) | exact IsiPair.bool_list (hok _) | exact IsiPair.bool_tuple (hok _)
  | int i u => cases t <;> first | exact IsiPair.int_str (hok _) | exact IsiPair.int_int (hok s.toks) | exact IsiPair.int_bool (hok _) | exact IsiPair.int_list (hok _) | exact IsiPair.int_tuple (hok _)
  | str x u => cases t <;> first | exact IsiPair.str_str (hok s.toks) | exact IsiPair.str_int (hok _) | exact IsiPair.str_bool (hok _) | exact IsiPair.str_list (hok _) | exact IsiPair.str_tuple (hok _)
  | list e c d r =>
    have e' := M.gin _ _ e
    cases t <;> first | exact IsiPair.list_str e' c (hok _) | exact IsiPair.list_int e' c (hok _) | exact IsiPair.list_bool e' c (hok _) | exact IsiPair.list_list e' c (hok s.toks) | exact IsiPair.list_tuple e' c (hok _)
  | tuple e c d r =>
    have e' := M.gin _ _ e
    cases t <;> first | exact IsiPair.tuple_str e' c (hok _) | exact IsiPair.tuple_int e' c (hok _) | exact IsiPair.tuple_bool e' c (hok _) | exact IsiPair.tuple_list e' c (hok _) | exact IsiPair.tuple_tuple e' c (hok s.toks)

theorem s_isinst {f g : Str} {t : Ty} {pos'' : Pos} (TO : cx.T.Ok) (C : cx.Ok) (hg : isGl cx.env.scope.names f "isinstance" = true) (ht : isGl cx.env.scope.names g (tyName t) = true) (hx : notStar x = true) (ha : SD Γ cx a x) :
    SE Γ cx (.isinst a t) (.Call (.Name f pos') [x, .Name g pos''] [] pos) := fun st G s M Q E ns hok hex => by
  rw [qe_isinst] at ns hok hex
  refine Call_Name (trees := [(false, eval x cx.env), (false, eval (.Name g pos'') cx.env)]) (by rw [star_cons hx]; rfl) (load_bi TO C M hg (v := .builtin "isinstance") (by decide +kernel) ?_)
  refine callWith_builtin rfl (evalArgs_plain (spliced_cons ?_))
  refine (ha st G s M).seq ns hex fun d st1 e1 G1 s1 v1 p1 l1 M1 r1 ns1 hex1 => ?_
  obtain ⟨rfl, r1⟩ := r1
  have hT : biTab.lookup (tyName t) = some (.type (tyStr t)) := by cases t <;> decide +kernel
  refine spliced_cons (load_bi TO C M1 ht hT (spliced_nil ?_))
  exact isi_ok M1 r1 fun tk => hok (.val (.bool (isF d t))) st1 (by rw [e1]; rfl) G1 _ _ none l1 (M1.toks tk) ⟨rfl, .bool _⟩
end
end Mine
end

section
open PySem PySem.Calls PyProof.Rows
set_option Elab.async false
set_option linter.unusedVariables false
namespace Mine

/-! the call of a def of the text -/

structure After (s : Shared) (G : GM) (s' : Shared) (G' : GM) (x : Option Addr) : Prop where
  shr : ∃ h tk, s' = { s with heap := h, toks := tk }
  ext : Ext s.heap s'.heap
  size : s.heap.objs.size ≤ s'.heap.objs.size
  le : G.le G'
  gin : G'.In s'.heap
  new : ∀ b o, G' b = some o → G b = some o ∨ (s.heap.objs.size ≤ b ∧ SeqO o)
  ex : ∀ a, x = some a → s.heap.objs.size ≤ a ∧ G' a = none ∧ IsL s'.heap a

noncomputable def FnOkAt (T : Tp) (f : Addr) (Fu : Fn) (A : Around) : Prop := ∀ (s : Shared) (G : GM) (vs : List Value) (ds : List PyData) (r : F),
  T.GT.le G → G.In s.heap → RepAll G vs ds → Fu ds = .ret r →
  codeAny (model T.prog T.w) A (.call (.ref f) ⟨vs, []⟩) (fun res s' => ∃ v x G', res = .ok (.ret v) ∧ After s G s' G' x ∧ RepR G' s'.heap v x r) s

noncomputable def CallsOk (Γ : Nat → Fn) (ft : Nat → Option Str) (cx : Cx) : Prop := ∀ k name, ft k = some name → ∃ f o fd, cx.T.mg name = some (.ref f) ∧ cx.T.GT f = some o ∧ o.data = .func fd ∧ FnOkAt cx.T f (Γ k) cx.A

section
variable {Γ : Nat → Fn} {cx : Cx} {st : St} {G : GM} {s : Shared} {Q : Value → Shared → Prop} {E : Value → Shared → Prop} {c a b a' b' : CE} {e x y z : Expr} {pos pos' : Pos} {op o1 o2 : CmpOp}

theorem Sim.after (M : Sim cx G st none s) {s' : Shared} {G' : GM} {x : Option Addr} (W : After s G s' G' x) : Sim cx G' st x s' := by
  obtain ⟨h, tk, e⟩ := M.shr
  obtain ⟨h', tk', e'⟩ := W.shr
  obtain ⟨ad, V⟩ := M.vals
  obtain ⟨m, hm⟩ := M.ns
  have gn : ∀ b, G b = none → (s.heap.get? b).isSome = true → G' b = none := fun b hb hs => by
    cases q : G' b with
    | none => rfl
    | some o =>
      rcases W.new b o q with r | r
      · rw [hb] at r; cases r
      · rw [none_at _ r.1] at hs; cases hs
  refine ⟨⟨h', tk', by rw [e', e]⟩, fun b o q => W.ext _ _ (M.keep b o q), GM.le_trans M.gle W.le, W.gin, fun b o q => ?_, Nat.le_trans M.size W.size, fun p hp => ?_, ⟨m, hm.keeps W.ext⟩, fun y c hc => ?_, ad, ?_, ?_, V.inj, ?_⟩
  · rcases W.new b o q with r | r
    · exact M.gnew b o r
    · exact .inr ⟨Nat.le_trans M.size r.1, r.2⟩
  · have P := M.priv p hp; exact ⟨gn p P.1 P.2.2, P.2.1, W.ext.some P.2.2⟩
  · obtain ⟨v, o, ho, hd⟩ := M.cells y c hc; exact ⟨v, o, W.ext _ _ ho, hd⟩
  · intro i f y h1 h2 h3
    obtain ⟨v, hv, hr⟩ := V.rep i f y h1 h2 h3
    exact ⟨v, hv.ext W.ext, hr.ext W.le (W.ext _)⟩
  · intro i xs h1
    obtain ⟨⟨p1, p2, p3, p4⟩, p5⟩ := V.free i xs h1
    exact ⟨⟨p1, gn _ p2 p5.there, p3, p4⟩, p5.at (W.ext _)⟩
  · intro a ha
    obtain ⟨w1, w2, w3⟩ := W.ex a ha
    have ne : ∀ {b : Addr}, (s.heap.get? b).isSome = true → b ≠ a := fun {b} q r => by rw [r, none_at _ w1] at q; cases q
    refine ⟨⟨⟨fun hp => ne (M.priv a hp).2.2 rfl, w2, ?_, Nat.le_trans M.size w1⟩, w3⟩, fun i xs h1 => ne (V.free i xs h1).2.there⟩
    cases q : cx.prot a with
    | none => rfl
    | some o => have := M.keep a o q; rw [none_at _ w1] at this; cases this

theorem backTo_plain {pos : Pos} : ∀ (es : List Expr) (env : Env), (∀ e ∈ es, notStar e = true) → (backTo pos (starEach es env)).any (·.1) = false
  | [], _, _ => rfl
  | e :: r, env, h => by
    rw [star_cons (h e (.head _))]
    show (false || (backTo pos (starEach r env)).any (·.1)) = false
    rw [backTo_plain r env fun e he => h e (.tail _ he)]; rfl

theorem s_call {k : Nat} {f name : Str} {es : CEs} {args : List Expr} {ft : Nat → Option Str} (TO : cx.T.Ok) (C : cx.Ok) (K : CallsOk Γ ft cx) (hk : ft k = some name) (hg : isGl cx.env.scope.names f name = true) (hx : ∀ e ∈ x :: args, notStar e = true)
    (hl : SL Γ cx es (x :: args)) : SE Γ cx (.call k es) (.Call (.Name f pos') (x :: args) [] pos) := fun st G s M Q E ns hok hex => by
  rw [qe_call] at ns hok hex
  obtain ⟨fa, o, fd, h1, h2, h3, h4⟩ := K k name hk
  refine Call_Name rfl (load_glob TO C M hg h1 ?_)
  have hsx := star_cons (rest := args) (env := cx.env) (hx x (.head _))
  refine callWith_function (o := o) (fd := fd) ?_
  have hl' := hl pos st G s M
  rw [hsx] at hl' ⊢
  refine evalArgs_plain ?_
  refine hl'.seq ns hex fun ds st1 e1 G1 s1 vs p1 l1 M1 r1 ns1 hex1 => ?_
  obtain ⟨rfl, r1⟩ := r1
  refine ⟨⟨(M1.top C) _ _ h2, h3⟩, wpAny_call ?_⟩
  dsimp only at ns1 hex1
  cases hr : Γ k ds with
  | ret r =>
    refine codeAny_mono (h4 s1 G1 vs ds r (GM.le_trans C.top M1.gle) M1.gin r1 hr) fun res s' hres => ?_
    obtain ⟨v, x, G', rfl, W, hrep⟩ := hres
    exact hok r st1 (by rw [e1]; simp only [R.bind]; rw [hr]; rfl) G' s' v x (GM.le_trans l1 W.le) (M1.after W) hrep
  | exc j => rw [hr] at ns1; exact (ns1 rfl).elim
  | stuck => rw [hr] at ns1; exact (ns1 rfl).elim
end
end Mine
end

section
open PySem PySem.Calls PyProof.Rows
set_option Elab.async false
set_option linter.unusedVariables false
namespace Mine

/-! methods of texts and lists -/

theorem recv_base {v : Expr} {name : Str} {env : Env} (h : plainR v = true) : attributeBase v name env (eval v env) = eval v env := by
  cases v <;> first | rfl | (exact absurd (show false = true from h) Bool.false_ne_true)

theorem find_is (x : Str) (c : Nat) : Txt.find x (S [c]) = findF (cs x) c := by
  unfold findF
  have hone : ∀ i, (StrLaws.At x (S [c]) x.length i) ↔ (cs x)[i]? = some c := fun i => StrLaws.subAt_one x c i
  unfold Txt.find
  rcases StrLaws.occ_head x (S [c]) 1 (Nat.le_refl _) with ⟨e, hn⟩ | ⟨i, r, e, hi, hn⟩
  · rw [e]
    have : (cs x).findIdx? (· == c) = none := by
      rw [List.findIdx?_eq_none_iff]
      intro y hy
      obtain ⟨j, hj, rfl⟩ := List.mem_iff_getElem.mp hy
      have := hn j
      rw [hone] at this
      simp only [beq_eq_false_iff_ne, ne_eq]
      intro q
      exact this (by rw [List.getElem?_eq_getElem hj, q])
    rw [this]
  · rw [e]
    have h1 := (hone i).mp hi
    have hlt : i < (cs x).length := (List.getElem?_eq_some_iff.mp h1).1
    have : (cs x).findIdx? (· == c) = some i := by
      rw [List.findIdx?_eq_some_iff_getElem]
      refine ⟨hlt, ?_, fun j hj => ?_⟩
      · have := (List.getElem?_eq_some_iff.mp h1).2
        simp [this]
      · have h2 := hn j hj
        rw [hone] at h2
        simp only [Bool.not_eq_true, beq_eq_false_iff_ne, ne_eq]
        intro q
        exact h2 (by rw [List.getElem?_eq_getElem (by omega), q])
    rw [this]

noncomputable def joinNL : List (List Nat) → List Nat
  | [] => []
  | [x] => x
  | x :: y :: r => x ++ 10 :: joinNL (y :: r)

theorem splitNL_free : ∀ (p : List Nat), 10 ∉ p → splitNL p = [p]
  | [], _ => rfl
  | c :: r, h => by
    have hc : c ≠ 10 := fun e => h (by simp [e])
    have hr : 10 ∉ r := fun e => h (by simp [e])
    rw [splitNL, if_neg hc, splitNL_free r hr]
theorem splitNL_cat : ∀ (p q : List Nat), 10 ∉ p → splitNL (p ++ 10 :: q) = p :: splitNL q
  | [], q, _ => by simp [splitNL]
  | c :: r, q, h => by
    have hc : c ≠ 10 := fun e => h (by simp [e])
    have hr : 10 ∉ r := fun e => h (by simp [e])
    rw [List.cons_append, splitNL, if_neg hc, splitNL_cat r q hr]
theorem splitNL_join : ∀ (ps : List (List Nat)), ps ≠ [] → (∀ p ∈ ps, 10 ∉ p) → splitNL (joinNL ps) = ps
  | [], h, _ => absurd rfl h
  | [x], _, h => by rw [joinNL, splitNL_free x (h x (by simp))]
  | x :: y :: r, _, h => by
    rw [joinNL, splitNL_cat x _ (h x (by simp)), splitNL_join (y :: r) (by simp) fun p hp => h p (by simp [hp])]

theorem splitNL_len : ∀ (l : List Nat), (splitNL l).length ≤ l.length + 1
  | [] => by simp [splitNL]
  | c :: r => by
    have ih := splitNL_len r
    rw [splitNL]
    split
    · simp; omega
    · split
      · rename_i e; rw [e] at ih; simp at ih ⊢; omega
      · simp

theorem join_cs : ∀ (ps : List Str), cs (Str.join (S [10]) ps) = joinNL (ps.map cs)
  | [] => rfl
  | [x] => rfl
  | x :: y :: r => by
    show cs (x ++ S [10] ++ Str.join (S [10]) (y :: r)) = _
    rw [cs_append, cs_S, cs_append, cs_S, join_cs (y :: r)]
    simp [joinNL]

theorem split_is (x : Str) : (Txt.split x (S [10])).map cs = splitNL (cs x) := by
  have h1 := StrLaws.join_split x (S [10])
  have h2 := StrLaws.split_free x 10
  have hne : Txt.split x (S [10]) ≠ [] := by
    unfold Txt.split
    split
    · simp
    · split
      · simp
      · unfold Builtin.Str.partsBetween
        simp
  have h3 := join_cs (Txt.split x (S [10]))
  rw [h1] at h3
  rw [h3, splitNL_join]
  · simpa using hne
  · intro p hp
    obtain ⟨q, hq, rfl⟩ := List.mem_map.mp hp
    exact h2 q hq

theorem repAll_strs {G : GM} : ∀ (l : List (Str × Tok)), RepAll G (strValues l) (l.map fun p => .str p.1)
  | [] => .nil
  | p :: r => .cons (.str ..) (repAll_strs r)

theorem strs_of {G : GM} : ∀ {vs : List Value} {xs : List PyData} {ls : List (List Nat)}, RepAll G vs xs → strsF xs = some ls → ∃ l : List (Str × Tok), vs = strValues l ∧ l.map (fun p => cs p.1) = ls
  | _, _, _, .nil, h => by cases h; exact ⟨[], rfl, rfl⟩
  | _, _, _, .cons hv r, h => by
    cases hv with
    | str x t =>
      simp only [strsF] at h
      obtain ⟨l, hl, rfl⟩ := Option.map_eq_some_iff.mp h
      obtain ⟨q, rfl, rfl⟩ := strs_of r hl
      exact ⟨(x, t) :: q, rfl, rfl⟩
    | none => cases h
    | bool b => cases h
    | int i t => cases h
    | list e c d r => cases h
    | tuple e c d r => cases h

theorem glued_nil (l : List Str) : cs (Builtin.Str.glued (S []) l) = (l.map cs).flatten := by
  unfold Builtin.Str.glued
  have key : ∀ (r : List Str) (a : Array Nat), (r.foldl (fun acc p => acc ++ (S []).cps ++ p.cps) a).toList = a.toList ++ (r.map cs).flatten := by
    intro r
    induction r with
    | nil => intro a; simp
    | cons p r ih =>
      intro a
      rw [List.foldl_cons, ih]
      simp [S, cs]
  cases l with
  | nil => rfl
  | cons p r =>
    refine (key r p.cps).trans ?_
    simp [cs]

theorem joinLen (l : List Str) (n : Nat) : l.foldl (fun a p => a + p.length + (S []).length) n = n + (l.map cs).flatten.length := by
  induction l generalizing n with
  | nil => simp
  | cons p r ih =>
    rw [List.foldl_cons, ih, len_cs p]
    simp [S, Str.length]; omega

section
variable {Γ : Nat → Fn} {cx : Cx} {st : St} {G : GM} {s : Shared} {Q : Value → Shared → Prop} {E : Value → Shared → Prop} {c a b a' b' : CE} {e x y z : Expr} {pos pos' apos : Pos} {op o1 o2 : CmpOp}

theorem s_find (hr : plainR x = true) (hs : notStar y = true) (hline : (apos.endLine == pos.line) = true) (ha : SD Γ cx a x) (hb : SD Γ cx b y) : SE Γ cx (.find a b) (.Call (.Attribute x "find" apos) [y] [] pos) := fun st G s M Q E ns hok hex => by
  rw [qe_find] at ns hok hex
  refine Call_method1 (recv_base hr) (star_cons hs) hline ?_
  refine (ha st G s M).seq ns hex fun d st1 e1 G1 s1 v1 p1 l1 M1 r1 ns1 hex1 => ?_
  obtain ⟨rfl, r1⟩ := r1
  cases r1 with
  | str q t =>
    dsimp only at ns1 hex1
    refine SB.find ?_
    refine (hb st1 G1 s1 M1).seq ns1 hex1 fun d' st2 e2 G2 s2 v2 p2 l2 M2 r2 ns2 hex2 => ?_
    obtain ⟨rfl, r2⟩ := r2
    cases r2 with
    | str q' t' =>
      dsimp only at ns2
      split at ns2
      · rename_i c hc
        split at ns2
        · rename_i hz
          refine ⟨q', t', rfl, ?_⟩
          have hq : q' = S [c] := by rw [← hc, S_cs]
          rw [hq, find_is]
          exact hok (.val (.int _)) st2 (by simp only [e1, R.bind, e2, hc, hz, if_true]) G2 _ _ none (GM.le_trans l1 l2) (M2.toks _) ⟨rfl, .int ..⟩
        · exact (ns2 rfl).elim
      · exact (ns2 rfl).elim
    | none => exact (ns2 rfl).elim
    | bool b => exact (ns2 rfl).elim
    | int i t => exact (ns2 rfl).elim
    | list e c d r => exact (ns2 rfl).elim
    | tuple e c d r => exact (ns2 rfl).elim
  | none => exact (ns1 rfl).elim
  | bool b => exact (ns1 rfl).elim
  | int i t => exact (ns1 rfl).elim
  | list e c d r => exact (ns1 rfl).elim
  | tuple e c d r => exact (ns1 rfl).elim

theorem s_join (hr : plainR x = true) (hs : notStar y = true) (hline : (apos.endLine == pos.line) = true) (ha : SD Γ cx a x) (hb : SD Γ cx b y) : SE Γ cx (.join a b) (.Call (.Attribute x "join" apos) [y] [] pos) := fun st G s M Q E ns hok hex => by
  rw [qe_join] at ns hok hex
  refine Call_method1 (recv_base hr) (star_cons hs) hline ?_
  refine (ha st G s M).seq ns hex fun d st1 e1 G1 s1 v1 p1 l1 M1 r1 ns1 hex1 => ?_
  obtain ⟨rfl, r1⟩ := r1
  cases r1 with
  | str q t =>
    dsimp only at ns1 hex1
    refine SB.join ?_
    refine (hb st1 G1 s1 M1).seq ns1 hex1 fun d' st2 e2 G2 s2 v2 p2 l2 M2 r2 ns2 hex2 => ?_
    obtain ⟨rfl, r2⟩ := r2
    cases d' with
    | list xs =>
      dsimp only at ns2
      obtain ⟨la, vs, rfl, hl, hr2⟩ := rep_list_at M2.gin r2
      split at ns2
      · rename_i ls hq hls
        split at ns2
        · rename_i hz
          obtain ⟨l, hv, hl2⟩ := strs_of hr2 hls
          have hvs : vs = (strValues l).toArray := by rw [← hv]
          refine ⟨la, l, rfl, hvs ▸ hl, l.map (·.1), rfl, ?_, fun t' k => ?_⟩
          · have hq' : q = S [] := by rw [← hq, S_cs]
            unfold JoinOk Builtin.Str.tooLong
            rw [List.foldl_toArray', hq', joinLen]
            simp only [Nat.zero_add, List.map_map]
            have : (List.map (cs ∘ fun x => x.fst) l) = ls := hl2
            rw [this]
            have := okLen_le hz
            simp only [gt_iff_lt, Bool.not_eq_true', decide_eq_false_iff_not, Nat.not_lt]
            exact this
            rfl
          · have hq' : q = S [] := by rw [← hq, S_cs]
            have hj : Txt.join q (l.map (·.1)) = S ls.flatten := by
              unfold Txt.join
              rw [hq', ← S_cs (Builtin.Str.glued _ _), glued_nil, List.map_map]
              have : (List.map (cs ∘ fun x => x.fst) l) = ls := hl2
              rw [this]
            rw [hj]
            exact hok (.val (.str (S ls.flatten))) st2 (by simp only [e1, R.bind, e2, hq, hls, hz, if_true]) G2 _ _ none (GM.le_trans l1 l2) (M2.toks _) ⟨rfl, .str ..⟩
        · exact (ns2 rfl).elim
      · exact (ns2 rfl).elim
    | none => exact (ns2 rfl).elim
    | bool b => exact (ns2 rfl).elim
    | int i => exact (ns2 rfl).elim
    | str x => exact (ns2 rfl).elim
    | tuple xs => exact (ns2 rfl).elim
    | dict xs => exact (ns2 rfl).elim
  | none => exact (ns1 rfl).elim
  | bool b => exact (ns1 rfl).elim
  | int i t => exact (ns1 rfl).elim
  | list e c d r => exact (ns1 rfl).elim
  | tuple e c d r => exact (ns1 rfl).elim

theorem split_raw {prog : Program} {w : World} {A : Around} {E : Value → Shared → Prop} {s : Shared} {x : Str} {t u : Tok} {pos : Pos} {k : Nat} {kp : Pos} {env : Env} {y : Str} {Q : Value → Shared → Prop} (hy : y = S [10]) (hx : x.length + 1 ≤ sizeLine)
    (h : ∀ (l : List (Str × Tok)) n tk, l.map (·.1) = Txt.split x (S [10]) → Q (.ref s.heap.objs.size) { s with toks := tk, heap := s.heap.push { cls := .type "list", data := .seq (strValues l).toArray n } }) :
    MethodOnS prog w A E "split" (.str x t) pos [(false, eval (.Constant (.str y) k kp) env)] Q s := by
  subst hy
  refine ⟨"str", _, PySem.F.plainAttrs_str, PySem.F.slot_str_split, PySem.F.type_str_split, typeIs_str _ _ _, (fun _ e => nomatch e),
    method1_meets PySem.F.slot_str_split PySem.F.entry_str_split (wpAny_Constant_str ?_)⟩
  refine ⟨typeIs_str _ _ _, PySem.F.args_str_split_2 _ _, ?_⟩
  have hlen : ((S [10]).length == 0) = false := by decide
  cases h1 : (decide (x.length < (S [10]).length) || decide (Builtin.Str.strKind x < Builtin.Str.strKind (S [10])))
  · cases hf : (Builtin.Str.occurrences x (S [10]) 0 x.length (x.length + 1)).isEmpty
    · have hsp : Txt.split x (S [10]) = Builtin.Str.partsBetween x (Builtin.Str.occurrences x (S [10]) 0 x.length (x.length + 1)) (S [10]).length := (if_neg (ne_true_of_eq_false h1)).trans (if_neg (ne_true_of_eq_false hf))
      have hcount : (Builtin.Str.partsBetween x (Builtin.Str.occurrences x (S [10]) 0 x.length (x.length + 1)) (S [10]).length).length ≤ sizeLine := by
        rw [← hsp, ← List.length_map (f := cs), split_is]
        have := splitNL_len (cs x)
        rw [len_cs] at hx; omega
      refine ⟨_, meets_str_split_sep x _ t _ h1 hlen hf (by omega) hcount, ?_⟩
      show wants Q E _ { s with toks := _, heap := s.heap.push { cls := .type "list", data := .seq (strsFrom _ (Builtin.Str.partsBetween x (Builtin.Str.occurrences x (S [10]) 0 x.length (x.length + 1)) (S [10]).length)).toArray } }
      rw [strsFrom_eq]
      exact h _ _ _ ((numbered_texts _ _).trans ((if_neg (ne_true_of_eq_false h1)).trans (if_neg (ne_true_of_eq_false hf))).symm)
    · exact ⟨_, meets_str_split_not_found x _ t _ h1 hlen hf, h [(x, t)] _ _ ((if_neg (ne_true_of_eq_false h1)).trans (if_pos hf)).symm⟩
  · exact ⟨_, meets_str_split_cannot_occur x _ t _ h1, h [(x, t)] _ _ (if_pos h1).symm⟩

theorem s_split {yy : Str} {k : Nat} {kp : Pos} (hr : plainR x = true) (hy : cs yy = [10]) (hline : (apos.endLine == pos.line) = true) (ha : SD Γ cx a x) : SE Γ cx (.splitNl a) (.Call (.Attribute x "split" apos) [.Constant (.str yy) k kp] [] pos) := fun st G s M Q E ns hok hex => by
  rw [qe_splitNl] at ns hok hex
  refine Call_method1 (recv_base hr) rfl hline ?_
  refine (ha st G s M).seq ns hex fun d st1 e1 G1 s1 v1 p1 l1 M1 r1 ns1 hex1 => ?_
  obtain ⟨rfl, r1⟩ := r1
  cases r1 with
  | str q t =>
    dsimp only at ns1
    split at ns1
    · rename_i hz
      refine split_raw (u := 0) (by rw [← hy, S_cs]) (by rw [len_cs]; exact okLen_le hz) fun l n tk hl => ?_
      have hx : (splitNL (cs q)).map (fun l => PyData.str (S l)) = l.map fun p => .str p.1 := by
        rw [← split_is, ← hl]
        simp [List.map_map, Function.comp_def]
      obtain ⟨M', hO⟩ := M1.newList (vs := (strValues l).toArray) n (by simpa using repAll_strs l) tk
      rw [← hx] at hO
      exact hok (.own _) st1 (by rw [e1]; simp only [R.bind, hz, if_true]) G1 _ _ _ l1 M' ⟨_, rfl, rfl, hO⟩
    · exact (ns1 rfl).elim
  | none => exact (ns1 rfl).elim
  | bool b => exact (ns1 rfl).elim
  | int i t => exact (ns1 rfl).elim
  | list e c d r => exact (ns1 rfl).elim
  | tuple e c d r => exact (ns1 rfl).elim

theorem s_pop {i : Nat} {z : Str} (C : cx.Ok) (h : isLoc cx.nm cx.env.scope.names i z = true) (hline : (apos.endLine == pos.line) = true) : SE Γ cx (.pop i) (.Call (.Attribute (.Name z pos') "pop" apos) [] [] pos) := fun st G s M Q E ns hok hex => by
  obtain ⟨h1, h2, h3⟩ := acc_of h
  cases hs : ownAt st i with
  | none => simp only [qe_pop, hs] at ns; exact absurd rfl ns
  | some xs =>
    simp only [qe_pop, hs] at ns hok hex
    cases hd : xs.getLast? with
    | none => rw [hd] at ns; exact absurd rfl ns
    | some d =>
      rw [hd] at ns hok hex
      simp only at ns hok hex
      split at ns
      · rename_i hz
        rw [if_pos hz] at hok
        have hsl : slot st i = some (.own xs) := by
          unfold ownAt at hs
          split at hs
          · rename_i q; cases hs; exact q
          · cases hs
        obtain ⟨l, vs, hv, hl, hr, up⟩ := M.upd (ys := xs.dropLast) hsl h1 h2
        obtain ⟨n, ho⟩ := hl
        refine Call_method0 rfl hline (load_name C.kind hv h3 ?_)
        have hsz := hr.size
        rw [List.getLast?_eq_getElem?] at hd
        obtain ⟨v, hv', hrv⟩ := hr.get _ _ hd
        refine ⟨"list", _, PySem.F.plainAttrs_list, PySem.F.slot_list_pop, PySem.F.type_list_pop, ⟨_, ho, rfl⟩, (fun a e => by cases e; exact ⟨_, ho, rfl⟩), ?_⟩
        refine P.pop_list (y := v) ho (by rw [hsz]; simpa using hv') ?_ (by rw [hsz]; exact okLen_le hz)
        have hpl : (s.heap.update l (Obj.mapSeq fun xs => xs.eraseIdxIfInBounds (vs.size - 1))).PlainList l (vs.eraseIdxIfInBounds (vs.size - 1)) := ⟨_, Heap.get?_update_self _ ho rfl⟩
        have hdr : (vs.eraseIdxIfInBounds (vs.size - 1)).toList = vs.toList.dropLast := by
          rw [Array.toList_eraseIdxIfInBounds, List.eraseIdx_eq_take_drop_succ, List.dropLast_eq_take, List.drop_eq_nil_of_le (by rw [Array.length_toList]; omega), List.append_nil, Array.length_toList]
        refine hok (.val d) _ rfl G _ v none (GM.le_refl _) (up _ s.toks _ hpl (Heap.SameBut.update _ _ _) ?_) ⟨rfl, hrv⟩
        rw [hdr, List.dropLast_eq_take, List.dropLast_eq_take, hr.length]
        exact hr.take _
      · exact absurd rfl ns
end
end Mine
end

section
open PySem PySem.Calls PyProof.Rows
set_option Elab.async false
set_option linter.unusedVariables false
namespace Mine

/-! statements -/

noncomputable def RFl (G : GM) (h : Heap) (fl : Flow) (x : Option Addr) : Fl → Prop
  | .next => fl = .next ∧ x = none
  | .ret f => ∃ v, fl = .ret v ∧ RepR G h v x f

noncomputable def SS (Γ : Nat → Fn) (cx : Cx) (c : CS) (t : Stmt) : Prop := ∀ st G s, Sim cx G st none s → Tri cx RFl (ex Γ c st) (exec t cx.env) G s
noncomputable def SSs (Γ : Nat → Fn) (cx : Cx) (c : CSs) (t : List Stmt) : Prop := ∀ st G s, Sim cx G st none s → Tri cx RFl (exs Γ c st) (execs t cx.env) G s

theorem swaps_no {v : Expr} {t : Option Expr} {n : Nat} {env : Env} (h : notComp v = true) : swapsWith v t n env = pure false := by
  cases v <;> first | rfl | (exact absurd (show false = true from h) Bool.false_ne_true)

section
variable {Γ : Nat → Fn} {cx : Cx} {st : St} {G : GM} {s : Shared} {Q : Flow → Shared → Prop} {E : Value → Shared → Prop} {c a b a' b' : CE} {e x y z : Expr} {pos pos' apos : Pos} {op o1 o2 : CmpOp}

theorem ss_nil : SSs Γ cx .nil [] := fun st G s M Q E ns hok hex => wpAny_execs_nil (hok .next st rfl G s .next none (GM.le_refl _) M ⟨rfl, rfl⟩)

theorem ss_cons {c : CS} {r : CSs} {t : Stmt} {ts : List Stmt} (h1 : SS Γ cx c t) (h2 : SSs Γ cx r ts) : SSs Γ cx (.cons c r) (t :: ts) := fun st G s M Q E ns hok hex => by
  rw [qxs_cons] at ns hok hex
  refine wpAny_execs_cons ?_
  refine (h1 st G s M).seq ns hex fun fl st1 e1 G1 s1 v1 p1 l1 M1 r1 ns1 hex1 => ?_
  cases fl with
  | next =>
    obtain ⟨rfl, rfl⟩ := r1
    exact h2 st1 G1 s1 M1 Q E ns1 (fun b st2 e2 G2 s2 v o l2 M2 r2 => hok b st2 (by rw [e1]; exact e2) G2 s2 v o (GM.le_trans l1 l2) M2 r2) hex1
  | ret f =>
    obtain ⟨v, rfl, hr⟩ := r1
    exact hok (.ret f) st1 (by rw [e1]; rfl) G1 s1 _ p1 l1 M1 ⟨v, rfl, hr⟩

theorem s_ret (ha : SE Γ cx a x) : SS Γ cx (.ret a) (.Return (some x) pos) := fun st G s M Q E ns hok hex => by
  rw [qx_ret] at ns hok hex
  refine wpAny_Return_some ?_
  refine (ha st G s M).seq ns hex fun f st1 e1 G1 s1 v1 p1 l1 M1 r1 ns1 hex1 => ?_
  exact hok (.ret f) st1 (by rw [e1]; rfl) G1 s1 _ p1 l1 M1 ⟨v1, rfl, r1⟩

theorem s_iff {ca cb : CSs} {xs ys : List Stmt} (ha : SB Γ cx a x) (h1 : SSs Γ cx ca xs) (h2 : SSs Γ cx cb ys) : SS Γ cx (.iff a ca cb) (.If x xs ys pos) := fun st G s M Q E ns hok hex => by
  rw [qx_iff] at ns hok hex
  refine wpAny_If ?_
  refine (ha st G s M).seq ns hex fun t st1 e1 G1 s1 v1 p1 l1 M1 r1 ns1 hex1 => ?_
  obtain ⟨rfl, rfl⟩ := r1
  cases v1 with
  | true => exact h1 st1 G1 s1 M1 Q E ns1 (fun b st2 e2 G2 s2 v o l2 M2 r2 => hok b st2 (by rw [e1]; exact e2) G2 s2 v o (GM.le_trans l1 l2) M2 r2) hex1
  | false => exact h2 st1 G1 s1 M1 Q E ns1 (fun b st2 e2 G2 s2 v o l2 M2 r2 => hok b st2 (by rw [e1]; exact e2) G2 s2 v o (GM.le_trans l1 l2) M2 r2) hex1

theorem s_assign {i : Nat} {n : Str} (C : cx.Ok) (Fu : cx.Full) (h : isLoc cx.nm cx.env.scope.names i n = true) (hv : notComp x = true) (ha : SE Γ cx a x) : SS Γ cx (.assign i a) (.Assign [.Name n pos'] x pos) := fun st G s M Q E ns hok hex => by
  rw [qx_assign] at ns hok hex
  obtain ⟨h1, h2, h3⟩ := acc_of h
  refine wpAny_Assign_Name ?_ (swaps_no hv)
  refine (ha st G s M).seq ns hex fun f st1 e1 G1 s1 v1 p1 l1 M1 r1 ns1 hex1 => ?_
  dsimp only at ns1
  split at ns1
  · rename_i hi
    refine M1.store Fu C.kind r1 h1 h2 hi fun s' M' => ?_
    exact hok .next _ (by rw [e1]; simp only [R.bind, hi, if_true]) G1 s' .next none l1 M' ⟨rfl, rfl⟩
  · exact (ns1 rfl).elim

/-- the names of a tuple of targets -/
theorem each_names {nm : List Str} {kd : Kd} {env : Env} : ∀ {is : List Nat} {ts : List Expr}, mNames nm kd is ts = true → (assignEach ts env).findIdx? (·.1) = none ∧ (assignEach ts env).length = is.length
  | [], [], _ => ⟨rfl, rfl⟩
  | i :: is, t :: ts, h => by
    cases t with
    | Name z p =>
      replace h := Bool.and_eq_true_iff.mp h
      obtain ⟨h1, h2⟩ := each_names (env := env) h.2
      show ((false, assign (.Name z p) env) :: assignEach ts env).findIdx? (·.1) = none ∧ _
      refine ⟨?_, by show (assignEach ts env).length + 1 = _; rw [h2]; rfl⟩
      rw [List.findIdx?_cons]
      simp [h1]
    | _ => exact absurd (show false = true from h) Bool.false_ne_true
  | [], t :: ts, h => absurd (show false = true from h) Bool.false_ne_true
  | i :: is, [], h => absurd (show false = true from h) Bool.false_ne_true

theorem assign_all (C : cx.Ok) (Fu : cx.Full) {Q : Unit → Shared → Prop} : ∀ (is : List Nat) (ts : List Expr) (vs : List Value) (ds : List PyData) (st st' : St) (s : Shared), mNames cx.nm cx.env.scope.names is ts = true → RepAll G vs ds → setAll is ds st = some st' → Sim cx G st none s →
    (∀ s', Sim cx G st' none s' → Q () s') → wpAny (model cx.T.prog cx.T.w) cx.A (assignInOrder ((assignEach ts cx.env).map (·.2)) vs) Q E s
  | [], [], vs, ds, st, st', s, hm, hr, hs, M, hq => by
    cases hr with
    | nil => simp only [setAll, Option.some.injEq] at hs; subst hs; exact wpAny_pure (hq s M)
    | cons h r => simp [setAll] at hs
  | i :: is, t :: ts, vs, ds, st, st', s, hm, hr, hs, M, hq => by
    cases t with
    | Name z p =>
      replace hm := Bool.and_eq_true_iff.mp hm
      cases hr with
      | nil => simp [setAll] at hs
      | @cons v vs d ds h r =>
        simp only [setAll] at hs
        split at hs
        · rename_i hi
          obtain ⟨h1, h2, h3⟩ := acc_of hm.1
          show wpAny _ _ (assignInOrder (assign (.Name z p) cx.env :: (assignEach ts cx.env).map (·.2)) (v :: vs)) Q E s
          rw [assignInOrder]
          refine wpAny_bind (wpAny_holding (wpAny_assign_Name (M.store Fu C.kind (f := .val d) ⟨rfl, h⟩ h1 h2 hi fun s' M' => ?_)))
          exact assign_all C Fu is ts vs ds _ st' s' hm.2 r hs M' hq
        · cases hs
    | _ => exact absurd (show false = true from hm) Bool.false_ne_true
  | [], t :: ts, vs, ds, st, st', s, hm, hr, hs, M, hq => absurd (show false = true from hm) Bool.false_ne_true
  | i :: is, [], vs, ds, st, st', s, hm, hr, hs, M, hq => absurd (show false = true from hm) Bool.false_ne_true

theorem setAll_len : ∀ {is : List Nat} {ds : List PyData} {st st' : St}, setAll is ds st = some st' → is.length = ds.length
  | [], [], _, _, _ => rfl
  | [], _ :: _, _, _, h => by simp [setAll] at h
  | _ :: _, [], _, _, h => by simp [setAll] at h
  | i :: is, d :: ds, st, st', h => by
    simp only [setAll] at h
    split at h
    · simp [setAll_len h]
    · cases h

/-- where the frame's own place is known, the heap's size need not be told -/
theorem Sim.growF (Fu : cx.Full) {x : Option Addr} (M : Sim cx G st x s) {h' : Heap} (tk : Nat) (e : Ext s.heap h') : Sim cx G st x { s with heap := h', toks := tk } := by
  have P := M.priv _ Fu.loc
  obtain ⟨o, ho⟩ := Option.isSome_iff_exists.mp (e.some P.2.2)
  have hz := Heap.lt_size ho
  obtain ⟨h, t, q⟩ := M.shr
  obtain ⟨ad, V⟩ := M.vals
  obtain ⟨m, hm⟩ := M.ns
  refine ⟨⟨h', tk, by rw [q]⟩, fun b o y => e _ _ (M.keep b o y), M.gle, fun b o y => e _ _ (M.gin b o y), M.gnew, Nat.le_of_lt (Nat.lt_of_le_of_lt P.2.1 hz), fun p hp => ?_, ⟨m, hm.keeps e⟩, fun y c hc => ?_, ad, ?_, ?_, V.inj, ?_⟩
  · have P := M.priv p hp; exact ⟨P.1, P.2.1, e.some P.2.2⟩
  · obtain ⟨v, o, ho, hd⟩ := M.cells y c hc; exact ⟨v, o, e _ _ ho, hd⟩
  · intro i f y h1 h2 h3
    obtain ⟨v, hv, hr⟩ := V.rep i f y h1 h2 h3
    exact ⟨v, hv.ext e, hr.ext (GM.le_refl _) (e _)⟩
  · intro i xs h1; have P := V.free i xs h1; exact ⟨P.1, P.2.at (e _)⟩
  · intro a ha; have P := V.ex a ha; exact ⟨⟨P.1.1, P.1.2.at (e _)⟩, P.2⟩

theorem assign_tup (C : cx.Ok) (Fu : cx.Full) {Q : Unit → Shared → Prop} {is : List Nat} {ts : List Expr} {k : Nat} {v : Value} {ds : List PyData} {st' : St} (hm : mNames cx.nm cx.env.scope.names is ts = true) (hr : Rep G v (.tuple ds)) (hs : setAll is ds st = some st') (M : Sim cx G st none s)
    (hq : ∀ s', Sim cx G st' none s' → Q () s') : wpAny (model cx.T.prog cx.T.w) cx.A (assign (.Tuple ts k pos) cx.env v) Q E s := by
  obtain ⟨t, vs, rfl, ht, hr'⟩ := rep_tup_at M.gin hr
  obtain ⟨n1, n2⟩ := each_names (env := cx.env) hm
  refine wpAny_assign_Tuple C.hand ht (by rw [n2, setAll_len hs, hr'.size]) n1 fun h' he => ?_
  refine assign_all C Fu is ts vs.toList ds st st' _ hm hr' hs (M.growF Fu s.toks fun b o e => he b o (Nat.ne_of_lt (Heap.lt_size e)) e) hq

theorem s_unpack {is : List Nat} {ts : List Expr} {k : Nat} {tpos npos : Pos} {y : Str} (C : cx.Ok) (Fu : cx.Full) (hm : mNames cx.nm cx.env.scope.names is ts = true) (ha : SD Γ cx a (.Name y npos)) : SS Γ cx (.unpack is a) (.Assign [.Tuple ts k tpos] (.Name y npos) pos) := fun st G s M Q E ns hok hex => by
  rw [qx_unpack] at ns hok hex
  refine Assign_Tuple ?_
  refine (ha st G s M).seq ns hex fun d st1 e1 G1 s1 v1 p1 l1 M1 r1 ns1 hex1 => ?_
  obtain ⟨rfl, r1⟩ := r1
  cases d with
  | tuple ds =>
    dsimp only at ns1
    split at ns1
    · rename_i st' hs
      refine assign_tup C Fu hm r1 hs M1 fun s' M' => ?_
      exact hok .next st' (by rw [e1]; simp only [R.bind, hs]) G1 s' .next none l1 M' ⟨rfl, rfl⟩
    · exact (ns1 rfl).elim
  | none => exact (ns1 rfl).elim
  | bool b => exact (ns1 rfl).elim
  | int i => exact (ns1 rfl).elim
  | str x => exact (ns1 rfl).elim
  | list xs => exact (ns1 rfl).elim
  | dict xs => exact (ns1 rfl).elim

theorem own_slot {st : St} {i : Nat} {xs : List PyData} (h : ownAt st i = some xs) : slot st i = some (.own xs) := by
  unfold ownAt at h
  split at h
  · rename_i q; cases h; exact q
  · cases h
theorem own_list {st : St} {i : Nat} {xs : List PyData} (h : ownAt st i = some xs) : listAt st i = some xs := by
  unfold listAt; rw [own_slot h]

theorem Sim.updAt {i : Nat} {xs ys : List PyData} {z : Str} {l : Addr} (M : Sim cx G st none s) (hs : ownAt st i = some xs) (hy : cx.nm[i]? = some z) (ha : Acc cx.env z) (hv : Holds cx.env s.heap z (.ref l)) :
    ∃ vs, s.heap.PlainList l vs ∧ RepAll G vs.toList xs ∧
      ∀ h' tk ws, h'.PlainList l ws → Heap.SameBut l s.heap h' → RepAll G ws.toList ys → Sim cx G (st.set i (some (.own ys))) none { s with heap := h', toks := tk } := by
  obtain ⟨a, vs, h1, h2, h3, h4⟩ := M.upd (ys := ys) (own_slot hs) hy ha
  have := h1.uniq hv
  cases this
  exact ⟨vs, h2, h3, h4⟩

theorem s_append {i : Nat} {n : Str} {npos cpos : Pos} (C : cx.Ok) (h : isLoc cx.nm cx.env.scope.names i n = true) (hs : notStar x = true) (hline : (apos.endLine == cpos.line) = true) (hb : ∀ cx', cx.Like cx' → SD Γ cx' a x) :
    SS Γ cx (.append i a) (.Expr (.Call (.Attribute (.Name n npos) "append" apos) [x] [] cpos) pos) := fun st G s M Q E ns hok hex => by
  obtain ⟨h1, h2, h3⟩ := acc_of h
  cases hs0 : ownAt st i with
  | none => simp only [qx_append, hs0] at ns; exact absurd rfl ns
  | some xs =>
    simp only [qx_append, hs0] at ns hok hex
    obtain ⟨l, vs, hv, hl, hr⟩ := M.look (own_list hs0) h1 h2
    obtain ⟨vs', hpl, _, _⟩ := M.updAt (ys := []) hs0 h1 h2 hv
    obtain ⟨n', ho⟩ := hpl
    refine wpAny_Expr ?_ (by unfold interactive; rw [C.kind]; rfl) rfl
    refine Call_method1 rfl (star_cons hs) hline (load_name C.kind hv h3 ?_)
    refine ⟨"list", _, PySem.F.plainAttrs_list, PySem.F.slot_list_append, PySem.F.type_list_append, ⟨_, ho, rfl⟩, (fun a e => by cases e; exact ⟨_, ho, rfl⟩), ?_⟩
    refine callWith_builtin rfl (evalArgs_plain (spliced_cons ?_))
    refine pinned (i := i) M hv (hb _ (cx.like_pin s) st G s M.pin) ns hex fun d st1 e1 G1 s1 v1 o1 l1 M1 r1 hv1 ns1 => ?_
    obtain ⟨rfl, r1⟩ := r1
    refine spliced_nil ?_
    dsimp only at ns1
    cases hs1 : ownAt st1 i with
    | none => rw [hs1] at ns1; exact (ns1 rfl).elim
    | some ys =>
      rw [hs1] at ns1
      dsimp only at ns1
      split at ns1
      · rename_i hz
        obtain ⟨ws, hpl1, hr1, up⟩ := M1.updAt (ys := ys ++ [d]) hs1 h1 h2 hv1
        refine wpAny_list_append_plain hpl1 (fun h' hpl' sb => ?_) (by rw [hr1.size]; exact okLen_le hz)
        refine hok .next _ (by rw [e1]; simp only [R.bind, hs1, hz, if_true]) G1 _ .next none l1 (up h' s1.toks _ hpl' sb ?_) ⟨rfl, rfl⟩
        rw [Array.toList_push]
        exact RepAll.append (.cons r1 .nil) hr1
      · exact (ns1 rfl).elim

theorem set_at {prog : Program} {w : World} {A : Around} {l : Addr} {items : Array Value} {n : Nat} {k : Int} {t : Tok} {v : Value} {Q : Unit → Shared → Prop} (ho : s.heap.get? l = some { cls := .type "list", data := .seq items n }) (h0 : 0 ≤ k) (hfit : k < 2 ^ 63) (hn : k < items.size)
    (hQ : Q () { s with heap := s.heap.update l (Obj.mapSeq (·.setIfInBounds k.toNat v)) }) : wpAny (model prog w) A (setItem (.ref l) (.int k t) v) Q E s := by
  have hT : s.TypeIs (.ref l) "list" := ⟨_, ho, rfl⟩
  unfold setItem
  try with_reducible refine wpAny_holding ?_
  refine wpAny_bind (wpAny_sequenceKey hT (by decide) ?_)
  refine wpAny_bind (wpAny_callSpecial?_slot (name := Str.ofString "__setitem__") hT slot_list_setitem (wpAny_call_entry slot_list_setitem hT entry_list_setitem ?_ (args_list_setitem _ _ _)))
  show wpAny _ _ (Builtin.List.listSubscript? (.int k t) >>= _) _ _ s
  refine wpAny_bind (wpAny_listSubscript_int (fitsIndex_of h0 hfit) ?_)
  clear hfit
  obtain ⟨j, rfl⟩ := Int.eq_ofNat_of_zero_le h0
  have hj : items[j]? = some (items[j]'(by omega)) := Array.getElem?_eq_getElem (by omega)
  show wpAny _ _ ((seqItemAt l j >>= fun r => pure (r.map (j, ·))) >>= _) _ _ s
  refine wpAny_bind (wpAny_bind (wpAny_seqItemAt ho rfl (wpAny_pure ?_)))
  rw [hj]
  show wpAny _ _ (setSeqItemAt l j v >>= _) _ _ s
  refine wpAny_bind (wpAny_setSeqItemAt ho rfl ?_)
  first | exact wpAny_bind (wpAny_pure (wpAny_pure ⟨.none, rfl, wpAny_pure hQ⟩)) | exact wpAny_pure ⟨.none, rfl, wpAny_pure hQ⟩

theorem s_setidx {i : Nat} {n : Str} {npos spos : Pos} (C : cx.Ok) (h : isLoc cx.nm cx.env.scope.names i n = true) (hw : notComp y = true) (ha : SD Γ cx a y) (hb : ∀ cx', cx.Like cx' → SD Γ cx' b x) :
    SS Γ cx (.setidx i b a) (.Assign [.Subscript (.Name n npos) x spos] y pos) := fun st G s M Q E ns hok hex => by
  obtain ⟨h1, h2, h3⟩ := acc_of h
  rw [qx_setidx] at ns hok hex
  refine wpAny_Assign_Subscript ?_ (swaps_no hw)
  refine (ha st G s M).seq ns hex fun d st1 e1 G1 s1 v1 p1 l1 M1 r1 ns1 hex1 => ?_
  obtain ⟨rfl, r1⟩ := r1
  dsimp only at ns1 hex1
  cases hs0 : ownAt st1 i with
  | none => rw [hs0] at ns1; exact (ns1 rfl).elim
  | some xs =>
    rw [hs0] at ns1 hex1
    dsimp only at ns1 hex1
    obtain ⟨l, vs, hv, hl, hr⟩ := M1.look (own_list hs0) h1 h2
    refine load_name C.kind hv h3 ?_
    refine pinned (i := i) M1 hv (hb _ (cx.like_pin s1) st1 G1 s1 M1.pin) ns1 hex1 fun k st2 e2 G2 s2 v2 o2 l2 M2 r2 hv2 ns2 => ?_
    obtain ⟨rfl, r2⟩ := r2
    dsimp only at ns2
    cases hs2 : ownAt st2 i with
    | none => rw [hs2] at ns2; exact (ns2 rfl).elim
    | some ys =>
      rw [hs2] at ns2
      cases r2 with
      | int m t =>
        dsimp only at ns2
        split at ns2
        · rename_i j hj
          split at ns2
          · rename_i hz
            obtain ⟨ws, hpl, hr2, up⟩ := M2.updAt (ys := ys.set j d) hs2 h1 h2 hv2
            obtain ⟨nn, ho⟩ := hpl
            have hj' := hj
            split at hj
            · rename_i h0
              have hf := at_fit hj hz
              unfold at? at hj
              rw [if_pos h0] at hj
              split at hj
              · rename_i hlt
                cases hj
                refine set_at ho h0 hf.2 (by rw [hr2.size]; exact hlt) ?_
                have hpl' : (s2.heap.update l (Obj.mapSeq (·.setIfInBounds m.toNat v1))).PlainList l (ws.setIfInBounds m.toNat v1) := ⟨_, Heap.get?_update_self _ ho rfl⟩
                refine hok .next _ (by simp only [e1, R.bind, hs0, e2, hs2, hj', hz, if_true]) G2 _ .next none (GM.le_trans l1 l2) (up _ s2.toks _ hpl' (Heap.SameBut.update _ _ _) ?_) ⟨rfl, rfl⟩
                rw [Array.toList_setIfInBounds]
                exact RepAll.set (r1.mono l2) hr2 _
              · cases hj
            · cases hj
          · exact (ns2 rfl).elim
        · exact (ns2 rfl).elim
      | none => exact (ns2 rfl).elim
      | bool b => exact (ns2 rfl).elim
      | str x t => exact (ns2 rfl).elim
      | list e c d r => exact (ns2 rfl).elim
      | tuple e c d r => exact (ns2 rfl).elim

theorem s_drop (C : cx.Ok) (hc : notComp x = true) (ha : SD Γ cx a x) : SS Γ cx (.drop a) (.Expr x pos) := fun st G s M Q E ns hok hex => by
  rw [qx_drop] at ns hok hex
  have hi : interactive cx.env = false := by unfold interactive; rw [C.kind]; rfl
  rw [exec_Expr cx.env x pos hi (swaps_no hc)]
  refine wpAny_bind (wpAny_standAt (wpAny_bind ?_))
  refine (ha st G s M).seq ns hex fun d st1 e1 G1 s1 v1 p1 l1 M1 r1 ns1 hex1 => ?_
  obtain ⟨rfl, r1⟩ := r1
  exact wpAny_dropValue (hok .next st1 (by rw [e1]; rfl) G1 s1 .next none l1 M1 ⟨rfl, rfl⟩)
end
end Mine
end

section
open PySem PySem.Calls PyProof.Rows
set_option Elab.async false
set_option linter.unusedVariables false
namespace Mine

/-! what is walked by a loop -/

noncomputable def ownedNames : List String := ["enumerate", "zip", "dict_itemiterator", "dict_reverseitemiterator", "odict_iterator", "itertools.zip_longest", "itertools.pairwise"]

structure WalkI (T : Tp) (G : GM) (xs : List PyData) (I : Addr) (fp : List Addr) (P : Nat → Value → Prop) (St : Nat → Heap → Prop) : Prop where
  W : ∀ A : Around, A.handled = none → Walks T.prog T.w A I fp [I] xs.length P St
  rep : ∀ i v, P i v → ∃ d, xs[i]? = some d ∧ Rep G v d
  cover : ∀ b ∈ fp, b = I ∨ ∃ o, G b = some o
  typed : ∀ i h, St i h → ∃ o n fs, h.get? I = some o ∧ o.cls = .type n ∧ o.data = .fields fs ∧ ownedNames.contains n = false

section
variable {Γ : Nat → Fn} {cx : Cx} {st : St} {G : GM} {s : Shared} {E : Value → Shared → Prop} {c a b a' b' : CE} {e x y z : Expr} {pos pos' apos : Pos} {op o1 o2 : CmpOp}

/-- an iterable, walked to its iterator -/
noncomputable def SI (Γ : Nat → Fn) (cx : Cx) (c : CI) (e : Expr) : Prop := ∀ st G s, Sim cx G st none s → ∀ (Q : Value → Shared → Prop) (E : Value → Shared → Prop), evi Γ c st ≠ .stuck →
  (∀ xs st', evi Γ c st = .ok (xs, st') → ∀ G' s' I fp P St, G.le G' → Sim cx G' st' none s' → (cx.lo ≤ I ∧ ∀ b o, cx.prot b = some o → b ≠ I) → I ∉ cx.priv → G' I = none → xs.length ≤ sizeLine → St 0 s'.heap → WalkI cx.T G' xs I fp P St → (∀ b ∈ fp, b < s'.heap.objs.size) → Q (.ref I) s') →
  (∀ k st', evi Γ c st = .exc k st' → ∀ G' s' e, G.le G' → Sim cx G' st' none s' → Fly cx k e s' → E (.ref e) s') →
  wpAny (model cx.T.prog cx.T.w) cx.A (eval e cx.env) (fun x s₁ => wpAny (model cx.T.prog cx.T.w) cx.A (pyIter x) Q E s₁) E s

/-- the heap's end is nobody's -/
theorem Sim.endFree (M : Sim cx G st none s) : (cx.lo ≤ s.heap.objs.size ∧ ∀ b o, cx.prot b = some o → b ≠ s.heap.objs.size) ∧ s.heap.objs.size ∉ cx.priv ∧ G s.heap.objs.size = none := by
  refine ⟨⟨M.size, fun b o hb e => ?_⟩, fun hp => ?_, ?_⟩
  · have := M.keep b o hb; rw [e, none_at _ (Nat.le_refl _)] at this; cases this
  · have := (M.priv _ hp).2.2; rw [none_at _ (Nat.le_refl _)] at this; cases this
  · cases q : G s.heap.objs.size with
    | none => rfl
    | some o => have := M.gin _ o q; rw [none_at _ (Nat.le_refl _)] at this; cases this

theorem pushed_lt {h : Heap} {o : Obj} {b : Addr} (hb : b = h.objs.size ∨ ∃ q, h.get? b = some q) : b < (h.push o).objs.size := by
  rw [Heap.size_push]
  rcases hb with rfl | ⟨q, hq⟩
  · exact Nat.lt_succ_self _
  · exact Nat.lt_succ_of_lt (Heap.lt_size hq)

theorem i_data (C : cx.Ok) (ha : SD Γ cx a x) : SI Γ cx (.data a) x := fun st G s M Q E ns hok hex => by
  rw [qi_data] at ns hok hex
  refine (ha st G s M).seq ns hex fun d st1 e1 G1 s1 v1 p1 l1 M1 r1 ns1 hex1 => ?_
  obtain ⟨rfl, r1⟩ := r1
  obtain ⟨f1, f2, f3⟩ := M1.endFree
  dsimp only at ns1
  cases hi : itemsF d with
  | none => rw [hi] at ns1; exact (ns1 rfl).elim
  | some xs =>
    have hev : ((toD (ev Γ a st)).bind fun (x, st) => match itemsF x with | some xs => R.ok (xs, st) | none => .stuck) = .ok (xs, st1) := by rw [e1]; simp only [R.bind, hi]
    cases d with
    | str q =>
      cases r1 with
      | str _ t =>
        simp only [itemsF] at hi
        split at hi
        · rename_i hz
          cases hi
          have hrep : ∀ i v, SignAt q i v → ∃ d, ((cs q).map fun c => PyData.str (S [c]))[i]? = some d ∧ Rep G1 v d := fun i v ⟨c, u, hc, hv⟩ => by
            refine ⟨.str (S [c]), ?_, by rw [hv]; exact .str ..⟩
            have : (cs q)[i]? = some c := by simpa [cs] using hc
            simp [this]
          have hlen : q.cps.size = ((cs q).map fun c => PyData.str (S [c])).length := by simp [cs]
          cases hasc : q.cps.all (· < 128) with
          | false =>
            refine wpAny_pyIter_wide hasc (hok _ st1 hev G1 _ s1.heap.objs.size _ (SignAt q) _ l1 (M1.grow s1.toks (ext_push _ _) (by rw [Heap.size_push]; omega)) f1 f2 f3 (by rw [← hlen]; have := okLen_le hz; simpa [cs] using this) ?_ ⟨fun A' hA => by rw [← hlen]; exact Walks.strWide hA _ q t, hrep, ?_, ?_⟩ ?_)
            · exact ⟨_, Heap.get?_push_size _ rfl, rfl, rfl⟩
            · intro b hb; exact .inl (by simpa using hb)
            · rintro i h ⟨o, ho, hc, hd⟩; exact ⟨o, _, _, ho, hc, hd, by decide⟩
            · intro b hb; exact pushed_lt (.inl (by simpa using hb))
          | true =>
            refine wpAny_pyIter_ascii hasc (hok _ st1 hev G1 _ s1.heap.objs.size _ (SignAt q) _ l1 (M1.grow s1.toks (ext_push _ _) (by rw [Heap.size_push]; omega)) f1 f2 f3 (by rw [← hlen]; have := okLen_le hz; simpa [cs] using this) ?_ ⟨fun A' hA => by rw [← hlen]; exact Walks.strAscii hA _ q t, hrep, ?_, ?_⟩ ?_)
            · exact ⟨_, Heap.get?_push_size _ rfl, rfl, rfl⟩
            · intro b hb; exact .inl (by simpa using hb)
            · rintro i h ⟨o, ho, hc, hd⟩; exact ⟨o, _, _, ho, hc, hd, by decide⟩
            · intro b hb; exact pushed_lt (.inl (by simpa using hb))
        · cases hi
    | list ys =>
      simp only [itemsF] at hi
      split at hi
      · rename_i hz
        cases hi
        cases r1 with
        | @list la o vs n _ eg hc hd hr =>
          have hl : s1.heap.IsList la vs := ⟨o, M1.gin _ _ eg, hc, n, hd⟩
          have hne : la ≠ s1.heap.objs.size := Nat.ne_of_lt (Heap.lt_size (M1.gin _ _ eg))
          refine wpAny_pyIter_list hl (hok xs st1 hev G1 _ s1.heap.objs.size _ _ _ l1 (M1.grow s1.toks (ext_push _ _) (by rw [Heap.size_push]; omega)) f1 f2 f3 (okLen_le hz) ?_ ⟨fun A' hA => by rw [← hr.size]; exact Walks.list hA _ la hne vs, ?_, ?_, ?_⟩ ?_)
          · exact ⟨⟨_, Heap.get?_push_size _ rfl, rfl, rfl⟩, hl.at fun o e => Heap.get?_push_of_some _ e⟩
          · intro i v hv; exact hr.get' i v (by simpa using hv)
          · intro b hb
            simp only [List.mem_cons, List.not_mem_nil, or_false] at hb
            rcases hb with rfl | rfl
            · exact .inl rfl
            · exact .inr ⟨o, eg⟩
          · rintro i h ⟨⟨o, ho, hc, hd⟩, _⟩; exact ⟨o, _, _, ho, hc, hd, by decide⟩
          · intro b hb
            simp only [List.mem_cons, List.not_mem_nil, or_false] at hb
            rcases hb with rfl | rfl
            · exact pushed_lt (.inl rfl)
            · exact pushed_lt (.inr ⟨o, M1.gin _ _ eg⟩)
      · cases hi
    | tuple ys =>
      simp only [itemsF] at hi
      split at hi
      · rename_i hz
        cases hi
        cases r1 with
        | @tuple la o vs n _ eg hc hd hr =>
          have hl : s1.heap.IsTuple la vs := ⟨o, M1.gin _ _ eg, hc, n, hd⟩
          have hne : la ≠ s1.heap.objs.size := Nat.ne_of_lt (Heap.lt_size (M1.gin _ _ eg))
          refine wpAny_pyIter_tuple hl (hok xs st1 hev G1 _ s1.heap.objs.size _ _ _ l1 (M1.grow s1.toks (ext_push _ _) (by rw [Heap.size_push]; omega)) f1 f2 f3 (okLen_le hz) ?_ ⟨fun A' hA => by rw [← hr.size]; exact Walks.tuple hA _ la hne vs, ?_, ?_, ?_⟩ ?_)
          · exact ⟨⟨_, Heap.get?_push_size _ rfl, rfl, rfl⟩, hl.at fun o e => Heap.get?_push_of_some _ e⟩
          · intro i v hv; exact hr.get' i v (by simpa using hv)
          · intro b hb
            simp only [List.mem_cons, List.not_mem_nil, or_false] at hb
            rcases hb with rfl | rfl
            · exact .inl rfl
            · exact .inr ⟨o, eg⟩
          · rintro i h ⟨⟨o, ho, hc, hd⟩, _⟩; exact ⟨o, _, _, ho, hc, hd, by decide⟩
          · intro b hb
            simp only [List.mem_cons, List.not_mem_nil, or_false] at hb
            rcases hb with rfl | rfl
            · exact pushed_lt (.inl rfl)
            · exact pushed_lt (.inr ⟨o, M1.gin _ _ eg⟩)
      · cases hi
    | none => cases hi
    | bool b => cases hi
    | int i => cases hi
    | dict xs => cases hi

theorem i_range {f : Str} (TO : cx.T.Ok) (C : cx.Ok) (hg : isGl cx.env.scope.names f "range" = true) (hx : notStar x = true) (ha : SD Γ cx a x) : SI Γ cx (.range a) (.Call (.Name f pos') [x] [] pos) := fun st G s M Q E ns hok hex => by
  rw [qi_range] at ns hok hex
  refine biCall1 TO C M hg (by decide +kernel) (.inr ⟨"range", rfl⟩) hx ?_
  refine (ha st G s M).seq ns hex fun d st1 e1 G1 s1 v1 p1 l1 M1 r1 ns1 hex1 => ?_
  obtain ⟨rfl, r1⟩ := r1
  cases r1 with
  | int n t =>
    dsimp only at ns1
    split at ns1
    · rename_i hz
      have hz' := hz
      simp only [Bool.and_eq_true, decide_eq_true_eq] at hz
      refine call_range_1 ?_
      generalize hs2 : ({ s1 with heap := s1.heap.push { cls := .type "range", data := .fields #[.int 0 s1.toks, .int n t, .int 1 (s1.toks + 1)] }, toks := s1.toks + 1 + 1 } : Shared) = s2
      have M2 : Sim cx G1 st1 none s2 := by rw [← hs2]; exact M1.grow _ (ext_push _ _) (by rw [Heap.size_push]; omega)
      have hR : IsRange s2.heap s1.heap.objs.size 0 n 1 s1.toks t (s1.toks + 1) := by rw [← hs2]; exact IsRange.new ..
      obtain ⟨f1, f2, f3⟩ := M2.endFree
      have hsz : Builtin.Range.rangeSize 0 n 1 = ((n.toNat : Nat) : Int) := by rw [rangeSize_one]; split <;> omega
      have hlen : ((List.range n.toNat).map fun (k : Nat) => PyData.int k).length = n.toNat := by simp
      refine wpAny_pyIter_range hR (small_one (by omega) (by omega) (by omega) (by omega)) (hok ((List.range n.toNat).map fun (k : Nat) => PyData.int k) st1 (by rw [e1]; simp only [R.bind, hz', if_true]) G1 _ s2.heap.objs.size _ (fun i v => i < n.toNat ∧ ∃ t, v = .int (0 + (i : Int) * 1) t) _ l1 (M2.grow s2.toks (ext_push _ _) (by rw [Heap.size_push]; omega)) f1 f2 f3 ?_ ?_
        ⟨fun A' hA => by rw [hlen]; exact (Walks.range hA _ 0 1 n.toNat).bound, ?_, ?_, ?_⟩ ?_)
      · rw [hlen, sizeLine_eq]; omega
      · show IsRangeIter _ _ _ _ _
        rw [hsz]
        simpa using Heap.get?_push_size _ rfl
      · rintro i v ⟨hi, t, rfl⟩
        refine ⟨.int i, ?_, ?_⟩
        · simp [hi]
        · have : (0 : Int) + (i : Int) * 1 = i := by omega
          rw [this]; exact .int ..
      · intro b hb; exact .inl (by simpa using hb)
      · intro i h hi; exact ⟨_, _, _, hi, rfl, rfl, by decide⟩
      · intro b hb; exact pushed_lt (.inl (by simpa using hb))
    · exact (ns1 rfl).elim
  | none => exact (ns1 rfl).elim
  | bool b => exact (ns1 rfl).elim
  | str x t => exact (ns1 rfl).elim
  | list e c d r => exact (ns1 rfl).elim
  | tuple e c d r => exact (ns1 rfl).elim
end
end Mine
end

section
open PySem PySem.Calls PyProof.Rows
set_option Elab.async false
set_option linter.unusedVariables false
namespace Mine

/-! loops -/

/-- some objects more are held -/
noncomputable def Cx.guard (cx : Cx) (ks : List Addr) (s : Shared) : Cx := { cx with prot := fun b => if ks.contains b = true then s.heap.get? b else cx.prot b }
theorem Cx.like_guard (cx : Cx) (ks : List Addr) (s : Shared) : cx.Like (cx.guard ks s) := ⟨rfl, rfl, rfl, rfl, rfl, rfl⟩

section
variable {Γ : Nat → Fn} {cx : Cx} {st : St} {G : GM} {s : Shared} {E : Value → Shared → Prop} {c a b a' b' : CE} {e x y z : Expr} {pos pos' apos : Pos} {op o1 o2 : CmpOp} {ks : List Addr}

theorem Sim.guard {xo : Option Addr} (M : Sim cx G st xo s) (hk : ∀ b ∈ ks, ¬ IsL s.heap b) : Sim (cx.guard ks s) G st xo s := by
  obtain ⟨ad, V⟩ := M.vals
  refine ⟨M.shr, fun b o e => ?_, M.gle, M.gin, M.gnew, M.size, M.priv, M.ns, M.cells, ad, V.rep, fun i xs h => ?_, V.inj, fun a e => ?_⟩
  · unfold Cx.guard at e; dsimp only at e; split at e
    · exact e
    · exact M.keep b o e
  · obtain ⟨⟨f1, f2, f3, f4⟩, f5⟩ := V.free i xs h
    refine ⟨⟨f1, f2, ?_, f4⟩, f5⟩
    unfold Cx.guard; dsimp only; split
    · rename_i q
      exact absurd f5 (hk _ (by simpa using q))
    · exact f3
  · obtain ⟨⟨⟨f1, f2, f3, f4⟩, f5⟩, f6⟩ := V.ex a e
    refine ⟨⟨⟨f1, f2, ?_, f4⟩, f5⟩, f6⟩
    unfold Cx.guard; dsimp only; split
    · rename_i q
      exact absurd f5 (hk _ (by simpa using q))
    · exact f3

theorem Sim.unguard {s' : Shared} {G' : GM} {st' : St} {x : Option Addr} (M : Sim (cx.guard ks s) G' st' x s') (hk : cx.prot.In s.heap) : Sim cx G' st' x s' := by
  obtain ⟨ad, V⟩ := M.vals
  have sub : ∀ b, (cx.guard ks s).prot b = none → cx.prot b = none := fun b e => by
    cases q : cx.prot b with
    | none => rfl
    | some o =>
      unfold Cx.guard at e; dsimp only at e; split at e
      · have := hk b o q; rw [e] at this; cases this
      · rw [q] at e; cases e
  refine ⟨M.shr, fun b o e => M.keep b o ?_, M.gle, M.gin, M.gnew, M.size, M.priv, M.ns, M.cells, ad, V.rep, fun i xs h => ?_, V.inj, fun a e => ?_⟩
  · unfold Cx.guard; dsimp only; split
    · exact hk b o e
    · exact e
  · obtain ⟨⟨f1, f2, f3, f4⟩, f5⟩ := V.free i xs h
    exact ⟨⟨f1, f2, sub _ f3, f4⟩, f5⟩
  · obtain ⟨⟨⟨f1, f2, f3, f4⟩, f5⟩, f6⟩ := V.ex a e
    exact ⟨⟨⟨f1, f2, sub _ f3, f4⟩, f5⟩, f6⟩

theorem Cx.Full.guard (Fu : cx.Full) (h : ∀ b ∈ ks, b ∉ cx.priv) : (cx.guard ks s).Full := by
  refine ⟨Fu.loc, Fu.cell, Fu.apart, Fu.inj, Fu.nodup, fun p hp => ?_, Fu.has⟩
  unfold Cx.guard; dsimp only; split
  · rename_i q; exact absurd hp (h p (by simpa using q))
  · exact Fu.prv p hp

theorem Sim.held {s' : Shared} {G' : GM} {st' : St} {x : Option Addr} (M : Sim (cx.guard ks s) G' st' x s') {b : Addr} {o : Obj} (hb : b ∈ ks) (ho : s.heap.get? b = some o) : s'.heap.get? b = some o := by
  refine M.keep b o ?_
  unfold Cx.guard; dsimp only
  rw [if_pos (by simpa using hb)]; exact ho

/-- the loop's own objects: nobody else's -/
structure Off (cx : Cx) (wr : List Addr) : Prop where
  g : ∀ b ∈ wr, cx.G₀ b = none
  p : ∀ b ∈ wr, cx.prot b = none
  v : ∀ b ∈ wr, b ∉ cx.priv

noncomputable def FieldsAt (h : Heap) (b : Addr) : Prop := ∃ o, h.get? b = some o ∧ ∀ vs n, o.data ≠ .seq vs n
theorem FieldsAt.of {h : Heap} {b : Addr} {o : Obj} {fs : Array Value} (ho : h.get? b = some o) (hd : o.data = .fields fs) : FieldsAt h b := ⟨o, ho, fun vs n e => by rw [hd] at e; cases e⟩
theorem FieldsAt.notL {h : Heap} {b : Addr} (x : FieldsAt h b) : ¬ IsL h b := fun ⟨vs, o, ho, _, n, hd⟩ => by
  obtain ⟨o', ho', hd'⟩ := x
  rw [ho] at ho'; cases ho'; exact hd' _ _ hd

theorem Sim.touch {xo : Option Addr} (Fu : cx.Half) (M : Sim cx G st xo s) {wr : List Addr} (O : Off cx wr) (ty : ∀ b ∈ wr, FieldsAt s.heap b) {h' : Heap} (tk : Nat) (hk : ∀ b o, b ∉ wr → s.heap.get? b = some o → h'.get? b = some o) :
    Sim cx G st xo { s with heap := h', toks := tk } := by
  have gw : ∀ b ∈ wr, G b = none := fun b hb => by
    cases q : G b with
    | none => rfl
    | some o =>
      exfalso
      obtain ⟨o', h1, h2⟩ := ty b hb
      have := M.gin b o q; rw [h1] at this; cases this
      rcases M.gnew b _ q with r | ⟨_, vs, n, r⟩
      · rw [O.g b hb] at r; cases r
      · exact h2 _ _ r
  have some_of : ∀ {b}, b ∉ wr → (s.heap.get? b).isSome = true → (h'.get? b).isSome = true := fun {b} hb e => by
    obtain ⟨o, ho⟩ := Option.isSome_iff_exists.mp e; rw [hk b o hb ho]; rfl
  have P := M.priv _ Fu.loc
  have hLw : cx.env.locals ∉ wr := fun h => O.v _ h Fu.loc
  obtain ⟨oL, hoL⟩ := Option.isSome_iff_exists.mp (some_of hLw P.2.2)
  obtain ⟨h, t, q⟩ := M.shr
  obtain ⟨ad, V⟩ := M.vals
  obtain ⟨m, om, es, ep, hm1, hm2⟩ := M.ns
  have lw : ∀ i xs, slot st i = some (.own xs) → ad i ∉ wr := fun i xs h1 hw => (ty _ hw).notL (V.free i xs h1).2
  refine ⟨⟨h', tk, by rw [q]⟩, fun b o y => hk _ _ (fun hw => by rw [O.p b hw] at y; cases y) (M.keep b o y), M.gle, fun b o y => hk _ _ (fun hw => by rw [gw b hw] at y; cases y) (M.gin b o y), M.gnew,
    Nat.le_of_lt (Nat.lt_of_le_of_lt P.2.1 (Heap.lt_size hoL)), fun p hp => ?_, ⟨m, om, es, ep, hk _ _ hLw hm1, hm2⟩, fun y c hc => ?_, ad, ?_, ?_, V.inj, fun a e => ?_⟩
  · have P := M.priv p hp; exact ⟨P.1, P.2.1, some_of (fun h => O.v _ h hp) P.2.2⟩
  · obtain ⟨v, o, ho, hd⟩ := M.cells y c hc; exact ⟨v, o, hk _ _ (fun h => O.v _ h (Fu.cell y c hc)) ho, hd⟩
  · intro i f y h1 h2 h3
    obtain ⟨v, hv, hr⟩ := V.rep i f y h1 h2 h3
    refine ⟨v, ?_, ?_⟩
    · rcases hv with ⟨k, m', ⟨o, es', ep', ho, r⟩, hm'⟩ | ⟨k, c, hc, o, ho, hd⟩
      · exact .inl ⟨k, m', ⟨o, es', ep', hk _ _ hLw ho, r⟩, hm'⟩
      · exact .inr ⟨k, c, hc, o, hk _ _ (fun h => O.v _ h (Fu.cell _ c (mem_of_lookup hc))) ho, hd⟩
    · cases f with
      | val d => exact hr
      | own xs => exact ⟨hr.1, hr.2.ext (GM.le_refl _) fun o e => hk _ o (lw i xs h1) e⟩
  · intro i xs h1; have P := V.free i xs h1; exact ⟨P.1, P.2.at fun o e => hk _ o (lw i xs h1) e⟩
  · have P := V.ex a e; exact ⟨⟨P.1.1, P.1.2.at fun o e => hk _ o (fun hw => (ty _ hw).notL P.1.2) e⟩, P.2⟩

/-- a walk, as a loop of a frame takes it -/
structure Cur (cx : Cx) (G₁ : GM) (it : Value) (tg : Expr) (xs : List PyData) (fp wr : List Addr) (St : Nat → Heap → Prop) : Prop where
  off : Off cx wr
  frame : ∀ i h h', St i h → (∀ b ∈ fp, ∀ o, h.get? b = some o → h'.get? b = some o) → St i h'
  typed : ∀ i h, St i h → ∀ b ∈ wr, FieldsAt h b
  cover : ∀ b ∈ fp, b ∈ wr ∨ ∃ o, G₁ b = some o
  step : ∀ i G st (s : Shared) (Q : Value → Shared → Prop) (E : Value → Shared → Prop), i < xs.length → Sim cx G st none s → St i s.heap → G₁.le G →
    (∀ d G' v s', xs[i]? = some d → G.le G' → Sim cx G' st none s' → Rep G' v d → St (i + 1) s'.heap → Q v s') →
    wpAny (model cx.T.prog cx.T.w) cx.A (pyNext it) (fun r s₁ => match r with | none => False | some v => wpAny (model cx.T.prog cx.T.w) cx.A (letOwnedTupleGo tg it v) (fun _ s₂ => Q v s₂) E s₁) E s
  done : ∀ G st (s : Shared) (Q : Option Value → Shared → Prop) (E : Value → Shared → Prop), Sim cx G st none s → St xs.length s.heap → (∀ s', Sim cx G st none s' → Q none s') → wpAny (model cx.T.prog cx.T.w) cx.A (pyNext it) Q E s

theorem go_plain {M : Model} {A : Around} {s : Shared} {tg : Expr} {I : Addr} {v : Value} {o : Obj} {n : String} {Q : Unit → Shared → Prop} (ho : s.heap.get? I = some o) (hc : o.cls = .type n) (hn : ownedNames.contains n = false) (h : Q () s) :
    wpAny M A (letOwnedTupleGo tg (.ref I) v) Q E s := by
  unfold letOwnedTupleGo
  split
  · cases v with
    | ref a =>
      refine wpAny_bind (wpAny_load ho ?_)
      skip
      rw [hc]
      split
      · rename_i n' vs hh hd
        cases hh
        have : (["enumerate", "zip", "dict_itemiterator", "dict_reverseitemiterator", "odict_iterator", "itertools.zip_longest", "itertools.pairwise"].contains n) = false := hn
        rw [this]
        exact wpAny_pure h
      · exact wpAny_pure h
    | _ => exact wpAny_pure h
  · cases v with
    | ref a =>
      refine wpAny_bind (wpAny_load ho ?_)
      skip
      rw [hc]
      split
      · rename_i n' vs hh hd
        cases hh
        have : (["enumerate", "zip", "dict_itemiterator", "dict_reverseitemiterator", "odict_iterator", "itertools.zip_longest", "itertools.pairwise"].contains n) = false := hn
        rw [this]
        exact wpAny_pure h
      · exact wpAny_pure h
    | _ => exact wpAny_pure h
  · exact wpAny_pure h

theorem WalkI.cur (C : cx.Ok) (Fu : cx.Full) {G₁ : GM} {xs : List PyData} {I : Addr} {fp : List Addr} {P : Nat → Value → Prop} {St : Nat → Heap → Prop} (W : WalkI cx.T G₁ xs I fp P St) (O : Off cx [I]) (tg : Expr) : Cur cx G₁ (.ref I) tg xs fp [I] St where
  off := O
  frame := (W.W cx.A C.hand).frame
  typed := fun i h hs b hb => by
    obtain ⟨o, n, fs, h1, _, h2, _⟩ := W.typed i h hs
    rw [List.mem_singleton.mp hb]; exact .of h1 h2
  cover := fun b hb => (W.cover b hb).imp (fun e => by simp [e]) id
  step := fun i G st s Q E hi M hs hl hq => by
    refine (W.W cx.A C.hand).item i s _ E hi hs fun v h' tk hp hs' hk => ?_
    have ty : ∀ b ∈ [I], FieldsAt s.heap b := fun b hb => by
      obtain ⟨o, n, fs, h1, _, h2, _⟩ := W.typed i _ hs
      rw [List.mem_singleton.mp hb]; exact .of h1 h2
    obtain ⟨d, hd, hr⟩ := W.rep i v hp
    obtain ⟨o, n, fs, h1, h2, h3, h4⟩ := W.typed _ _ hs'
    exact go_plain (s := { s with heap := h', toks := tk }) h1 h2 h4 (hq d G v _ hd (GM.le_refl _) (M.touch Fu.half O ty tk hk) (hr.mono hl) hs')
  done := fun G st s Q E M hs hq => by
    refine (W.W cx.A C.hand).done s Q E hs fun h' tk hk => hq _ (M.touch Fu.half O (fun b hb => ?_) tk hk)
    obtain ⟨o, n, fs, h1, _, h2, _⟩ := W.typed _ _ hs
    rw [List.mem_singleton.mp hb]; exact .of h1 h2

theorem assign_tg {t : Tg} {tg : Expr} {d : PyData} {v : Value} {st' : St} {Q : Unit → Shared → Prop} (C : cx.Ok) (Fu : cx.Full) (hm : mT cx.nm cx.env.scope.names t tg = true) (hb : bindT t d st = some st') (hr : Rep G v d) (M : Sim cx G st none s)
    (hq : ∀ s', Sim cx G st' none s' → Q () s') : wpAny (model cx.T.prog cx.T.w) cx.A (assign tg cx.env v) Q E s := by
  cases t with
  | one i =>
    cases tg with
    | Name z p =>
      obtain ⟨h1, h2, h3⟩ := acc_of (show _ from hm)
      simp only [bindT] at hb
      split at hb
      · rename_i hi
        cases hb
        exact wpAny_assign_Name (M.store Fu C.kind (f := .val d) ⟨rfl, hr⟩ h1 h2 hi hq)
      · cases hb
    | _ => exact absurd (show false = true from hm) Bool.false_ne_true
  | many is =>
    cases tg with
    | Tuple ts k p =>
      cases d with
      | tuple ds => exact assign_tup C Fu (show _ from hm) hr (by simpa only [bindT] using hb) M hq
      | _ => simp [bindT] at hb
    | _ => exact absurd (show false = true from hm) Bool.false_ne_true

theorem for_loop {t : Tg} {tg : Expr} {body : CSs} {bd : List Stmt} {it : Value} {xs : List PyData} {fp wr : List Addr} {St : Nat → Heap → Prop} {Q : Flow → Shared → Prop} {Er : Value → Shared → Prop} (C : cx.Ok) (Fu : cx.Full) (K : Cur cx G it tg xs fp wr St)
    (hm : mT cx.nm cx.env.scope.names t tg = true) (hb : ∀ cx', cx.Like cx' → cx'.Full → SSs Γ cx' body bd) (M : Sim cx G st none s) (hs : St 0 s.heap)
    (ns : forL (fun x st => match bindT t x st with | some st' => exs Γ body st' | none => .stuck) xs st ≠ .stuck)
    (hok : ∀ b st', forL (fun x st => match bindT t x st with | some st' => exs Γ body st' | none => .stuck) xs st = .ok (b, st') → ∀ G' s' v x, G.le G' → Sim cx G' st' x s' → RFl G' s'.heap v x b → Q v s') :
    codeAny (model cx.T.prog cx.T.w) cx.A (.forLoop tg it bd [] cx.env) (fun r s' => match r with | .ok f => Q f s' | .error e => Er e s') s := by
  refine codeAny_forLoop_any (fun k s' => ∃ i st' G', k = xs.length - i ∧ i ≤ xs.length ∧ G.le G' ∧ Sim cx G' st' none s' ∧ St i s'.heap ∧
    forL (fun x st => match bindT t x st with | some st' => exs Γ body st' | none => .stuck) (xs.drop i) st' = forL (fun x st => match bindT t x st with | some st' => exs Γ body st' | none => .stuck) xs st) ?_ (xs.length) ⟨0, st, G, by omega, Nat.zero_le _, GM.le_refl _, M, hs, by simp⟩
  rintro k s' ⟨i, st', G', rfl, hi, hl, M', hs', hfor⟩
  rcases Nat.lt_or_ge i xs.length with hlt | hge
  · have hdrop : xs.drop i = xs[i] :: xs.drop (i + 1) := List.drop_eq_getElem_cons hlt
    rw [hdrop, forL] at hfor
    skip
    refine wpAny_mono (K.step i G' st' s' (fun v s₂ => wpAny (model cx.T.prog cx.T.w) cx.A (assign tg cx.env v) (fun _ s₂ => wpAny (model cx.T.prog cx.T.w) cx.A (execs bd cx.env) (fun f s₃ => match f with
            | .next | .cont => ∃ m, m < xs.length - i ∧ ∃ i st' G', m = xs.length - i ∧ i ≤ xs.length ∧ G.le G' ∧ Sim cx G' st' none s₃ ∧ St i s₃.heap ∧
                forL (fun x st => match bindT t x st with | some st' => exs Γ body st' | none => .stuck) (xs.drop i) st' = forL (fun x st => match bindT t x st with | some st' => exs Γ body st' | none => .stuck) xs st
            | .brk => Q .next s₃
            | .ret v => Q (.ret v) s₃) (notedBy (model cx.T.prog cx.T.w) cx.A cx.env fun e s' => Er e s') s₂) (notedBy (model cx.T.prog cx.T.w) cx.A cx.env fun e s' => Er e s') s₂) _ hlt M' hs' hl ?_) (fun r s₁ h => ?_) fun _ _ h => h
    · intro d G'' v s₂ hd hl' M₂ hr hs₂
      have hd' : d = xs[i] := by rw [List.getElem?_eq_getElem hlt] at hd; exact (Option.some.inj hd).symm
      subst hd'
      cases hbt : bindT t xs[i] st' with
      | none => rw [hbt] at hfor; rw [← hfor] at ns; exact (ns rfl).elim
      | some st₁ =>
        rw [hbt] at hfor
        dsimp only at hfor
        have ty := K.typed _ _ hs₂
        have Mg : Sim (cx.guard wr s₂) G'' st' none s₂ := M₂.guard fun b hb => (ty b hb).notL
        have Fg : (cx.guard wr s₂).Full := Fu.guard K.off.v
        have Cg : (cx.guard wr s₂).Ok := C.like (cx.like_guard wr s₂)
        refine assign_tg (cx := cx.guard wr s₂) Cg Fg hm hbt hr Mg fun s₃ M₃ => ?_
        have hbody := hb _ (cx.like_guard wr s₂) Fg st₁ G'' s₃ M₃
        have fr : ∀ {G₃ : GM} {st₃ : Mine.St} {s₄ : Shared} {x : Option Addr}, G''.le G₃ → Sim (cx.guard wr s₂) G₃ st₃ x s₄ → St (i + 1) s₄.heap := fun {G₃ st₃ s₄ x} l4 M₄ => by
          refine K.frame _ _ _ hs₂ fun b hb o ho => ?_
          rcases K.cover b hb with hw | ⟨o', ho'⟩
          · exact M₄.held hw ho
          · have h1 := M₂.gin b o' (hl' b o' (hl b o' ho'))
            rw [ho] at h1; cases h1
            exact M₄.gin b o (l4 b o (hl' b o (hl b o ho')))
        cases hres : exs Γ body st₁ with
        | stuck => rw [hres] at hfor; rw [← hfor] at ns; exact (ns rfl).elim
        | exc k st₂ => rw [hres] at hfor; rw [← hfor] at ns; exact (ns rfl).elim
        | ok p =>
          obtain ⟨fl, st₂⟩ := p
          rw [hres] at hfor hbody
          refine hbody _ _ (by simp) (fun b st₃ e₃ G₃ s₄ f x l₃ M₄ r₄ => ?_) (fun k st₃ e₃ => by cases e₃)
          obtain ⟨rfl, rfl⟩ := Prod.mk.inj (R.ok.inj e₃)
          have M₅ := M₄.unguard M₂.keep
          cases fl with
          | next =>
            obtain ⟨rfl, rfl⟩ := r₄
            dsimp only at hfor ⊢
            exact ⟨xs.length - (i + 1), by omega, i + 1, st₂, G₃, rfl, hlt, GM.le_trans hl (GM.le_trans hl' l₃), M₅, fr l₃ M₄, hfor⟩
          | ret g =>
            obtain ⟨v', rfl, hr'⟩ := r₄
            dsimp only at hfor ⊢
            exact hok (.ret g) st₂ hfor.symm G₃ s₄ (.ret v') x (GM.le_trans hl (GM.le_trans hl' l₃)) M₅ ⟨v', rfl, hr'⟩
    · cases r with
      | none => exact h.elim
      | some v => exact h
  · have hi' : i = xs.length := by omega
    subst hi'
    rw [List.drop_length, forL] at hfor
    refine K.done G' st' s' _ _ M' hs' fun s'' M'' => ?_
    exact wpAny_execs_nil (hok .next st' hfor.symm G' s'' .next none hl M'' ⟨rfl, rfl⟩)
end
end Mine
end

section
open PySem PySem.Calls PyProof.Rows
set_option Elab.async false
set_option linter.unusedVariables false
namespace Mine

/-! the for statement -/

section
variable {Γ : Nat → Fn} {cx : Cx} {st : St} {G : GM} {s : Shared} {E : Value → Shared → Prop} {c a b a' b' : CE} {e x y z : Expr} {pos pos' apos : Pos} {op o1 o2 : CmpOp}

noncomputable def SF (Γ : Nat → Fn) (cx : Cx) (c : CI) (e tg : Expr) : Prop := ∀ st G s, Sim cx G st none s → ∀ (Q : Value → Shared → Prop) (E : Value → Shared → Prop), evi Γ c st ≠ .stuck →
  (∀ xs st', evi Γ c st = .ok (xs, st') → ∀ G' s' it fp wr St, G.le G' → Sim cx G' st' none s' → Cur cx G' it tg xs fp wr St → St 0 s'.heap → Q it s') →
  (∀ k st', evi Γ c st = .exc k st' → ∀ G' s' e, G.le G' → Sim cx G' st' none s' → Fly cx k e s' → E (.ref e) s') →
  wpAny (model cx.T.prog cx.T.w) cx.A (eval e cx.env) (fun x s₁ => wpAny (model cx.T.prog cx.T.w) cx.A (pyIter x) Q E s₁) E s

theorem off_of (M : Sim cx G st none s) {I : Addr} (h : (cx.lo ≤ I ∧ ∀ b o, cx.prot b = some o → b ≠ I)) (hp : I ∉ cx.priv) (hg : G I = none) : Off cx [I] := by
  refine ⟨fun b hb => ?_, fun b hb => ?_, fun b hb => ?_⟩ <;> obtain rfl := List.mem_singleton.mp hb
  · cases q : cx.G₀ b with
    | none => rfl
    | some o => have := M.gle b o q; rw [hg] at this; cases this
  · cases q : cx.prot b with
    | none => rfl
    | some o => exact absurd rfl (h.2 b o q)
  · exact hp

theorem Off.two {a b : Addr} (h1 : Off cx [a]) (h2 : Off cx [b]) : Off cx [a, b] := by
  refine ⟨fun q hq => ?_, fun q hq => ?_, fun q hq => ?_⟩ <;> simp only [List.mem_cons, List.not_mem_nil, or_false] at hq <;> rcases hq with rfl | rfl
  · exact h1.g _ (by simp)
  · exact h2.g _ (by simp)
  · exact h1.p _ (by simp)
  · exact h2.p _ (by simp)
  · exact h1.v _ (by simp)
  · exact h2.v _ (by simp)

theorem SI.sf {c : CI} (C : cx.Ok) (Fu : cx.Full) (h : SI Γ cx c e) (tg : Expr) : SF Γ cx c e tg := fun st G s M Q E ns hok hex =>
  h st G s M Q E ns (fun xs st' e1 G' s' I fp P St l M' f1 f2 f3 _ h0 W _ => hok xs st' e1 G' s' (.ref I) fp [I] St l M' (W.cur C Fu (off_of M' f1 f2 f3) tg) h0) hex

theorem s_loop {t : Tg} {tg : Expr} {body : CSs} {bd : List Stmt} {ci : CI} (C : cx.Ok) (Fu : cx.Full) (hm : mT cx.nm cx.env.scope.names t tg = true) (hs : ∀ v, foldedSetIterable e cx.env v = pure v) (hi : SF Γ cx ci e tg)
    (hb : ∀ cx', cx.Like cx' → cx'.Full → SSs Γ cx' body bd) : SS Γ cx (.loop t ci body) (.For tg e bd [] pos) := fun st G s M Q E ns hok hex => by
  rw [qx_loop] at ns hok hex
  refine wpAny_For ?_ hs
  cases hev : evi Γ ci st with
  | stuck => rw [hev] at ns; exact (ns rfl).elim
  | exc k st1 =>
    rw [hev] at hex
    refine hi st G s M _ _ (by rw [hev]; simp) (fun xs st' e1 => by rw [hev] at e1; cases e1) (fun k' st' e1 G' s' e l M' f => ?_)
    rw [hev] at e1; exact hex k' st' (by cases e1; rfl) G' s' e l M' f
  | ok p =>
    obtain ⟨xs, st1⟩ := p
    rw [hev] at ns hok hex
    refine hi st G s M _ _ (by rw [hev]; simp) (fun xs' st' e1 G' s' it fp wr St l M' K h0 => ?_) (fun k' st' e1 => by rw [hev] at e1; cases e1)
    rw [hev] at e1
    obtain ⟨rfl, rfl⟩ := Prod.mk.inj (R.ok.inj e1)
    exact for_loop C Fu K hm hb M' h0 ns fun b st2 e2 G2 s2 v x l2 M2 r2 => hok b st2 e2 G2 s2 v x (GM.le_trans l l2) M2 r2

/-- a tuple that was just made, put by -/
theorem Sim.putTup {T : Addr} {o : Obj} (M : Sim cx G st none s) (ho : s.heap.get? T = some o) (hc : o.cls = .type "tuple") (hq : SeqO o) (gT : G T = none) (hl : cx.lo ≤ T) (hp : T ∉ cx.priv) : G.le (G.put T o) ∧ Sim cx (G.put T o) st none s := by
  obtain ⟨ad, V⟩ := M.vals
  have l : G.le (G.put T o) := GM.le_put gT
  refine ⟨l, M.shr, M.keep, GM.le_trans M.gle l, M.gin.put ho, fun b o' q => ?_, M.size, fun p hp' => ?_, M.ns, M.cells, ad, ?_, ?_, V.inj, fun a ha => by cases ha⟩
  · unfold GM.put at q; split at q
    · rename_i r; subst r; cases q; exact .inr ⟨hl, hq⟩
    · exact M.gnew b o' q
  · have P := M.priv p hp'; exact ⟨by rw [GM.put_ne (fun (r : p = T) => hp (r ▸ hp'))]; exact P.1, P.2⟩
  · intro i f y h1 h2 h3
    obtain ⟨v, hv, hr⟩ := V.rep i f y h1 h2 h3
    exact ⟨v, hv, hr.ext l fun _ e => e⟩
  · intro i xs h1
    obtain ⟨⟨p1, p2, p3, p4⟩, p5⟩ := V.free i xs h1
    refine ⟨⟨p1, ?_, p3, p4⟩, p5⟩
    rw [GM.put_ne]; exact p2
    intro r
    obtain ⟨vs, o', h1', h2', _⟩ := p5
    rw [r, ho] at h1'; cases h1'; rw [hc] at h2'; simp at h2'

theorem enumFrom_length : ∀ (xs : List PyData) (n : Nat), (enumFrom n xs).length = xs.length
  | [], _ => rfl
  | x :: xs, n => by rw [enumFrom, List.length_cons, enumFrom_length xs (n + 1), List.length_cons]
theorem enumFrom_get : ∀ (xs : List PyData) (n i : Nat), (enumFrom n xs)[i]? = xs[i]?.map fun d => .tuple [.int (n + i : Nat), d]
  | [], _, _ => by simp [enumFrom]
  | x :: xs, n, 0 => by simp [enumFrom]
  | x :: xs, n, i + 1 => by
    rw [enumFrom, List.getElem?_cons_succ, List.getElem?_cons_succ, enumFrom_get xs (n + 1) i]
    have : n + 1 + i = n + (i + 1) := by omega
    rw [this]

theorem enum_cur {elts : List Expr} {k : Nat} {p : Pos} {xs : List PyData} {it eA : Addr} {fp : List Addr} {n : Nat} {P : Nat → Value → Prop} {St : Nat → Heap → Prop} (C : cx.Ok) (Fu : cx.Full)
    (D : ∀ A : Around, A.handled = none → Draws cx.T.prog cx.T.w A it fp n P St) (hei : eA ≠ it) (hef : eA ∉ fp) (hif : it ∈ fp) (O : Off cx [eA, it])
    (hn : n = xs.length) (hr : ∀ i v, P i v → ∃ d, xs[i]? = some d ∧ Rep G v d) (hcov : ∀ b ∈ fp, b = it ∨ ∃ o, G b = some o) (hty : ∀ i h, St i h → FieldsAt h it) :
    Cur cx G (.ref eA) (.Tuple elts k p) (enumFrom 0 xs) (eA :: fp) [eA, it] (fun i h => (∃ old, IsEnum h eA it i old) ∧ St i h) := by
  have W := WalksT.enumerateD (A := cx.A) (D cx.A.in1 C.hand) eA hei hef hif
  have hlen : (enumFrom 0 xs).length = n := by rw [hn]; exact enumFrom_length xs 0
  have ty : ∀ (i : Nat) h, ((∃ old, IsEnum h eA it i old) ∧ St i h) → ∀ b ∈ [eA, it], FieldsAt h b := fun i h ⟨⟨old, he⟩, hs⟩ b hb => by
    simp only [List.mem_cons, List.not_mem_nil, or_false] at hb
    rcases hb with rfl | rfl
    · exact .of he rfl
    · exact hty i h hs
  refine ⟨O, W.frame, ty, fun b hb => ?_, ?_, ?_⟩
  · rcases List.mem_cons.mp hb with rfl | hb
    · exact .inl (by simp)
    · exact (hcov b hb).imp (fun e => by simp [e]) id
  · intro i G₂ st s Q E hi M hs hl hq
    rw [hlen] at hi
    refine W.item i s _ E hi hs fun T vals h' tk hp hT hTup hmid hk => ?_
    refine W.go elts k p i T _ _ E hmid fun h'' hs'' hk'' => ?_
    have hTw : T ∉ [eA, it] := W.apart i T _ hmid
    obtain ⟨t, v, hpv, rfl⟩ := hp
    obtain ⟨d, hd, hrep⟩ := hr i v hpv
    have M' : Sim cx G₂ st none { s with heap := h'', toks := tk } := M.touch Fu.half O (ty i _ hs) tk fun b o hb y => hk'' b o hb (hk b o hb y)
    obtain ⟨o, ho, hc, m, hdt⟩ := hTup
    have ho' := hk'' T o hTw ho
    have gT : G₂ T = none := by
      cases q : G₂ T with
      | none => rfl
      | some o' => have := M.gin T o' q; rw [none_at _ hT] at this; cases this
    have pT : T ∉ cx.priv := fun hp => by have := (M.priv T hp).2.2; rw [none_at _ hT] at this; cases this
    obtain ⟨l3, M3⟩ := M'.putTup ho' hc ⟨_, _, hdt⟩ gT (Nat.le_trans M.size hT) pT
    refine hq (.tuple [.int i, d]) _ (.ref T) _ ?_ l3 M3 ?_ hs''
    · rw [enumFrom_get xs 0 i, hd]; simp
    · exact .tuple (GM.put_self ..) hc hdt (.cons (.int ..) (.cons (hrep.mono (GM.le_trans hl l3)) .nil))
  · intro G₂ st s Q E M hs hq
    rw [hlen] at hs
    exact W.done s Q E hs fun h' tk hk => hq _ (M.touch Fu.half O (ty _ _ hs) tk hk)

theorem f_enum {f : Str} {elts : List Expr} {k : Nat} {p : Pos} (TO : cx.T.Ok) (C : cx.Ok) (Fu : cx.Full) (hg : isGl cx.env.scope.names f "enumerate" = true) (hx : notStar x = true) (ha : SD Γ cx a x) : SF Γ cx (.enum a) (.Call (.Name f pos') [x] [] pos) (.Tuple elts k p) := fun st G s M Q E ns hok hex => by
  rw [qi_enum] at ns hok hex
  refine biCall1 TO C M hg (by decide +kernel) (.inr ⟨"enumerate", rfl⟩) hx ?_
  refine (ha st G s M).seq ns hex fun d st1 e1 G1 s1 v1 p1 l1 M1 r1 ns1 hex1 => ?_
  obtain ⟨rfl, r1⟩ := r1
  have hs1 : s1.heap.objs.size ≤ s1.heap.objs.size + 1 := Nat.le_succ _
  have offs : Off cx [s1.heap.objs.size + 1, s1.heap.objs.size] := by
    obtain ⟨f1, f2, f3⟩ := M1.endFree
    refine Off.two ⟨fun b hb => ?_, fun b hb => ?_, fun b hb => ?_⟩ (off_of M1 f1 f2 f3) <;> obtain rfl := List.mem_singleton.mp hb
    · cases q : cx.G₀ (s1.heap.objs.size + 1) with
      | none => rfl
      | some o => have := M1.gin _ o (M1.gle _ o q); rw [none_at _ hs1] at this; cases this
    · cases q : cx.prot (s1.heap.objs.size + 1) with
      | none => rfl
      | some o => have := M1.keep _ o q; rw [none_at _ hs1] at this; cases this
    · intro hp; have := (M1.priv _ hp).2.2; rw [none_at _ hs1] at this; cases this
  cases r1 with
  | none => exact (ns1 rfl).elim
  | bool b => exact (ns1 rfl).elim
  | int i t => exact (ns1 rfl).elim
  | tuple e c d r => exact (ns1 rfl).elim
  | str q t =>
    dsimp only at ns1
    split at ns1
    · rename_i hz
      have hev : ((toD (ev Γ a st)).bind fun (x, st) => match x with
        | .list xs => (if okLen xs.length then R.ok (enumFrom 0 xs, st) else .stuck)
        | .str q => (if okLen (cs q).length then R.ok (enumFrom 0 ((cs q).map fun c => .str (S [c])), st) else .stuck)
        | _ => .stuck) = .ok (enumFrom 0 ((cs q).map fun c => .str (S [c])), st1) := by rw [e1]; simp only [R.bind, hz, if_true]
      refine call_enumerate_str fun h' he hit hsz hk => ?_
      have M2 : Sim cx G1 st1 none { s1 with heap := h' } := M1.grow s1.toks hk (by omega)
      have hlen : q.cps.size = ((cs q).map fun c => PyData.str (S [c])).length := by simp [cs]
      have hrep : ∀ (i : Nat) v, (∃ c u, q.cps[i]? = some c ∧ v = Value.str ⟨#[c]⟩ u) → ∃ d, ((cs q).map fun c => PyData.str (S [c]))[i]? = some d ∧ Rep G1 v d := fun i v hyp => by
        obtain ⟨c, u, hc, hv⟩ := hyp
        refine ⟨.str (S [c]), ?_, by rw [hv]; exact .str ..⟩
        have : (cs q)[i]? = some c := by simpa [cs] using hc
        simp [this]
      cases hasc : q.cps.all (· < 128) with
      | true =>
        have ht : strIterType q = "str_ascii_iterator" := by simp only [strIterType, hasc, if_true]
        rw [ht] at hit
        refine wpAny_pyIter_enum he (hok _ st1 hev G1 _ (.ref (s1.heap.objs.size + 1)) _ _ _ l1 M2 (enum_cur C Fu (fun A hA => Draws.strAscii hA _ q t) (Nat.succ_ne_self _) (by simp) (by simp) offs hlen hrep ?_ ?_) ⟨⟨_, he⟩, hit⟩)
        · intro b hb; exact .inl (by simpa using hb)
        · rintro i h ⟨o, ho, hc, hd⟩; exact .of ho hd
      | false =>
        have ht : strIterType q = "str_iterator" := by simp only [strIterType, hasc]; rfl
        rw [ht] at hit
        refine wpAny_pyIter_enum he (hok _ st1 hev G1 _ (.ref (s1.heap.objs.size + 1)) _ _ _ l1 M2 (enum_cur C Fu (fun A hA => Draws.strWide hA _ q t) (Nat.succ_ne_self _) (by simp) (by simp) offs hlen hrep ?_ ?_) ⟨⟨_, he⟩, hit⟩)
        · intro b hb; exact .inl (by simpa using hb)
        · rintro i h ⟨o, ho, hc, hd⟩; exact .of ho hd
    · exact (ns1 rfl).elim
  | @list la o vs n xs eg hc hd hr =>
    dsimp only at ns1
    split at ns1
    · rename_i hz
      have hev : ((toD (ev Γ a st)).bind fun (x, st) => match x with
        | .list xs => (if okLen xs.length then R.ok (enumFrom 0 xs, st) else .stuck)
        | .str q => (if okLen (cs q).length then R.ok (enumFrom 0 ((cs q).map fun c => .str (S [c])), st) else .stuck)
        | _ => .stuck) = .ok (enumFrom 0 xs, st1) := by rw [e1]; simp only [R.bind, hz, if_true]
      have hl : s1.heap.IsList la vs := ⟨o, M1.gin _ _ eg, hc, n, hd⟩
      have hlt : la < s1.heap.objs.size := Heap.lt_size (M1.gin _ _ eg)
      refine call_enumerate_list hl fun h' he hit hsz hk => ?_
      have M2 : Sim cx G1 st1 none { s1 with heap := h' } := M1.grow s1.toks hk (by omega)
      refine wpAny_pyIter_enum he (hok _ st1 hev G1 _ (.ref (s1.heap.objs.size + 1)) _ _ _ l1 M2 (enum_cur C Fu (fun A hA => Draws.list hA _ la (Nat.ne_of_lt hlt) vs) (Nat.succ_ne_self _) ?_ (by simp) offs hr.size (fun i v hv => hr.get' i v (by simpa using hv)) ?_ ?_) ⟨⟨_, he⟩, hit, hl.at fun o e => hk _ o e⟩)
      · intro hb
        simp only [List.mem_cons, List.not_mem_nil, or_false] at hb
        rcases hb with hb | hb
        · exact Nat.succ_ne_self _ hb
        · exact Nat.ne_of_gt (Nat.lt_succ_of_lt hlt) hb
      · intro b hb
        simp only [List.mem_cons, List.not_mem_nil, or_false] at hb
        rcases hb with rfl | rfl
        · exact .inl rfl
        · exact .inr ⟨o, eg⟩
      · rintro i h ⟨⟨o, ho, hc, hd⟩, _⟩; exact .of ho hd
    · exact (ns1 rfl).elim
end
end Mine
end

section
open PySem PySem.Calls PyProof.Rows
set_option Elab.async false
set_option linter.unusedVariables false
namespace Mine

/-! list comprehensions -/

noncomputable def clFold (cells : List (Str × Addr)) : Kd → List (Str × Addr) → List (Str × Addr)
  | [], acc => acc
  | (n, k) :: r, acc => clFold cells r (if k == .free then (match cells.lookup n with | some c => (n, c) :: acc | none => acc) else acc)

theorem clFold_mem {cells : List (Str × Addr)} : ∀ {names : Kd} {acc : List (Str × Addr)} {y : Str} {c : Addr}, (y, c) ∈ clFold cells names acc → (y, c) ∈ acc ∨ cells.lookup y = some c
  | [], acc, y, c, h => .inl h
  | (n, k) :: r, acc, y, c, h => by
    rcases clFold_mem (names := r) h with h | h
    · split at h
      · split at h
        · rename_i hc
          rcases List.mem_cons.mp h with e | h
          · cases e; exact .inr hc
          · exact .inl h
        · exact .inl h
      · exact .inl h
    · exact .inr h
theorem clFold_acc {cells : List (Str × Addr)} : ∀ {names : Kd} {acc : List (Str × Addr)} {q : Str × Addr}, q ∈ acc → q ∈ clFold cells names acc
  | [], acc, q, h => h
  | (n, k) :: r, acc, q, h => by
    refine clFold_acc (names := r) ?_
    split
    · split
      · exact List.mem_cons_of_mem _ h
      · exact h
    · exact h
theorem clFold_has {cells : List (Str × Addr)} : ∀ {names : Kd} {acc : List (Str × Addr)} {y : Str} {c : Addr}, (y, NameKind.free) ∈ names → cells.lookup y = some c → (y, c) ∈ clFold cells names acc
  | (n, k) :: r, acc, y, c, h, hc => by
    rcases List.mem_cons.mp h with e | h
    · cases e
      refine clFold_acc (names := r) ?_
      simp [hc]
    · exact clFold_has (names := r) h hc
theorem lookup_of_mem {l : List (Str × Addr)} {y : Str} {c : Addr} (h : (y, c) ∈ l) (hu : ∀ c', (y, c') ∈ l → c' = c) : l.lookup y = some c := by
  induction l with
  | nil => cases h
  | cons p r ih =>
    obtain ⟨n, d⟩ := p
    by_cases e : y = n
    · subst e
      have : d = c := hu d (.head _)
      simp [List.lookup, this]
    · have e' : (y == n) = false := by simp [e]
      rw [List.lookup_cons, e']
      rcases List.mem_cons.mp h with q | q
      · cases q; exact absurd rfl e
      · exact ih q fun c' h' => hu c' (.tail _ h')
theorem clFold_lookup {cells : List (Str × Addr)} {names : Kd} {y : Str} {c : Addr} (h : (y, NameKind.free) ∈ names) (hc : cells.lookup y = some c) : (clFold cells names []).lookup y = some c :=
  lookup_of_mem (clFold_has h hc) fun c' h' => by
    rcases clFold_mem h' with q | q
    · cases q
    · rw [hc] at q; exact (Option.some.inj q).symm

theorem closure_loop {env : Env} : ∀ (names : Kd) (acc : List (Str × Addr)), (∀ x ∈ names, x.2 = .free → ∃ c, env.cells.lookup x.1 = some c) →
    (forIn names acc fun (x : Str × NameKind) r => (match x with | (name, kind) => if (kind == .free) = true then do let a ← cellOf env name; pure (ForInStep.yield ((name, a) :: r)) else pure (ForInStep.yield r)) : Sem (List (Str × Addr))) = pure (clFold env.cells names acc)
  | [], acc, _ => rfl
  | (n, k) :: r, acc, h => by
    rw [List.forIn_cons, clFold]
    have ih := fun acc => closure_loop r acc fun x hx => h x (.tail _ hx)
    by_cases hk : k = .free
    · subst hk
      obtain ⟨c, hc⟩ := h _ (.head _) rfl
      dsimp only at hc
      simp only [cellOf, hc, beq_self_eq_true, if_true, pure_bind]
      exact ih _
    · have hk' : (k == NameKind.free) = false := by simpa using hk
      simp only [hk', Bool.false_eq_true, if_false, pure_bind]
      exact ih _
theorem closure_is {scope : Scope} {env : Env} (h : ∀ x ∈ scope.names, x.2 = .free → ∃ c, env.cells.lookup x.1 = some c) : closureFor scope env = pure (clFold env.cells scope.names []) := by
  unfold closureFor
  have := closure_loop (env := env) scope.names [] h
  simp only [bind_pure]
  exact this

structure CompOk (cx : Cx) (scope : Scope) (x : Str) : Prop where
  kind : scope.kind = .function
  cell : ∀ y ∈ scope.names, y.2 ≠ .cell
  loc : ∀ y ∈ scope.names, y.2 = .local → scope.names.lookup y.1 = some .local
  free : ∀ y ∈ scope.names, y.2 = .free → cx.env.scope.names.lookup y.1 = some .cell
  hx : scope.names.lookup x = some .local
  mask : ∀ y ∈ maskN x cx.nm, (relabelK scope.names cx.env.scope.names).lookup y ≠ some .local
  nil : (relabelK scope.names cx.env.scope.names).lookup ("" : Str) = none

noncomputable def Cx.inner (cx : Cx) (scope : Scope) (x : Str) (Cc : Addr) (G : GM) (s : Shared) : Cx :=
  { T := cx.T, A := cx.A, env := compEnvC scope (clFold cx.env.cells scope.names []) Cc cx.env, nm := maskN x cx.nm ++ [x], priv := [], prot := fun b => s.heap.get? b, G₀ := G, lo := s.heap.objs.size, s₀ := s }

theorem relabel_is {scope : Scope} {env : Env} (hk : env.scope.kind = .function) : (relabel scope env).names = relabelK scope.names env.scope.names := by
  unfold relabel relabelK
  simp only [hk, Env.kindOf]
  rfl

theorem relabel_cell {names kd : Kd} {y : Str} (hc : ∀ z ∈ names, z.2 ≠ .cell) (h : (relabelK names kd).lookup y = some .cell) : (y, NameKind.free) ∈ names := by
  have hm := mem_of_lookup h
  unfold relabelK at hm
  obtain ⟨⟨n, k⟩, h1, h2⟩ := List.mem_map.mp hm
  dsimp only at h2
  split at h2
  · rename_i q
    simp only [Bool.and_eq_true, beq_iff_eq] at q
    cases h2
    rw [← q.1.1]; exact h1
  · cases h2; exact absurd rfl (hc _ h1)

section
variable {Γ : Nat → Fn} {cx : Cx} {st : St} {G : GM} {s : Shared} {E : Value → Shared → Prop} {c a b a' b' : CE} {e y z : Expr} {pos pos' apos : Pos} {op o1 o2 : CmpOp} {x : Str} {scope : Scope} {Cc : Addr} {xo : Option Addr}

theorem inner_ok (C : cx.Ok) (CO : CompOk cx scope x) (hG : cx.G₀.le G) : (cx.inner scope x Cc G s).Ok :=
  ⟨CO.kind, C.glob, C.bltn, GM.le_trans C.top hG, C.hand, C.units, C.depth⟩

theorem slot_vals {d : PyData} {i : Nat} {f : F} (h : slot (vals st ++ [some (.val d)]) i = some f) : (i < st.length ∧ ∃ d', f = .val d' ∧ slot st i = some (.val d')) ∨ (i = st.length ∧ f = .val d) := by
  unfold slot at h ⊢
  have hl : (vals st).length = st.length := by simp [vals]
  rcases Nat.lt_trichotomy i st.length with q | q | q
  · left
    refine ⟨q, ?_⟩
    rw [List.getElem?_append_left (by omega)] at h
    unfold vals at h
    rw [List.getElem?_map] at h
    rw [List.getElem?_eq_getElem q] at h ⊢
    simp only [Option.map_some, Option.join_some] at h ⊢
    split at h
    · rename_i d' hd; cases h; exact ⟨d', rfl, hd⟩
    · cases h
  · right
    refine ⟨q, ?_⟩
    rw [List.getElem?_append_right (by omega), q, hl] at h
    simp at h
    exact h.symm
  · rw [List.getElem?_eq_none (by simp [hl]; omega)] at h
    cases h

theorem inner_sim (C : cx.Ok) (CO : CompOk cx scope x) (M : Sim cx G st xo s) (hlen : st.length = cx.nm.length) {m : Str → Option Value} {v : Value} {d : PyData} (hn : s.heap.Ns Cc m) (hm : m x = some v) (hr : Rep G v d) :
    Sim (cx.inner scope x Cc G s) G (vals st ++ [some (.val d)]) none s := by
  obtain ⟨ad, V⟩ := M.vals
  have kx : (cx.inner scope x Cc G s).env.kindOf x = some .local := lookup_relabel_local CO.hx
  refine ⟨⟨s.heap, s.toks, rfl⟩, fun b o e => e, GM.le_refl _, M.gin, fun b o e => .inl e, Nat.le_refl _, fun p hp => (nomatch hp), ⟨m, hn⟩, fun y c hc => ?_, fun _ => 0, ?_, ?_, ?_, fun a e => by cases e⟩
  · rcases clFold_mem hc with q | q
    · cases q
    · exact M.cells y c (mem_of_lookup q)
  · intro i f y h1 h2 h3
    rcases slot_vals h1 with ⟨hi, d', rfl, hs⟩ | ⟨rfl, rfl⟩
    · have hi' : i < cx.nm.length := hlen ▸ hi
      have hml : (maskN x cx.nm).length = cx.nm.length := by simp [maskN]
      have h2' : (maskN x cx.nm)[i]? = some y := by
        have : (maskN x cx.nm ++ [x])[i]? = some y := h2
        rwa [List.getElem?_append_left (by omega)] at this
      have hmem : y ∈ maskN x cx.nm := List.mem_of_getElem? h2'
      have hkd : (cx.inner scope x Cc G s).env.kindOf y = (relabelK scope.names cx.env.scope.names).lookup y := by
        show (relabel scope cx.env).names.lookup y = _
        rw [relabel_is C.kind]
      rcases h3 with h3 | h3
      · rw [hkd] at h3; exact absurd h3 (CO.mask y hmem)
      · rw [hkd] at h3
        have hfree := relabel_cell CO.cell h3
        have hout : cx.env.kindOf y = some .cell := CO.free _ hfree rfl
        have hny : cx.nm[i]? = some y := by
          unfold maskN at h2'
          rw [List.getElem?_map, List.getElem?_eq_getElem hi'] at h2'
          simp only [Option.map_some, Option.some.injEq] at h2'
          split at h2'
          · subst h2'; rw [CO.nil] at h3; cases h3
          · rw [List.getElem?_eq_getElem hi', h2']
        obtain ⟨v', hv', hr'⟩ := V.rep i (.val d') y hs hny (.inr hout)
        refine ⟨v', ?_, hr'⟩
        rcases hv' with ⟨k, _⟩ | ⟨k, c, hc, hv'⟩
        · rw [hout] at k; cases k
        · exact .inr ⟨by rw [hkd]; exact h3, c, clFold_lookup hfree hc, hv'⟩
    · have : y = x := by
        have h2' : (maskN x cx.nm ++ [x])[st.length]? = some y := h2
        rw [List.getElem?_append_right (by simp [maskN, hlen])] at h2'
        simp [maskN, hlen] at h2'
        exact h2'.symm
      subst this
      exact ⟨v, .inl ⟨kx, m, hn, hm⟩, hr⟩
  · intro i xs h1
    rcases slot_vals h1 with ⟨_, _, q, _⟩ | ⟨_, q⟩ <;> cases q
  · intro i j xs ys h1
    rcases slot_vals h1 with ⟨_, _, q, _⟩ | ⟨_, q⟩ <;> cases q

theorem inner_after {G' : GM} {st' : St} {s' : Shared} (M' : Sim (cx.inner scope x Cc G s) G' st' none s') : After s G s' G' none :=
  ⟨M'.shr, fun b o e => M'.keep b o e, M'.size, M'.gle, M'.gin, fun b o e => M'.gnew b o e, fun a e => by cases e⟩

theorem Sim.afterX (M : Sim cx G st xo s) {s' : Shared} {G' : GM} (W : After s G s' G' none) : Sim cx G' st xo s' := by
  obtain ⟨h, tk, e⟩ := M.shr
  obtain ⟨h', tk', e'⟩ := W.shr
  obtain ⟨ad, V⟩ := M.vals
  obtain ⟨m, hm⟩ := M.ns
  have gn : ∀ b, G b = none → (s.heap.get? b).isSome = true → G' b = none := fun b hb hs => by
    cases q : G' b with
    | none => rfl
    | some o =>
      rcases W.new b o q with r | r
      · rw [hb] at r; cases r
      · rw [none_at _ r.1] at hs; cases hs
  refine ⟨⟨h', tk', by rw [e', e]⟩, fun b o q => W.ext _ _ (M.keep b o q), GM.le_trans M.gle W.le, W.gin, fun b o q => ?_, Nat.le_trans M.size W.size, fun p hp => ?_, ⟨m, hm.keeps W.ext⟩, fun y c hc => ?_, ad, ?_, ?_, V.inj, ?_⟩
  · rcases W.new b o q with r | r
    · exact M.gnew b o r
    · exact .inr ⟨Nat.le_trans M.size r.1, r.2⟩
  · have P := M.priv p hp; exact ⟨gn p P.1 P.2.2, P.2.1, W.ext.some P.2.2⟩
  · obtain ⟨v, o, ho, hd⟩ := M.cells y c hc; exact ⟨v, o, W.ext _ _ ho, hd⟩
  · intro i f y h1 h2 h3
    obtain ⟨v, hv, hr⟩ := V.rep i f y h1 h2 h3
    exact ⟨v, hv.ext W.ext, hr.ext W.le (W.ext _)⟩
  · intro i xs h1
    obtain ⟨⟨p1, p2, p3, p4⟩, p5⟩ := V.free i xs h1
    exact ⟨⟨p1, gn _ p2 p5.there, p3, p4⟩, p5.at (W.ext _)⟩
  · intro a ha
    obtain ⟨⟨⟨p1, p2, p3, p4⟩, p5⟩, p6⟩ := V.ex a ha
    exact ⟨⟨⟨p1, gn _ p2 p5.there, p3, p4⟩, p5.at (W.ext _)⟩, p6⟩

/-- the list that is being made is made longer -/
theorem Sim.updX {D : Addr} (H : cx.Half) (M : Sim cx G st (some D) s) {h' : Heap} (hs : Heap.SameBut D s.heap h') (hl : IsL h' D) : Sim cx G st (some D) { s with heap := h' } := by
  obtain ⟨h, tk, e⟩ := M.shr
  obtain ⟨ad, V⟩ := M.vals
  obtain ⟨m, hm⟩ := M.ns
  obtain ⟨⟨⟨f1, f2, f3, f4⟩, f5⟩, f6⟩ := V.ex D rfl
  have hLD : cx.env.locals ≠ D := fun q => f1 (q ▸ H.loc)
  have hcD : ∀ y c, (y, c) ∈ cx.env.cells → c ≠ D := fun y c hc q => f1 (q ▸ H.cell y c hc)
  have kp : ∀ b o, b ≠ D → s.heap.get? b = some o → h'.get? b = some o := fun b o hb e => hs.extBut b o hb e
  refine ⟨⟨h', s.toks, by rw [e]⟩, fun b o q => kp b o (fun r => by rw [r, f3] at q; cases q) (M.keep b o q), M.gle, fun b o q => kp b o (fun r => by rw [r, f2] at q; cases q) (M.gin b o q), M.gnew, by rw [hs.1]; exact M.size, fun p hp => ?_,
    ⟨m, hm.sameBut hs hLD⟩, fun y c hc => ?_, ad, ?_, ?_, V.inj, ?_⟩
  · have P := M.priv p hp
    refine ⟨P.1, P.2.1, ?_⟩
    obtain ⟨o, ho⟩ := Option.isSome_iff_exists.mp P.2.2
    rw [kp p o (fun q => f1 (q ▸ hp)) ho]; rfl
  · obtain ⟨v, hv⟩ := M.cells y c hc; exact ⟨v, hv.sameBut hs (hcD y c hc)⟩
  · intro i f y h1 h2 h3
    obtain ⟨v, hv, hr⟩ := V.rep i f y h1 h2 h3
    refine ⟨v, ?_, ?_⟩
    · rcases hv with ⟨k, m', hn', hm'⟩ | ⟨k, c, hc, hv⟩
      · exact .inl ⟨k, m', hn'.sameBut hs hLD, hm'⟩
      · exact .inr ⟨k, c, hc, hv.sameBut hs (hcD y c (mem_of_lookup hc))⟩
    · cases f with
      | val d => exact hr
      | own xs => exact ⟨hr.1, hr.2.ext (GM.le_refl _) fun o e => kp _ o (f6 i xs h1) e⟩
  · intro i xs h1
    have P := V.free i xs h1
    exact ⟨P.1, P.2.at fun o e => kp _ o (f6 i xs h1) e⟩
  · intro a ha
    cases ha
    exact ⟨⟨⟨f1, f2, f3, f4⟩, hl⟩, f6⟩

theorem off_fresh (M : Sim cx G st xo s) {I : Addr} (h : s.heap.objs.size ≤ I) : Off cx [I] := by
  refine ⟨fun b hb => ?_, fun b hb => ?_, fun b hb => ?_⟩ <;> obtain rfl := List.mem_singleton.mp hb
  · cases q : cx.G₀ b with
    | none => rfl
    | some o => have := M.gin b o (M.gle b o q); rw [none_at _ h] at this; cases this
  · cases q : cx.prot b with
    | none => rfl
    | some o => have := M.keep b o q; rw [none_at _ h] at this; cases this
  · intro hp; have := (M.priv _ hp).2.2; rw [none_at _ h] at this; cases this

theorem FieldsAt.ns {h : Heap} {b : Addr} {m : Str → Option Value} (hn : h.Ns b m) : FieldsAt h b := by
  obtain ⟨o, es, ep, ho, hd, _⟩ := hn
  exact ⟨o, ho, fun vs n e => by rw [hd] at e; cases e⟩
end

end Mine
end

section
open PySem PySem.Calls PyProof.Rows
set_option Elab.async false
set_option linter.unusedVariables false
namespace Mine

/-! list comprehensions, walked -/

noncomputable def inStep (Γ : Nat → Fn) (ce : CE) (cc : CEo) (st : St) : PyData → R (List PyData) := fun x =>
  (evc Γ cc (vals st ++ [some (.val x)])).bind fun b => if b then (toD (ev Γ ce (vals st ++ [some (.val x)]))).bind fun (y, _) => .ok [y] else .ok []

noncomputable def SCd (Γ : Nat → Fn) (cx : Cx) (c : CEo) (ifs : List Expr) : Prop := ∀ st G s b, Sim cx G st none s → evc Γ c st = .ok b → ∀ (Q : Bool → Shared → Prop) (E : Value → Shared → Prop),
  (∀ G' st' s', G.le G' → Sim cx G' st' none s' → Q b s') →
  wpAny (model cx.T.prog cx.T.w) cx.A (forIn ifs true fun c r => if r = true then do let ok ← isTrue c cx.env (eval c cx.env); pure (ForInStep.yield ok) else pure (ForInStep.yield r)) Q E s

section
variable {Γ : Nat → Fn} {cx : Cx} {st : St} {G : GM} {s : Shared} {E : Value → Shared → Prop} {c a b a' b' : CE} {e y z : Expr} {pos pos' apos : Pos} {op o1 o2 : CmpOp} {x : Str} {scope : Scope} {Cc : Addr} {xo : Option Addr}

theorem cd_no : SCd Γ cx .no [] := fun st G s b M h Q E hq => by
  rw [qc_no] at h; cases h
  exact wpAny_pure (hq G st s (GM.le_refl _) M)

theorem cd_yes (h : SB Γ cx c e) : SCd Γ cx (.yes c) [e] := fun st G s b M hev Q E hq => by
  rw [qc_yes] at hev
  cases hr : toB (ev Γ c st) with
  | stuck => rw [hr] at hev; cases hev
  | exc k st' => rw [hr] at hev; cases hev
  | ok p =>
    obtain ⟨b', st'⟩ := p
    rw [hr] at hev
    cases hev
    rw [List.forIn_cons]
    simp only [if_true]
    refine wpAny_bind (wpAny_bind ?_)
    refine h st G s M _ _ (by rw [hr]; simp) (fun b₂ st₂ e₂ G₂ s₂ v x₂ l₂ M₂ r₂ => ?_) (fun k st₂ e₂ => by rw [hr] at e₂; cases e₂)
    rw [hr] at e₂; cases e₂
    obtain ⟨rfl, rfl⟩ := r₂
    exact wpAny_pure (wpAny_pure (hq G₂ _ s₂ l₂ M₂))

/-- what the parts of a comprehension must be -/
structure InOk (Γ : Nat → Fn) (cx : Cx) (scope : Scope) (x : Str) (ce : CE) (cc : CEo) (elt : Expr) (ifs : List Expr) : Prop where
  elt : ∀ cx', cx'.Ok → cx'.T = cx.T → cx'.A = cx.A → cx'.nm = maskN x cx.nm ++ [x] → cx'.env.scope.names = relabelK scope.names cx.env.scope.names → SD Γ cx' ce elt
  cond : ∀ cx', cx'.Ok → cx'.T = cx.T → cx'.A = cx.A → cx'.nm = maskN x cx.nm ++ [x] → cx'.env.scope.names = relabelK scope.names cx.env.scope.names → SCd Γ cx' cc ifs

theorem inStep_ok {ce : CE} {cc : CEo} {d : PyData} {ys : List PyData} (h : inStep Γ ce cc st d = .ok ys) :
    (evc Γ cc (vals st ++ [some (.val d)]) = .ok false ∧ ys = []) ∨ (evc Γ cc (vals st ++ [some (.val d)]) = .ok true ∧ ∃ y st', toD (ev Γ ce (vals st ++ [some (.val d)])) = .ok (y, st') ∧ ys = [y]) := by
  unfold inStep at h
  cases h1 : evc Γ cc (vals st ++ [some (.val d)]) with
  | stuck => rw [h1] at h; cases h
  | exc k st' => rw [h1] at h; cases h
  | ok b =>
    rw [h1] at h
    simp only [R.bind] at h
    cases b with
    | false => simp only [Bool.false_eq_true, if_false] at h; cases h; exact .inl ⟨rfl, rfl⟩
    | true =>
      simp only [if_true] at h
      cases h2 : toD (ev Γ ce (vals st ++ [some (.val d)])) with
      | stuck => rw [h2] at h; cases h
      | exc k st' => rw [h2] at h; cases h
      | ok p => obtain ⟨y, st'⟩ := p; rw [h2] at h; cases h; exact .inr ⟨rfl, y, st', rfl, rfl⟩

theorem mapR_cons {f : PyData → R (List PyData)} {x : PyData} {xs out : List PyData} (h : mapR f (x :: xs) = .ok out) : ∃ ys zs, f x = .ok ys ∧ mapR f xs = .ok zs ∧ out = ys ++ zs := by
  rw [mapR] at h
  cases h1 : f x with
  | stuck => rw [h1] at h; cases h
  | exc k st' => rw [h1] at h; cases h
  | ok ys =>
    rw [h1] at h
    dsimp only at h
    cases h2 : mapR f xs with
    | stuck => rw [h2] at h; cases h
    | exc k st' => rw [h2] at h; cases h
    | ok zs => rw [h2] at h; cases h; exact ⟨ys, zs, rfl, rfl, rfl⟩

theorem comp_loop {elt iter : Expr} {px : Pos} {ifs : List Expr} {ce : CE} {cc : CEo} {xs out : List PyData} {I D : Addr} {fp : List Addr} {P : Nat → Value → Prop} {St : Nat → Heap → Prop} {m : Str → Option Value} {Rr : Result → Shared → Prop}
    (C : cx.Ok) (H : cx.Half) (CO : CompOk cx scope x) (IO : InOk Γ cx scope x ce cc elt ifs) (hlen : st.length = cx.nm.length) (hG : cx.G₀.le G)
    (W : WalkI cx.T G xs I fp P St) (O : Off cx [I, Cc]) (hCf : Cc ∉ fp) (hCI : Cc ≠ I) (hDf : D ∉ fp) (hsz : xs.length ≤ sizeLine) (hout : mapR (inStep Γ ce cc st) xs = .ok out)
    (M : Sim cx G st (some D) s) (h0 : St 0 s.heap) (hD : s.heap.PlainList D #[]) (hn : s.heap.Ns Cc m)
    (hR : ∀ G' s' m', G.le G' → Sim cx G' st (some D) s' → OwnL G' s'.heap D out → s'.heap.Ns Cc m' → Rr (.ok .next) s') :
    codeAny (model cx.T.prog cx.T.w) cx.A (.compLoop (.ListComp elt [⟨.Name x px, iter, ifs, 0⟩] scope pos) 0 (.ref I) (.ref D) (compEnvC scope (clFold cx.env.cells scope.names []) Cc cx.env)) Rr s := by
  have W' := W.W cx.A C.hand
  have kx : (compEnvC scope (clFold cx.env.cells scope.names []) Cc cx.env).kindOf x = some .local := lookup_relabel_local CO.hx
  have hp : ((compEnvC scope (clFold cx.env.cells scope.names []) Cc cx.env).scope.kind == .class || ((compEnvC scope (clFold cx.env.cells scope.names []) Cc cx.env).scope.kind == .module && (compEnvC scope (clFold cx.env.cells scope.names []) Cc cx.env).locals != (compEnvC scope (clFold cx.env.cells scope.names []) Cc cx.env).globals)) = false := by
    simp [compEnvC, relabel, CO.kind]
  have hDI : D ≠ I := fun e => hDf (e ▸ W'.sub I (by simp))
  refine codeAny_compLoop_tests (fun k s' => ∃ i ds G' ys m' rest, k = xs.length - i ∧ i ≤ xs.length ∧ ds.length ≤ i ∧ G.le G' ∧ Sim cx G' st (some D) s' ∧ s'.heap.PlainList D ys ∧ RepAll G' ys.toList ds ∧ s'.heap.Ns Cc m' ∧ St i s'.heap ∧
    mapR (inStep Γ ce cc st) (xs.drop i) = .ok rest ∧ out = ds ++ rest) ?_ xs.length ⟨0, [], G, #[], m, out, by omega, Nat.zero_le _, Nat.le_refl _, GM.le_refl _, M, hD, .nil, hn, h0, by simpa using hout, rfl⟩
  rintro k s' ⟨i, ds, G', ys, m', rest, rfl, hi, hdl, hl, M', hD', hrep, hn', hs', hrest, hout'⟩
  have ty : ∀ {s'' : Shared} {i : Nat} {m'}, St i s''.heap → s''.heap.Ns Cc m' → ∀ b ∈ [I, Cc], FieldsAt s''.heap b := fun {s'' i m'} hs hn b hb => by
    simp only [List.mem_cons, List.not_mem_nil, or_false] at hb
    rcases hb with rfl | rfl
    · obtain ⟨o, n, fs, h1, _, h2, _⟩ := W.typed i _ hs; exact .of h1 h2
    · exact .ns hn
  rcases Nat.lt_or_ge i xs.length with hlt | hge
  · have hdrop : xs.drop i = xs[i] :: xs.drop (i + 1) := List.drop_eq_getElem_cons hlt
    rw [hdrop] at hrest
    obtain ⟨y₁, y₂, hst, hrest', rfl⟩ := mapR_cons hrest
    refine W'.item i s' _ _ hlt hs' fun v h₁ tk₁ hPv hs₁ hk₁ => ?_
    have M₁ : Sim cx G' st (some D) { s' with heap := h₁, toks := tk₁ } := M'.touch H O (ty hs' hn') tk₁ fun b o hb e => hk₁ b o (fun q => hb (by simp at q; simp [q])) e
    have hn₁ : h₁.Ns Cc m' := hn'.at' fun o e => hk₁ _ o (by simpa using hCI) e
    refine wpAny_assign_Name (wpAny_storeName_local kx hn₁ (fun h₂ hn₂ hs₂ => ?_) hp)
    dsimp only [compEnvC] at hn₂ hs₂
    have M₂ := M₁.touch H O (ty (s'' := { s' with heap := h₁, toks := tk₁ }) hs₁ hn₁) (h' := h₂) (tk₁ + 1) fun b o hb e => hs₂.extBut b o (fun q => hb (by simp [q])) e
    have hs₂' : St (i + 1) h₂ := W'.frame _ _ _ hs₁ fun b hb o e => hs₂.extBut b o (fun q => hCf (q ▸ hb)) e
    have hDC : D ≠ Cc := fun q => (FieldsAt.ns (q ▸ hn₁)).notL ⟨_, (hD'.at fun o e => hk₁ _ o (by simpa using hDI) e).isList⟩
    have hD₂ : h₂.PlainList D ys := hD'.at fun o e => hs₂.extBut _ o hDC (hk₁ _ o (by simpa using hDI) e)
    obtain ⟨d, hd, hrv⟩ := W.rep i v hPv
    have hd' : d = xs[i] := by rw [List.getElem?_eq_getElem hlt] at hd; exact (Option.some.inj hd).symm
    subst hd'
    generalize hs2 : ({ s' with heap := h₂, toks := tk₁ + 1 } : Shared) = s₂ at M₂
    have hh2 : h₂ = s₂.heap := by rw [← hs2]
    have N₂ := inner_sim (x := x) (scope := scope) (Cc := Cc) C CO M₂ hlen (hh2 ▸ hn₂) (by simp) (hrv.mono hl)
    have hG' : cx.G₀.le G' := GM.le_trans hG hl
    have nmI : ∀ G s, (cx.inner scope x Cc G s).env.scope.names = relabelK scope.names cx.env.scope.names := fun G s => relabel_is C.kind
    have cont : ∀ {b : Bool}, evc Γ cc (vals st ++ [some (.val xs[i])]) = .ok b → ∀ {Qb : Bool → Shared → Prop} {Eb : Value → Shared → Prop}, (∀ G₃ s₃, G'.le G₃ → After s₂ G' s₃ G₃ none → Qb b s₃) →
        wpAny (model cx.T.prog cx.T.w) cx.A (forIn ifs true fun c r => if r = true then do let ok ← isTrue c (compEnvC scope (clFold cx.env.cells scope.names []) Cc cx.env) (eval c (compEnvC scope (clFold cx.env.cells scope.names []) Cc cx.env)); pure (ForInStep.yield ok) else pure (ForInStep.yield r)) Qb Eb s₂ :=
      fun {b} hb {Qb Eb} hq => IO.cond (cx.inner scope x Cc G' s₂) (inner_ok C CO hG') rfl rfl rfl (nmI _ _) _ G' s₂ b N₂ hb Qb Eb fun G₃ st₃ s₃ l₃ N₃ => hq G₃ s₃ l₃ (inner_after N₃)
    rcases inStep_ok hst with ⟨hb, rfl⟩ | ⟨hb, y, st', hev, rfl⟩
    · refine cont hb fun G₃ s₃ l₃ A₃ => ?_
      simp only [Bool.false_eq_true, if_false]
      refine ⟨xs.length - (i + 1), by omega, i + 1, ds, G₃, ys, _, y₂, rfl, hlt, by omega, GM.le_trans hl l₃, M₂.afterX A₃, (hh2 ▸ hD₂).at fun o e => A₃.ext _ o e, hrep.mono l₃, (hh2 ▸ hn₂).keeps A₃.ext, W'.frame _ _ _ (hh2 ▸ hs₂') fun b _ o e => A₃.ext b o e, hrest', by simpa using hout'⟩
    · refine cont hb fun G₃ s₃ l₃ A₃ => ?_
      simp only [if_true]
      have M₃ := M₂.afterX A₃
      have hn₃ := (hh2 ▸ hn₂).keeps A₃.ext
      have N₃ := inner_sim (x := x) (scope := scope) (Cc := Cc) C CO M₃ hlen hn₃ (by simp) ((hrv.mono hl).mono l₃)
      have step := IO.elt (cx.inner scope x Cc G₃ s₃) (inner_ok C CO (GM.le_trans hG' l₃)) rfl rfl rfl (nmI _ _) _ G₃ s₃ N₃
      refine step _ _ (by rw [hev]; simp) (fun y' st₄ e₄ G₄ s₄ v₄ x₄ l₄ N₄ r₄ => ?_) (fun k st₄ e₄ => by rw [hev] at e₄; cases e₄)
      rw [hev] at e₄
      obtain ⟨rfl, rfl⟩ := Prod.mk.inj (R.ok.inj e₄)
      obtain ⟨rfl, r₄⟩ := r₄
      have A₄ := inner_after N₄
      have M₄ := M₃.afterX A₄
      have hD₄ : s₄.heap.PlainList D ys := (hh2 ▸ hD₂).at fun o e => A₄.ext _ o (A₃.ext _ o e)
      have hys : ys.size ≤ sizeLine := by
        have e1 := hrep.size
        omega
      refine wpAny_list_append_plain (hsz := hys) hD₄ fun h₅ hl₅ hs₅ => ?_
      refine ⟨xs.length - (i + 1), by omega, i + 1, ds ++ [y], G₄, ys.push v₄, _, y₂, rfl, hlt, by simp; omega, GM.le_trans hl (GM.le_trans l₃ l₄), M₄.updX H hs₅ ⟨_, hl₅.isList⟩, hl₅, ?_, (hn₃.keeps A₄.ext).sameBut hs₅ (Ne.symm hDC),
        W'.frame _ _ _ (hh2 ▸ hs₂') fun b hb o e => hs₅.extBut b o (fun q => hDf (q ▸ hb)) (A₄.ext b o (A₃.ext b o e)), hrest', by simpa using hout'⟩
      rw [Array.toList_push]
      exact RepAll.append (.cons r₄ .nil) ((hrep.mono l₃).mono l₄)
  · have hi' : i = xs.length := by omega
    subst hi'
    rw [List.drop_length, mapR] at hrest
    cases hrest
    refine W'.done s' _ _ hs' fun h₁ tk₁ hk₁ => ?_
    refine hR G' _ m' hl (M'.touch H O (ty hs' hn') tk₁ fun b o hb e => hk₁ b o (fun q => hb (by simp at q; simp [q])) e) ⟨ys, hD'.at fun o e => hk₁ _ o (by simpa using hDI) e, by rw [hout']; simpa using hrep⟩ (hn'.at' fun o e => hk₁ _ o (by simpa using hCI) e)
end
end Mine
end

section
open PySem PySem.Calls PyProof.Rows
set_option Elab.async false
set_option linter.unusedVariables false
namespace Mine

section
variable {Γ : Nat → Fn} {cx : Cx} {st : St} {G : GM} {s : Shared} {E : Value → Shared → Prop} {c a b a' b' : CE} {e y z : Expr} {pos pos' apos : Pos} {op o1 o2 : CmpOp} {x : Str} {scope : Scope} {xo : Option Addr}

theorem comp_block {elt iter : Expr} {px : Pos} {ifs : List Expr} {ce : CE} {cc : CEo} {xs out : List PyData} {I : Addr} {fp : List Addr} {P : Nat → Value → Prop} {St : Nat → Heap → Prop} {RR : Value → Addr → Result → Shared → Prop}
    (C : cx.Ok) (H : cx.Half) (CO : CompOk cx scope x) (IO : InOk Γ cx scope x ce cc elt ifs) (hlen : st.length = cx.nm.length)
    (W : WalkI cx.T G xs I fp P St) (O : Off cx [I]) (hfp : ∀ b ∈ fp, b < s.heap.objs.size) (hsz : xs.length ≤ sizeLine) (hout : mapR (inStep Γ ce cc st) xs = .ok out)
    (M : Sim cx G st none s) (h0 : St 0 s.heap)
    (hR : ∀ D Cc G' s' m', G.le G' → Sim cx G' st (some D) s' → OwnL G' s'.heap D out → s'.heap.Ns Cc m' → Off cx [Cc] → RR (.ref D) Cc (.ok .next) s') :
    wpAny (model cx.T.prog cx.T.w) cx.A (newList []) (fun acc s₃ => wpAny (model cx.T.prog cx.T.w) cx.A (newFunctionEnv scope cx.env.globals (clFold cx.env.cells scope.names []) [] cx.env.qual none .none (some cx.env)) (fun cenv s₄ =>
      codeAny (model cx.T.prog cx.T.w) cx.A (.compStart (.ListComp elt [⟨.Name x px, iter, ifs, 0⟩] scope pos) 0 (.ref I) acc { cenv with scope := relabel scope cx.env }) (RR acc cenv.locals) s₄) E s₃) E s := by
  have W' := W.W cx.A C.hand
  refine wpAny_newObj_type (wpAny_newFunctionEnv CO.cell (by intro y hy; simp at hy) (fun h₁ hns₁ hsb₁ => ?_) CO.kind)
  dsimp only at hns₁ hsb₁ ⊢
  generalize hH2 : s.heap.push { cls := .type "list", dict := none, data := .seq ([] : List Value).toArray } = H2 at hns₁ hsb₁ ⊢
  have hC : H2.objs.size = s.heap.objs.size + 1 := by rw [← hH2, Heap.size_push]
  have hDC : s.heap.objs.size ≠ H2.objs.size := by rw [hC]; exact Nat.ne_of_lt (Nat.lt_succ_self _)
  have hCle : s.heap.objs.size ≤ H2.objs.size := by rw [hC]; exact Nat.le_succ _
  have below : ∀ b, b < s.heap.objs.size → b ≠ H2.objs.size ∧ b ≠ s.heap.objs.size := fun b hb => ⟨by rw [hC]; exact Nat.ne_of_lt (Nat.lt_succ_of_lt hb), Nat.ne_of_lt hb⟩
  have hDf : s.heap.objs.size ∉ fp := fun hm => Nat.lt_irrefl _ (hfp _ hm)
  have hCf : H2.objs.size ∉ fp := fun hm => by have := hfp _ hm; rw [hC] at this; exact Nat.lt_irrefl _ (Nat.lt_of_succ_lt this)
  have old : ∀ b o, s.heap.get? b = some o → h₁.get? b = some o := fun b o e => hsb₁.extBut b o (below b (Heap.lt_size e)).1 (Heap.get?_push_of_some _ (hH2 ▸ Heap.get?_push_of_some _ e))
  have hacc : h₁.PlainList s.heap.objs.size #[] := ⟨_, hsb₁.extBut _ _ hDC (Heap.get?_push_of_some _ (hH2 ▸ Heap.get?_push_size _ rfl))⟩
  have hst₁ : St 0 h₁ := W'.frame _ _ _ h0 fun b _ o e => old b o e
  have hz : s.heap.objs.size ≤ h₁.objs.size := by rw [hsb₁.1, Heap.size_push]; exact Nat.le_trans hCle (Nat.le_succ _)
  have hIf : I ∈ fp := W'.sub I (by simp)
  have loop : ∀ s₃ : Shared, s₃ = { s with heap := h₁, toks := s.toks + ([] : List (Str × Value)).length } →
      codeAny (model cx.T.prog cx.T.w) cx.A (.compLoop (.ListComp elt [⟨.Name x px, iter, ifs, 0⟩] scope pos) 0 (.ref I) (.ref s.heap.objs.size) (compEnvC scope (clFold cx.env.cells scope.names []) H2.objs.size cx.env))
        (RR (.ref s.heap.objs.size) H2.objs.size) s₃ := by
    rintro s₃ rfl
    exact comp_loop C H CO IO hlen M.gle W (O.two (off_fresh M hCle)) hCf (fun q => hCf (q ▸ hIf)) hDf hsz hout (M.fresh _ old hz (Nat.le_refl _) ⟨_, hacc.isList⟩) hst₁ hacc hns₁
      fun G' s' m' l M' hO hn' => hR _ _ G' s' m' l M' hO hn' (off_fresh M hCle)
  exact codeAny_compStart_list (loop _ rfl) (W'.self 0 _ _ _ hst₁ (loop _ rfl))

theorem comp_free (H : cx.Half) (CO : CompOk cx scope x) : closureFor scope cx.env = pure (clFold cx.env.cells scope.names []) :=
  closure_is fun y hy hf => H.has y.1 (CO.free y hy hf)

theorem comp_last {D Cc : Addr} {m' : Str → Option Value} {out : List PyData} {h' : Heap} (H : cx.Half) (M : Sim cx G st (some D) s) (hO : OwnL G s.heap D out) (hn : s.heap.Ns Cc m') (O : Off cx [Cc]) (hs : Heap.SameBut Cc s.heap h') :
    Sim cx G st (some D) { s with heap := h' } ∧ OwnL G h' D out := by
  have ty : ∀ b ∈ [Cc], FieldsAt s.heap b := fun b hb => by rw [List.mem_singleton.mp hb]; exact .ns hn
  have hDC : D ≠ Cc := fun q => by
    obtain ⟨vs, hp, _⟩ := hO
    exact (FieldsAt.ns hn).notL (q ▸ ⟨_, hp.isList⟩)
  exact ⟨M.touch H O ty s.toks fun b o hb e => hs.extBut b o (fun q => hb (by simp [q])) e, hO.ext (GM.le_refl _) fun o e => hs.extBut _ o hDC e⟩

theorem comp_stuck {n : Nat} {ce : CE} {ci : CI} {cc : CEo} (st : St) : ev Γ (.comp n ce ci cc) st = (evi Γ ci st).bind fun (xs, st) => match mapR (inStep Γ ce cc st) xs with
      | .ok ys => if okLen xs.length && st.length == n then .ok (.own ys, st) else .stuck
      | _ => .stuck := rfl

theorem s_comp {n : Nat} {elt iter : Expr} {px : Pos} {ifs : List Expr} {ce : CE} {ci : CI} {cc : CEo} (C : cx.Ok) (H : cx.Half) (CO : CompOk cx scope x) (IO : InOk Γ cx scope x ce cc elt ifs) (hnl : n = cx.nm.length) (hi : SI Γ cx ci iter) (hs : ∀ v, foldedSetIterable iter cx.env v = pure v) :
    SE Γ cx (.comp n ce ci cc) (.ListComp elt [⟨.Name x px, iter, ifs, 0⟩] scope pos) := fun st G s M Q E ns hok hex => by
  rw [comp_stuck] at ns hok hex
  rw [eval_ListComp]
  refine wpAny_comprehension_free (use := none) rfl hs (comp_free H CO) CO.kind CO.loc ?_
  cases hev : evi Γ ci st with
  | stuck => rw [hev] at ns; exact (ns rfl).elim
  | exc k st1 =>
    rw [hev] at hex
    refine hi st G s M _ _ (by rw [hev]; simp) (fun xs st' e1 => by rw [hev] at e1; cases e1) (fun k' st' e1 G' s' e l M' f => ?_)
    rw [hev] at e1; exact hex k' st' (by cases e1; rfl) G' s' e l M' f
  | ok p =>
    obtain ⟨xs, st1⟩ := p
    rw [hev] at ns hok hex
    dsimp only [R.bind] at ns hok hex
    cases hmap : mapR (inStep Γ ce cc st1) xs with
    | stuck => rw [hmap] at ns; exact (ns rfl).elim
    | exc k st2 => rw [hmap] at ns; exact (ns rfl).elim
    | ok out =>
      rw [hmap] at ns hok
      dsimp only at ns hok
      split at ns
      · rename_i hz
        have hz' := hz
        simp only [Bool.and_eq_true, beq_iff_eq] at hz
        refine hi st G s M _ _ (by rw [hev]; simp) (fun xs' st' e1 G' s' I fp P St l M' f1 f2 f3 hsz h0 W hfp => ?_) (fun k' st' e1 => by rw [hev] at e1; cases e1)
        rw [hev] at e1
        obtain ⟨rfl, rfl⟩ := Prod.mk.inj (R.ok.inj e1)
        refine comp_block (RR := fun acc Cc => compPost (model cx.T.prog cx.T.w) cx.A E none Q acc Cc) C H CO IO (by rw [hz.2, hnl]) W (off_of M' f1 f2 f3) hfp hsz hmap M' h0 fun D Cc G2 s2 m2 l2 M2 hO hn O => ?_
        refine ⟨m2, hn, fun h' hs' => ?_⟩
        obtain ⟨M3, hO3⟩ := comp_last H M2 hO hn O hs'
        exact hok (.own out) st1 (by rw [if_pos hz']) G2 _ _ (some D) (GM.le_trans l l2) M3 ⟨D, rfl, rfl, hO3⟩
      · exact (ns rfl).elim

theorem s_assign' {i : Nat} {n : Str} {v : Expr} (C : cx.Ok) (Fu : cx.Full) (h : isLoc cx.nm cx.env.scope.names i n = true) (hv : swapsWith v (some (.Name n pos')) pos.line cx.env = pure false) (ha : SE Γ cx a v) : SS Γ cx (.assign i a) (.Assign [.Name n pos'] v pos) := fun st G s M Q E ns hok hex => by
  rw [qx_assign] at ns hok hex
  obtain ⟨h1, h2, h3⟩ := acc_of h
  refine wpAny_Assign_Name ?_ hv
  refine (ha st G s M).seq ns hex fun f st1 e1 G1 s1 v1 p1 l1 M1 r1 ns1 hex1 => ?_
  dsimp only at ns1
  split at ns1
  · rename_i hi
    refine M1.store Fu C.kind r1 h1 h2 hi fun s' M' => ?_
    exact hok .next _ (by rw [e1]; simp only [R.bind, hi, if_true]) G1 s' .next none l1 M' ⟨rfl, rfl⟩
  · exact (ns1 rfl).elim

theorem s_assign_comp {i n : Nat} {nm : Str} {elt iter : Expr} {px : Pos} {ifs : List Expr} {ce : CE} {ci : CI} {cc : CEo} (C : cx.Ok) (Fu : cx.Full) (h : isLoc cx.nm cx.env.scope.names i nm = true) (CO : CompOk cx scope x) (IO : InOk Γ cx scope x ce cc elt ifs) (hnl : n = cx.nm.length) (hi : SI Γ cx ci iter) (hs : ∀ v, foldedSetIterable iter cx.env v = pure v) :
    SS Γ cx (.assign i (.comp n ce ci cc)) (.Assign [.Name nm pos'] (.ListComp elt [⟨.Name x px, iter, ifs, 0⟩] scope apos) pos) := by
  obtain ⟨b, hb⟩ : ∃ b, swapsWith (.ListComp elt [⟨.Name x px, iter, ifs, 0⟩] scope apos) (some (.Name nm pos')) pos.line cx.env = pure b := ⟨_, rfl⟩
  cases b with
  | false => exact s_assign' C Fu h hb (s_comp C Fu.half CO IO hnl hi hs)
  | true =>
    intro st G s M Q E ns hok hex
    have H := Fu.half
    rw [qx_assign, comp_stuck] at ns hok hex
    obtain ⟨h1, h2, h3⟩ := acc_of h
    rw [exec_Assign_Name_used _ _ _ _ hb]
    refine wpAny_bind (wpAny_standAt (wpAny_bind ?_))
    show wpAny _ cx.A (do let _ ← comprehension (.ListComp elt [⟨.Name x px, iter, ifs, 0⟩] scope apos) scope cx.env _ (newList []) false (eval iter cx.env) (some (assign (.Name nm pos') cx.env))) _ _ s
    refine wpAny_bind (wpAny_mono (wpAny_comprehension_free (use := some (assign (.Name nm pos') cx.env)) (Q := fun _ s' => Q .next s') rfl hs (comp_free H CO) CO.kind CO.loc ?_) (fun _ s' hq => wpAny_pure (wpAny_pure hq)) fun _ _ e => e)
    cases hev : evi Γ ci st with
    | stuck => rw [hev] at ns; exact (ns rfl).elim
    | exc k st1 =>
      rw [hev] at hex
      refine hi st G s M _ _ (by rw [hev]; simp) (fun xs st' e1 => by rw [hev] at e1; cases e1) (fun k' st' e1 G' s' e l M' f => ?_)
      rw [hev] at e1; exact hex k' st' (by cases e1; rfl) G' s' e l M' f
    | ok p =>
      obtain ⟨xs, st1⟩ := p
      rw [hev] at ns hok hex
      dsimp only [R.bind] at ns hok hex
      cases hmap : mapR (inStep Γ ce cc st1) xs with
      | stuck => rw [hmap] at ns; exact (ns rfl).elim
      | exc k st2 => rw [hmap] at ns; exact (ns rfl).elim
      | ok out =>
        rw [hmap] at ns hok
        dsimp only at ns hok
        by_cases hz' : (okLen xs.length && st1.length == n) = true
        · rw [if_pos hz'] at ns hok
          dsimp only at ns hok
          split at ns
          · rename_i hlt
            rw [if_pos hlt] at hok
            have hz := hz'
            simp only [Bool.and_eq_true, beq_iff_eq] at hz
            refine hi st G s M _ _ (by rw [hev]; simp) (fun xs' st' e1 G' s' I fp P St l M' f1 f2 f3 hsz h0 W hfp => ?_) (fun k' st' e1 => by rw [hev] at e1; cases e1)
            rw [hev] at e1
            obtain ⟨rfl, rfl⟩ := Prod.mk.inj (R.ok.inj e1)
            refine comp_block (RR := fun acc Cc => compPost (model cx.T.prog cx.T.w) cx.A E (some (assign (.Name nm pos') cx.env)) (fun _ s' => Q .next s') acc Cc) C H CO IO (by rw [hz.2, hnl]) W (off_of M' f1 f2 f3) hfp hsz hmap M' h0 fun D Cc G2 s2 m2 l2 M2 hO hn O => ?_
            have hCp : ∀ b ∈ [Cc], b ∉ cx.priv := O.v
            have tyC : ∀ b ∈ [Cc], ¬ IsL s2.heap b := fun b hb => by rw [List.mem_singleton.mp hb]; exact (FieldsAt.ns hn).notL
            show wpAny _ cx.A (assign (.Name nm pos') cx.env (.ref D)) _ _ _
            refine wpAny_assign_Name ?_
            refine (M2.guard tyC).store (cx := cx.guard [Cc] s2) (f := .own out) (Fu.guard hCp) C.kind ⟨D, rfl, rfl, hO⟩ h1 h2 hlt fun s3 M3 => ?_
            have hn3 : s3.heap.Ns Cc m2 := hn.at' fun o e => M3.held (by simp) e
            refine ⟨m2, hn3, fun h' hs' => ?_⟩
            have M4 := M3.unguard M2.keep
            refine hok .next _ rfl G2 _ .next none (GM.le_trans l l2) (M4.touch H O (fun b hb => ?_) s3.toks fun b o hb e => hs'.extBut b o (fun q => hb (by simp [q])) e) ⟨rfl, rfl⟩
            rw [List.mem_singleton.mp hb]; exact .ns hn3
          · exact (ns rfl).elim
        · rw [if_neg hz'] at ns; exact (ns rfl).elim
end
end Mine
end

section
open PySem PySem.Calls PyProof.Rows
set_option Elab.async false
set_option linter.unusedVariables false
namespace Mine

/-! all of it, put together -/

noncomputable def plainX : Expr → Bool
  | .Starred .. => false
  | .Slice .. => false
  | .Set .. => false
  | _ => true
theorem plainX.star {e : Expr} (h : plainX e = true) : notStar e = true := by cases e <;> first | rfl | exact absurd (show false = true from h) (by decide)
theorem plainX.slice {e : Expr} (h : plainX e = true) : notSlice e = true := by cases e <;> first | rfl | exact absurd (show false = true from h) (by decide)
theorem plainX.marks {e : Expr} (h : plainX e = true) (op : CmpOp) : behindInMarks op e = false := by cases e <;> first | rfl | exact absurd (show false = true from h) (by decide)
theorem plainX.folded {e : Expr} (h : plainX e = true) (env : Env) (v : Value) : foldedSetIterable e env v = pure v := by cases e <;> first | rfl | exact absurd (show false = true from h) (by decide)

theorem onS_call1 {kd : Kd} {g : Str} {m : Expr → Bool} {e : Expr} (h : call1C kd g m e = true) : ∃ f pf x p, e = .Call (.Name f pf) [x] [] p ∧ isGl kd f g = true ∧ m x = true := by
  obtain ⟨v, h1, h⟩ := onS_true h
  obtain ⟨f, h2, h⟩ := onS_true h
  obtain ⟨x, h3, h⟩ := onS_true h
  simp only [Bool.and_eq_true, List.isEmpty_iff] at h
  obtain ⟨pf, h2⟩ := asName_eq h2
  have h1 := asCall_eq h1
  rw [h2, one_eq h3, h.1.1] at h1
  exact ⟨f, pf, x, _, h1, h.1.2, h.2⟩
theorem onS_meth {a : Str} {m : Expr → List Expr → Bool} {e : Expr} (h : methC a m e = true) : ∃ v ap args p, e = .Call (.Attribute v a ap) args [] p ∧ (ap.endLine == p.line) = true ∧ m v args = true := by
  obtain ⟨v, h1, h⟩ := onS_true h
  obtain ⟨w, h2, h⟩ := onS_true h
  simp only [Bool.and_eq_true, List.isEmpty_iff] at h
  have h1 := asCall_eq h1
  rw [asAttr_eq h2, h.1.1.1, eq_of_beq h.1.1.2] at h1
  exact ⟨_, _, _, _, h1, h.1.2, h.2⟩
theorem onS_cmp {op : CmpOp} {m : Expr → Expr → Bool} {e : Expr} (h : cmp1 op m e = true) : ∃ l r p, e = .Compare l [op] [r] p ∧ m l r = true := by
  obtain ⟨v, h1, h⟩ := onS_true h
  obtain ⟨o, h2, h⟩ := onS_true h
  obtain ⟨r, h3, h⟩ := onS_true h
  simp only [Bool.and_eq_true] at h
  obtain ⟨p, h1⟩ := asCmp_eq h1
  rw [one_eq h2, one_eq h3, ← eq_of_beq h.1] at h1
  exact ⟨_, _, p, h1, h.2⟩
theorem onS_name {f : Str → Bool} {e : Expr} (h : onS (asName e) f = true) : ∃ x p, e = .Name x p ∧ f x = true := by
  obtain ⟨x, h1, h⟩ := onS_true h
  obtain ⟨p, h1⟩ := asName_eq h1
  exact ⟨x, p, h1, h⟩
theorem onS_const {f : Const → Bool} {e : Expr} (h : onS (asConst e) f = true) : ∃ v k p, e = .Constant v k p ∧ f v = true := by
  obtain ⟨x, h1, h⟩ := onS_true h
  obtain ⟨k, p, h1⟩ := asConst_eq h1
  exact ⟨x, k, p, h1, h⟩
theorem onS_sub {f : Expr × Expr → Bool} {e : Expr} (h : onS (asSub e) f = true) : ∃ v i p, e = .Subscript v i p ∧ f (v, i) = true := by
  obtain ⟨x, h1, h⟩ := onS_true h
  obtain ⟨p, h1⟩ := asSub_eq h1
  exact ⟨_, _, p, h1, h⟩
theorem onS_one {α : Type} {f : α → Bool} {l : List α} (h : onS (one l) f = true) : ∃ x, l = [x] ∧ f x = true := by
  obtain ⟨x, h1, h⟩ := onS_true h
  exact ⟨x, one_eq h1, h⟩
theorem onS_nil {e : Expr} (h : onS (asList e) List.isEmpty = true) : ∃ p, e = .List [] p := by
  obtain ⟨l, h1, h⟩ := onS_true h
  obtain ⟨p, h1⟩ := asList_eq h1
  rw [List.isEmpty_iff.mp h] at h1
  exact ⟨p, h1⟩

theorem mE_plain {q : Bool} {ft : Nat → Option Str} {nm : List Str} {kd : Kd} {c : CE} {e : Expr} (h : mE q ft nm kd c e = true) : plainX e = true := by
  cases e with
  | Starred => cases c <;> exact absurd (show false = true from h) (by decide)
  | Slice => cases c <;> exact absurd (show false = true from h) (by decide)
  | Set => cases c <;> exact absurd (show false = true from h) (by decide)
  | _ => rfl

theorem no {p : Prop} (h : false = true) : p := nomatch h
theorem and2 {a b : Bool} (h : (a && b) = true) : a = true ∧ b = true := by simpa using h

/-- what all of a run has alike -/
structure Base (Γ : Nat → Fn) (ft : Nat → Option Str) (T : Tp) (A : Around) : Prop where
  top : T.Ok
  calls : ∀ cx : Cx, cx.T = T → cx.A = A → CallsOk Γ ft cx

structure At (T : Tp) (A : Around) (q : Bool) (cx : Cx) : Prop where
  t : cx.T = T
  a : cx.A = A
  ok : cx.Ok
  half : q = true → cx.Half
theorem At.like {T : Tp} {A : Around} {q : Bool} {cx cx' : Cx} (h : At T A q cx) (l : cx.Like cx') : At T A q cx' :=
  ⟨l.1.trans h.t, l.2.1.trans h.a, h.ok.like l, fun e => (h.half e).like l⟩
theorem At.top {Γ : Nat → Fn} {ft : Nat → Option Str} {T : Tp} {A : Around} {q : Bool} {cx : Cx} (h : At T A q cx) (K : Base Γ ft T A) : cx.T.Ok := h.t ▸ K.top

section
variable {Γ : Nat → Fn} {ft : Nat → Option Str} {T : Tp} {A : Around} {cx : Cx} {c : CE} {x : Str} {scope : Scope}

/-- an expression, and as a test -/
noncomputable def S2 (Γ : Nat → Fn) (cx : Cx) (c : CE) (e : Expr) : Prop := SE Γ cx c e ∧ SB Γ cx c e

theorem S2.of {e : Expr} (h : SE Γ cx c e) (he : ∀ whole, isTrue e cx.env whole = (do let v ← whole; standAt e.pos; holding [v] (truthy v))) : S2 Γ cx c e := ⟨h, h.tst he⟩
theorem S2.cmp {l r : Expr} {op : CmpOp} {pos : Pos} (h : SC Γ cx c l op r) (hr : plainX r = true) : S2 Γ cx c (.Compare l [op] [r] pos) := ⟨h.se (plainX.marks hr op), h.sb (plainX.marks hr op)⟩

theorem compOk_of {kd : Kd} (hk : kd = cx.env.scope.names) (h : compOk scope kd x = true) (h1 : ((maskN x cx.nm).all fun y => (relabelK scope.names kd).lookup y != some .local) = true) (h2 : ((relabelK scope.names kd).lookup ("" : Str) == none) = true) : CompOk cx scope x := by
  subst hk
  unfold compOk at h
  simp only [Bool.and_eq_true, beq_iff_eq, List.all_eq_true, Bool.or_eq_true, bne_iff_ne, ne_eq] at h h1 h2
  obtain ⟨⟨h3, h4⟩, h5⟩ := h
  refine ⟨h3, fun y hy => (h4 y hy).1.1, fun y hy e => ?_, fun y hy e => ?_, h5, fun y hy => h1 y hy, h2⟩
  · rcases (h4 y hy).1.2 with q | q
    · exact absurd e q
    · exact q
  · rcases (h4 y hy).2 with q | q
    · exact absurd e q
    · exact q.2
end

theorem inv_comp {q : Bool} {ft : Nat → Option Str} {cx : Cx} {n : Nat} {elt : CE} {it : CI} {cond : CEo} {e : Expr} (h : mE q ft cx.nm cx.env.scope.names (.comp n elt it cond) e = true) :
    ∃ x px iter ifs e' scope p, e = .ListComp e' [⟨.Name x px, iter, ifs, 0⟩] scope p ∧ q = true ∧ n = cx.nm.length ∧ CompOk cx scope x ∧ notEnum it = true ∧ mI q ft cx.nm cx.env.scope.names it iter = true ∧
      mC false ft (maskN x cx.nm ++ [x]) (relabelK scope.names cx.env.scope.names) cond ifs = true ∧ mE false ft (maskN x cx.nm ++ [x]) (relabelK scope.names cx.env.scope.names) elt e' = true := by
  obtain ⟨v, h1, h⟩ := onS_true h
  obtain ⟨g, h2, h⟩ := onS_true h
  obtain ⟨x, h3, h⟩ := onS_true h
  obtain ⟨p, h1⟩ := asComp_eq h1
  obtain ⟨px, h3⟩ := asName_eq h3
  obtain ⟨h0, h9⟩ := and2 h
  obtain ⟨h0, h8⟩ := and2 h0
  obtain ⟨h0, h7⟩ := and2 h0
  obtain ⟨h0, h6⟩ := and2 h0
  obtain ⟨h0, h5⟩ := and2 h0
  obtain ⟨h0, h4⟩ := and2 h0
  obtain ⟨h0, hc⟩ := and2 h0
  obtain ⟨h0, hn⟩ := and2 h0
  obtain ⟨ha, hq⟩ := and2 h0
  obtain ⟨tg, iter, ifs, asy⟩ := g
  dsimp only at h3 ha h5 h6
  subst h3
  obtain rfl := eq_of_beq ha
  rw [one_eq h2] at h1
  exact ⟨x, px, iter, ifs, v.1, v.2.2, p, h1, hq, eq_of_beq hn, compOk_of rfl hc h8 h9, h4, h5, h6, h7⟩

theorem mI_plain {q : Bool} {ft : Nat → Option Str} {nm : List Str} {kd : Kd} {c : CI} {e : Expr} (h : mI q ft nm kd c e = true) : plainX e = true := by
  cases c with
  | data c => exact mE_plain (show mE q ft nm kd c e = true from h)
  | range c => obtain ⟨f, pf, x, p, rfl, _⟩ := onS_call1 h; rfl
  | enum c => obtain ⟨f, pf, x, p, rfl, _⟩ := onS_call1 h; rfl
theorem rest_and {p : Pos} {y : Expr} : ∀ {rest : List Expr}, restB .And p y rest = (match rest with | [] => y | _ => .BoolOp .And (y :: rest) p)
  | [] => rfl
  | _ :: _ => rfl
theorem rest_or {p : Pos} {y : Expr} : ∀ {rest : List Expr}, restB .Or p y rest = (match rest with | [] => y | _ => .BoolOp .Or (y :: rest) p)
  | [] => rfl
  | _ :: _ => rfl

set_option maxHeartbeats 1000000 in
mutual
theorem sE {Γ : Nat → Fn} {ft : Nat → Option Str} {T : Tp} {A : Around} (K : Base Γ ft T A) : ∀ (c : CE) (q : Bool) (cx : Cx) (e : Expr), At T A q cx → mE q ft cx.nm cx.env.scope.names c e = true → S2 Γ cx c e
  | .none, q, cx, e, a, h => by
    obtain ⟨v, k, p, rfl, g⟩ := onS_const h
    obtain rfl := cNone_eq g
    exact .of s_none fun _ => rfl
  | .bool b, q, cx, e, a, h => by
    obtain ⟨v, k, p, rfl, g⟩ := onS_const h
    obtain rfl := cBool_eq g
    exact .of s_bool fun _ => rfl
  | .int b, q, cx, e, a, h => by
    obtain ⟨v, k, p, rfl, g⟩ := onS_const h
    obtain rfl := cInt_eq g
    exact .of s_int fun _ => rfl
  | .str l, q, cx, e, a, h => by
    obtain ⟨v, k, p, rfl, g⟩ := onS_const h
    obtain ⟨x, rfl, g'⟩ := cStr_eq g
    exact .of (s_str g') fun _ => rfl
  | .var i, q, cx, e, a, h => by
    obtain ⟨z, p, rfl, g⟩ := onS_name h
    exact .of (s_var a.ok g) fun _ => rfl
  | .mv i, q, cx, e, a, h => by
    obtain ⟨z, p, rfl, g⟩ := onS_name h
    exact .of (s_mv a.ok g) fun _ => rfl
  | .glob k, q, cx, e, a, h => by
    obtain ⟨z, p, rfl, g⟩ := onS_name h
    obtain ⟨y, hg, g⟩ := onS_true g
    exact .of (s_glob (y := y.1) (d := y.2) (a.top K) a.ok hg g) fun _ => rfl
  | .bin op a1 b1, q, cx, e, a, h => by
    obtain ⟨v, h1, g⟩ := onS_true h
    obtain ⟨p, rfl⟩ := asBin_eq h1
    obtain ⟨g, h3⟩ := and2 g
    obtain ⟨g, h2⟩ := and2 g
    obtain rfl := eq_of_beq g
    exact .of (s_bin (sE K a1 q cx _ a h2).1.d (sE K b1 q cx _ a h3).1.d) fun _ => rfl
  | .neg a1, q, cx, e, a, h => by
    obtain ⟨v, h1, g⟩ := onS_true h
    obtain ⟨p, rfl⟩ := asUn_eq h1
    obtain ⟨g, h2⟩ := and2 g
    rw [eq_of_beq g]
    exact .of (s_neg (sE K a1 q cx _ a h2).1.d) fun _ => rfl
  | .not a1, q, cx, e, a, h => by
    obtain ⟨v, h1, g⟩ := onS_true h
    obtain ⟨p, rfl⟩ := asUn_eq h1
    obtain ⟨g, h2⟩ := and2 g
    rw [eq_of_beq g]
    exact ⟨s_not (sE K a1 q cx _ a h2).1.v, b_not (sE K a1 q cx _ a h2).2⟩
  | .and a1 b1, q, cx, e, a, h => by
    obtain ⟨v, h1, g⟩ := onS_true h
    obtain ⟨w, h2, g⟩ := onS_true g
    obtain ⟨g, h4⟩ := and2 g
    obtain ⟨g, h3⟩ := and2 g
    obtain rfl := asBool_eq h1
    rw [eq_of_beq g, more_eq h2]
    have ha := sE K a1 q cx _ a h3
    have hb := sE K b1 q cx _ a h4
    rw [rest_and] at hb
    exact ⟨s_and ha.1.v hb.1, b_and ha.2 hb.2⟩
  | .or a1 b1, q, cx, e, a, h => by
    obtain ⟨v, h1, g⟩ := onS_true h
    obtain ⟨w, h2, g⟩ := onS_true g
    obtain ⟨g, h4⟩ := and2 g
    obtain ⟨g, h3⟩ := and2 g
    obtain rfl := asBool_eq h1
    rw [eq_of_beq g, more_eq h2]
    have ha := sE K a1 q cx _ a h3
    have hb := sE K b1 q cx _ a h4
    rw [rest_or] at hb
    exact ⟨s_or ha.1.v hb.1, b_or ha.2 hb.2⟩
  | .cmp op a1 b1, q, cx, e, a, h => by
    obtain ⟨l, r, p, rfl, g⟩ := onS_cmp h
    obtain ⟨h2, h3⟩ := and2 g
    exact .cmp (c_cmp a.ok (sE K a1 q cx l a h2).1.d (sE K b1 q cx r a h3).1.d) (mE_plain h3)
  | .chain2 a1 o1 b1 o2 c1, q, cx, e, a, h => by
    obtain ⟨v, h1, g⟩ := onS_true h
    obtain ⟨o, h2, g⟩ := onS_true g
    obtain ⟨r, h3, g⟩ := onS_true g
    obtain ⟨p, rfl⟩ := asCmp_eq h1
    obtain ⟨g, h5⟩ := and2 g
    obtain ⟨g, h4⟩ := and2 g
    obtain ⟨g, h6⟩ := and2 g
    obtain ⟨h7, h8⟩ := and2 g
    rw [two_eq h2, two_eq h3, ← eq_of_beq h7, ← eq_of_beq h8]
    have ha := (sE K a1 q cx _ a h6).1.d
    have hb := (sE K b1 q cx _ a h4).1.d
    have hc := (sE K c1 q cx _ a h5).1.d
    exact ⟨s_chain2 a.ok ha hb hc (plainX.marks (mE_plain h5) _), b_chain2 a.ok ha hb hc (plainX.marks (mE_plain h5) _)⟩
  | .isNone a1, q, cx, e, a, h => by
    obtain ⟨l, r, p, rfl, g⟩ := onS_cmp h
    obtain ⟨h2, h3⟩ := and2 g
    obtain ⟨v, k, p', rfl, h3⟩ := onS_const h3
    obtain rfl := cNone_eq h3
    exact .cmp (c_isNone (sE K a1 q cx l a h2).1.d) rfl
  | .isNotNone a1, q, cx, e, a, h => by
    obtain ⟨l, r, p, rfl, g⟩ := onS_cmp h
    obtain ⟨h2, h3⟩ := and2 g
    obtain ⟨v, k, p', rfl, h3⟩ := onS_const h3
    obtain rfl := cNone_eq h3
    exact .cmp (c_isNotNone (sE K a1 q cx l a h2).1.d) rfl
  | .eqNil i, q, cx, e, a, h => by
    obtain ⟨l, r, p, rfl, g⟩ := onS_cmp h
    obtain ⟨h2, h3⟩ := and2 g
    obtain ⟨x, px, rfl, h2⟩ := onS_name h2
    obtain ⟨p', rfl⟩ := onS_nil h3
    exact .cmp (c_eqNil a.ok h2) rfl
  | .neNil i, q, cx, e, a, h => by
    obtain ⟨l, r, p, rfl, g⟩ := onS_cmp h
    obtain ⟨h2, h3⟩ := and2 g
    obtain ⟨x, px, rfl, h2⟩ := onS_name h2
    obtain ⟨p', rfl⟩ := onS_nil h3
    exact .cmp (c_neNil a.ok h2) rfl
  | .inOpen a1, q, cx, e, a, h => by
    obtain ⟨l, r, p, rfl, g⟩ := onS_cmp h
    obtain ⟨h1, h2⟩ := and2 g
    obtain ⟨x, px, rfl, h2⟩ := onS_name h2
    exact .cmp (c_inOpen (a.top K) a.ok (sE K a1 q cx l a h1).1.d h2) rfl
  | .getOpen a1, q, cx, e, a, h => by
    obtain ⟨v, i, p, rfl, g⟩ := onS_sub h
    obtain ⟨h1, h2⟩ := and2 g
    obtain ⟨x, px, rfl, h1⟩ := onS_name h1
    exact .of (s_getOpen (a.top K) a.ok (sE K a1 q cx i a h2).1.d (plainX.slice (mE_plain h2)) h1) fun _ => rfl
  | .idx a1 b1, q, cx, e, a, h => by
    obtain ⟨v, i, p, rfl, g⟩ := onS_sub h
    obtain ⟨h1, h2⟩ := and2 g
    exact .of (s_idx (sE K a1 q cx v a h1).1.d (sE K b1 q cx i a h2).1.d (plainX.slice (mE_plain h2))) fun _ => rfl
  | .idxv k b1, q, cx, e, a, h => by
    obtain ⟨v, i, p, rfl, g⟩ := onS_sub h
    obtain ⟨h1, h2⟩ := and2 g
    obtain ⟨x, px, rfl, h1⟩ := onS_name h1
    exact .of (s_idxv a.ok (fun cx' l => (sE K b1 q cx' i (a.like l) (by rw [l.2.2.1, l.2.2.2.1]; exact h2)).1.d) (plainX.slice (mE_plain h2)) h1) fun _ => rfl
  | .slc a1 lo hi, q, cx, e, a, h => by
    obtain ⟨v, i, p, rfl, g⟩ := onS_sub h
    obtain ⟨w, h1, g⟩ := onS_true g
    obtain ⟨p', h1⟩ := asSlice_eq h1
    obtain ⟨g, h4⟩ := and2 g
    obtain ⟨g, h3⟩ := and2 g
    obtain ⟨g, h2⟩ := and2 g
    dsimp only at h1
    rw [Option.isNone_iff_eq_none.mp g] at h1
    subst h1
    exact .of (s_slc (sE K a1 q cx v a h2).1.d (sO K lo q cx _ a h3) (sO K hi q cx _ a h4)) fun _ => rfl
  | .tup es, q, cx, e, a, h => by
    obtain ⟨elts, h1, g⟩ := onS_true h
    obtain ⟨k, p, rfl⟩ := asTup_eq h1
    obtain ⟨h1, h2⟩ := and2 g
    obtain ⟨r1, r2, r3⟩ := sL K es q cx elts a h1
    exact .of (s_tup r1 (by rw [r2]; exact of_decide_eq_true h2)) fun _ => rfl
  | .lst es, q, cx, e, a, h => by
    obtain ⟨elts, h1, g⟩ := onS_true h
    obtain ⟨p, rfl⟩ := asList_eq h1
    obtain ⟨h1, h2⟩ := and2 g
    obtain ⟨r1, r2, r3⟩ := sL K es q cx elts a h1
    exact .of (s_lst r1 (by rw [r2]; exact of_decide_eq_true h2)) fun _ => rfl
  | .call k es, q, cx, e, a, h => by
    obtain ⟨⟨f, args, kws, p⟩, h1, g⟩ := onS_true h
    obtain ⟨f', h2, g⟩ := onS_true g
    obtain rfl := asCall_eq h1
    obtain ⟨pf, h2⟩ := asName_eq h2
    obtain ⟨g, h6⟩ := and2 g
    obtain ⟨g, h5⟩ := and2 g
    obtain ⟨h3, h4⟩ := and2 g
    obtain ⟨y, hy, h5⟩ := onS_true h5
    dsimp only at h2 h3 h4 h6 ⊢
    rw [h2, List.isEmpty_iff.mp h3]
    cases args with
    | nil => cases h4
    | cons x args =>
      obtain ⟨r1, r2, r3⟩ := sL K es q cx (x :: args) a h6
      exact .of (s_call (a.top K) a.ok (K.calls cx a.t a.a) hy h5 r3 r1) fun _ => rfl
  | .len a1, q, cx, e, a, h => by
    obtain ⟨f, pf, x, p, rfl, h1, h2⟩ := onS_call1 h
    exact .of (s_len (a.top K) a.ok h1 (plainX.star (mE_plain h2)) (sE K a1 q cx x a h2).1.d) fun _ => rfl
  | .ord a1, q, cx, e, a, h => by
    obtain ⟨f, pf, x, p, rfl, h1, h2⟩ := onS_call1 h
    exact .of (s_ord (a.top K) a.ok h1 (plainX.star (mE_plain h2)) (sE K a1 q cx x a h2).1.d) fun _ => rfl
  | .abs a1, q, cx, e, a, h => by
    obtain ⟨f, pf, x, p, rfl, h1, h2⟩ := onS_call1 h
    exact .of (s_abs (a.top K) a.ok h1 (plainX.star (mE_plain h2)) (sE K a1 q cx x a h2).1.d) fun _ => rfl
  | .toInt a1, q, cx, e, a, h => by
    obtain ⟨f, pf, x, p, rfl, h1, h2⟩ := onS_call1 h
    exact .of (s_toInt (a.top K) a.ok h1 (plainX.star (mE_plain h2)) (sE K a1 q cx x a h2).1.d) fun _ => rfl
  | .list a1, q, cx, e, a, h => by
    obtain ⟨f, pf, x, p, rfl, h1, h2⟩ := onS_call1 h
    exact .of (s_list (a.top K) a.ok h1 (plainX.star (mE_plain h2)) (sE K a1 q cx x a h2).1.d) fun _ => rfl
  | .lenv i, q, cx, e, a, h => by
    obtain ⟨f, pf, x, p, rfl, h1, h2⟩ := onS_call1 h
    obtain ⟨z, pz, rfl, h2⟩ := onS_name h2
    exact .of (s_lenv (a.top K) a.ok h1 h2) fun _ => rfl
  | .isinst a1 t, q, cx, e, a, h => by
    obtain ⟨⟨f, args, kws, p⟩, h1, g⟩ := onS_true h
    obtain ⟨f', h2, g⟩ := onS_true g
    obtain ⟨x, h3, g⟩ := onS_true g
    obtain rfl := asCall_eq h1
    obtain ⟨pf, h2⟩ := asName_eq h2
    obtain ⟨g, h7⟩ := and2 g
    obtain ⟨g, h6⟩ := and2 g
    obtain ⟨h4, h5⟩ := and2 g
    obtain ⟨y, py, hy, h6⟩ := onS_name h6
    dsimp only at h2 h3 h4 ⊢
    rw [h2, two_eq h3, List.isEmpty_iff.mp h4, hy]
    exact .of (s_isinst (a.top K) a.ok h5 h6 (plainX.star (mE_plain h7)) (sE K a1 q cx _ a h7).1.d) fun _ => rfl
  | .pop i, q, cx, e, a, h => by
    obtain ⟨v, ap, args, p, rfl, h1, g⟩ := onS_meth h
    obtain ⟨h2, h3⟩ := and2 g
    obtain ⟨x, px, rfl, h2⟩ := onS_name h2
    rw [List.isEmpty_iff.mp h3]
    exact .of (s_pop a.ok h2 h1) fun _ => rfl
  | .splitNl a1, q, cx, e, a, h => by
    obtain ⟨v, ap, args, p, rfl, h1, g⟩ := onS_meth h
    obtain ⟨g, h4⟩ := and2 g
    obtain ⟨h2, h3⟩ := and2 g
    obtain ⟨y, rfl, h5⟩ := onS_one h4
    obtain ⟨c, k, p', rfl, h6⟩ := onS_const h5
    obtain ⟨yy, rfl, h7⟩ := cStr_eq h6
    exact .of (s_split h2 h7 h1 (sE K a1 q cx v a h3).1.d) fun _ => rfl
  | .find a1 b1, q, cx, e, a, h => by
    obtain ⟨v, ap, args, p, rfl, h1, g⟩ := onS_meth h
    obtain ⟨g, h4⟩ := and2 g
    obtain ⟨h2, h3⟩ := and2 g
    obtain ⟨y, rfl, h4⟩ := onS_one h4
    exact .of (s_find h2 (plainX.star (mE_plain h4)) h1 (sE K a1 q cx v a h3).1.d (sE K b1 q cx y a h4).1.d) fun _ => rfl
  | .join a1 b1, q, cx, e, a, h => by
    obtain ⟨v, ap, args, p, rfl, h1, g⟩ := onS_meth h
    obtain ⟨g, h4⟩ := and2 g
    obtain ⟨h2, h3⟩ := and2 g
    obtain ⟨y, rfl, h4⟩ := onS_one h4
    exact .of (s_join h2 (plainX.star (mE_plain h4)) h1 (sE K a1 q cx v a h3).1.d (sE K b1 q cx y a h4).1.d) fun _ => rfl
  | .comp n elt it cond, q, cx, e, a, h => by
    obtain ⟨x, px, iter, ifs, e', scope, p, rfl, hq, hn, CO, hne, hit, hcond, helt⟩ := inv_comp h
    exact .of (s_comp a.ok (a.half hq) CO ⟨fun cx' c' t' a' n' k' => (sE K elt false cx' e' ⟨t'.trans a.t, a'.trans a.a, c', fun e => nomatch e⟩ (by rw [n', k']; exact helt)).1.d,
      fun cx' c' t' a' n' k' => sC K cond false cx' ifs ⟨t'.trans a.t, a'.trans a.a, c', fun e => nomatch e⟩ (by rw [n', k']; exact hcond)⟩ hn ((sI K it q cx iter a hit).1 hne) (plainX.folded (mI_plain hit) cx.env)) fun _ => rfl
theorem sO {Γ : Nat → Fn} {ft : Nat → Option Str} {T : Tp} {A : Around} (K : Base Γ ft T A) : ∀ (c : CEo) (q : Bool) (cx : Cx) (e : Option Expr), At T A q cx → mO q ft cx.nm cx.env.scope.names c e = true → SO Γ cx c e
  | .no, q, cx, e, a, h => by
    rw [Option.isNone_iff_eq_none.mp h]; exact o_no
  | .yes c, q, cx, e, a, h => by
    obtain ⟨e, rfl, g⟩ := onS_true h
    exact o_yes (sE K c q cx e a g).1.d
theorem sC {Γ : Nat → Fn} {ft : Nat → Option Str} {T : Tp} {A : Around} (K : Base Γ ft T A) : ∀ (c : CEo) (q : Bool) (cx : Cx) (e : List Expr), At T A q cx → mC q ft cx.nm cx.env.scope.names c e = true → SCd Γ cx c e
  | .no, q, cx, e, a, h => by
    rw [List.isEmpty_iff.mp h]; exact cd_no
  | .yes c, q, cx, e, a, h => by
    obtain ⟨e, rfl, g⟩ := onS_one h
    exact cd_yes (sE K c q cx e a g).2
theorem sI {Γ : Nat → Fn} {ft : Nat → Option Str} {T : Tp} {A : Around} (K : Base Γ ft T A) : ∀ (c : CI) (q : Bool) (cx : Cx) (e : Expr), At T A q cx → mI q ft cx.nm cx.env.scope.names c e = true → (notEnum c = true → SI Γ cx c e) ∧ (cx.Full → ∀ elts k p, SF Γ cx c e (.Tuple elts k p))
  | .data c, q, cx, e, a, h => by
    have h1 := i_data a.ok (sE K c q cx e a h).1.d
    exact ⟨fun _ => h1, fun Fu elts k p => h1.sf a.ok Fu _⟩
  | .range c, q, cx, e, a, h => by
    obtain ⟨f, pf, x, p, rfl, h1, h2⟩ := onS_call1 h
    have h3 := i_range (pos := p) (pos' := pf) (a.top K) a.ok h1 (plainX.star (mE_plain h2)) (sE K c q cx x a h2).1.d
    exact ⟨fun _ => h3, fun Fu elts k p => h3.sf a.ok Fu _⟩
  | .enum c, q, cx, e, a, h => by
    obtain ⟨f, pf, x, p, rfl, h1, h2⟩ := onS_call1 h
    exact ⟨fun g => no g, fun Fu elts k p => f_enum (a.top K) a.ok Fu h1 (plainX.star (mE_plain h2)) (sE K c q cx x a h2).1.d⟩
theorem sL {Γ : Nat → Fn} {ft : Nat → Option Str} {T : Tp} {A : Around} (K : Base Γ ft T A) : ∀ (c : CEs) (q : Bool) (cx : Cx) (es : List Expr), At T A q cx → mEs q ft cx.nm cx.env.scope.names c es = true → SL Γ cx c es ∧ c.len = es.length ∧ ∀ e ∈ es, notStar e = true
  | .nil, q, cx, es, a, h => by
    cases es with
    | nil => exact ⟨l_nil, rfl, fun e he => (nomatch he)⟩
    | cons _ _ => exact no h
  | .cons c r, q, cx, es, a, h => by
    cases es with
    | nil => exact no h
    | cons e es =>
      obtain ⟨h1, h2⟩ := and2 h
      obtain ⟨r1, r2, r3⟩ := sL K r q cx es a h2
      have hs := plainX.star (mE_plain h1)
      refine ⟨l_cons hs (sE K c q cx e a h1).1.d r1, by rw [CEs.len, r2, List.length_cons], fun e' he => ?_⟩
      rcases List.mem_cons.mp he with rfl | he
      · exact hs
      · exact r3 _ he
end
end Mine
end

section
open PySem PySem.Calls PyProof.Rows
set_option Elab.async false
set_option linter.unusedVariables false
namespace Mine

/-- where statements run -/
structure AtS (T : Tp) (A : Around) (cx : Cx) : Prop where
  t : cx.T = T
  a : cx.A = A
  ok : cx.Ok
  full : cx.Full
theorem AtS.at {T : Tp} {A : Around} {cx : Cx} (h : AtS T A cx) : At T A true cx := ⟨h.t, h.a, h.ok, fun _ => h.full.half⟩

theorem not_comp {ft : Nat → Option Str} {q : Bool} {nm : List Str} {kd : Kd} {c : CE} {v : Expr} (h : mE q ft nm kd c v = true) : notComp v = true ∨ ∃ n elt it cond, c = .comp n elt it cond := by
  cases v with
  | ListComp e g s p => cases c with
    | comp n elt it cond => exact .inr ⟨n, elt, it, cond, rfl⟩
    | _ => exact no h
  | SetComp e g s p => cases c <;> exact no h
  | DictComp k e g s p => cases c <;> exact no h
  | _ => exact .inl rfl

set_option maxHeartbeats 1000000 in
mutual
theorem sS {Γ : Nat → Fn} {ft : Nat → Option Str} {T : Tp} {A : Around} (K : Base Γ ft T A) : ∀ (c : CS) (cx : Cx) (t : Stmt), AtS T A cx → mS true ft cx.nm cx.env.scope.names c t = true → SS Γ cx c t
  | .assign i c, cx, t, a, h => by
    obtain ⟨v, h1, g⟩ := onS_true h
    obtain ⟨pos, rfl⟩ := asAssign_eq h1
    obtain ⟨h1, h2⟩ := and2 g
    obtain ⟨x, px, hx, h1⟩ := onS_name h1
    rw [hx]
    rcases not_comp h2 with hn | ⟨n, elt, it, cond, rfl⟩
    · exact s_assign a.ok a.full h1 hn (sE K c true cx _ a.at h2).1
    · obtain ⟨x', px', iter, ifs, e', scope, p, he, hq, hn, CO, hne, hit, hcond, helt⟩ := inv_comp h2
      rw [he]
      exact s_assign_comp a.ok a.full h1 CO ⟨fun cx' c' t' a' n' k' => (sE K elt false cx' e' ⟨t'.trans a.t, a'.trans a.a, c', fun e => nomatch e⟩ (by rw [n', k']; exact helt)).1.d,
        fun cx' c' t' a' n' k' => sC K cond false cx' ifs ⟨t'.trans a.t, a'.trans a.a, c', fun e => nomatch e⟩ (by rw [n', k']; exact hcond)⟩ hn ((sI K it true cx iter a.at hit).1 hne) (plainX.folded (mI_plain hit) cx.env)
  | .unpack is c, cx, t, a, h => by
    obtain ⟨v, h1, g⟩ := onS_true h
    obtain ⟨pos, rfl⟩ := asAssign_eq h1
    obtain ⟨g, h3⟩ := and2 g
    obtain ⟨h1, h2⟩ := and2 g
    obtain ⟨ts, h4, h1⟩ := onS_true h1
    obtain ⟨k, tp, h4⟩ := asTup_eq h4
    obtain ⟨y, hy⟩ := Option.isSome_iff_exists.mp h2
    obtain ⟨p, hy⟩ := asName_eq hy
    rw [h4, hy]
    rw [hy] at h3
    exact s_unpack a.ok a.full h1 (sE K c true cx _ a.at h3).1.d
  | .setidx i k w, cx, t, a, h => by
    obtain ⟨v, h1, g⟩ := onS_true h
    obtain ⟨pos, rfl⟩ := asAssign_eq h1
    obtain ⟨u, h2, g⟩ := onS_true g
    obtain ⟨sp, h2⟩ := asSub_eq h2
    obtain ⟨g, h6⟩ := and2 g
    obtain ⟨g, h5⟩ := and2 g
    obtain ⟨h3, h4⟩ := and2 g
    obtain ⟨y, py, hy, h3⟩ := onS_name h3
    rw [h2, hy]
    exact s_setidx a.ok h3 h6 (sE K w true cx _ a.at h5).1.d fun cx' l => (sE K k true cx' _ (a.at.like l) (by rw [l.2.2.1, l.2.2.2.1]; exact h4)).1.d
  | .append i c, cx, t, a, h => by
    obtain ⟨e, h1, g⟩ := onS_true h
    obtain ⟨pos, rfl⟩ := asExprS_eq h1
    obtain ⟨v, ap, args, p, he, h1, g⟩ := onS_meth g
    obtain ⟨h2, h3⟩ := and2 g
    obtain ⟨y, py, hy, h2⟩ := onS_name h2
    obtain ⟨x, hx, h3⟩ := onS_one h3
    rw [he, hy, hx]
    exact s_append a.ok h2 (plainX.star (mE_plain h3)) h1 fun cx' l => (sE K c true cx' x (a.at.like l) (by rw [l.2.2.1, l.2.2.2.1]; exact h3)).1.d
  | .drop c, cx, t, a, h => by
    obtain ⟨e, h1, g⟩ := onS_true h
    obtain ⟨pos, rfl⟩ := asExprS_eq h1
    obtain ⟨h1, h2⟩ := and2 g
    exact s_drop a.ok h2 (sE K c true cx e a.at h1).1.d
  | .ret c, cx, t, a, h => by
    obtain ⟨e, h1, g⟩ := onS_true h
    obtain ⟨pos, rfl⟩ := asRet_eq h1
    exact s_ret (sE K c true cx e a.at g).1
  | .iff c x y, cx, t, a, h => by
    obtain ⟨v, h1, g⟩ := onS_true h
    obtain ⟨pos, rfl⟩ := asIf_eq h1
    obtain ⟨g, h3⟩ := and2 g
    obtain ⟨h1, h2⟩ := and2 g
    exact s_iff (sE K c true cx _ a.at h1).2 (sSs K x cx _ a h2) (sSs K y cx _ a h3)
  | .loop tg it body, cx, t, a, h => by
    obtain ⟨⟨te, iter, bd⟩, h1, g⟩ := onS_true h
    obtain ⟨pos, rfl⟩ := asFor_eq h1
    obtain ⟨g, h4⟩ := and2 g
    obtain ⟨g, h3⟩ := and2 g
    obtain ⟨h1, h2⟩ := and2 g
    dsimp only at h1 h2 h3
    have hsf : SF Γ cx it iter te := by
      cases hne : notEnum it with
      | true => exact ((sI K it true cx iter a.at h2).1 hne).sf a.ok a.full te
      | false =>
        rw [hne] at h4
        cases tg with
        | one i => exact no h4
        | many is => cases te with
          | Tuple ts k p => exact (sI K it true cx iter a.at h2).2 a.full ts k p
          | _ => exact no h1
    exact s_loop a.ok a.full h1 (plainX.folded (mI_plain h2) cx.env) hsf fun cx' l Fu => sSs K body cx' bd ⟨l.1.trans a.t, l.2.1.trans a.a, a.ok.like l, Fu⟩ (by rw [l.2.2.1, l.2.2.2.1]; exact h3)
  | .raise k, cx, t, a, h => fun st G s M Q E ns hok hex => (ns rfl).elim
theorem sSs {Γ : Nat → Fn} {ft : Nat → Option Str} {T : Tp} {A : Around} (K : Base Γ ft T A) : ∀ (c : CSs) (cx : Cx) (t : List Stmt), AtS T A cx → mSs true ft cx.nm cx.env.scope.names c t = true → SSs Γ cx c t
  | .nil, cx, t, a, h => by
    cases t with
    | nil => exact ss_nil
    | cons _ _ => exact no h
  | .cons c r, cx, t, a, h => by
    cases t with
    | nil => exact no h
    | cons t ts =>
      obtain ⟨h1, h2⟩ := and2 h
      exact ss_cons (sS K c cx t a h1) (sSs K r cx ts a h2)
end
end Mine
end

section
open PySem PySem.Calls PyProof.Rows
set_option Elab.async false
set_option linter.unusedVariables false
namespace Mine

/-! the defs of a text -/

structure FnDef where
  name : Str
  ps : List Str
  vs : List Str
  body : CSs

noncomputable def Gam (P : List (Nat × FnDef)) : Nat → Nat → Fn
  | 0, _ => fun _ => .stuck
  | n + 1, k => match P.lookup k with
    | some d => runDef (Gam P n) d.ps.length d.vs.length d.body
    | none => fun _ => .stuck

noncomputable def ftOf (P : List (Nat × FnDef)) (k : Nat) : Option Str := (P.lookup k).map (·.name)

structure FnAt (T : Tp) (ft : Nat → Option Str) (d : FnDef) (f : Addr) (o : Obj) (fd : FuncData) (body : List Stmt) : Prop where
  mg : T.mg d.name = some (.ref f)
  at_ : T.GT f = some o
  data : o.data = .func fd
  code : ∀ h, T.GT.In h → h.CodeRec fd.code fd.qualname
  bd : fd.body = .stmts body
  clo : fd.closure = []
  gl : fd.globals = mainGlobals
  bl : fd.builtins = builtinsNs
  co : fd.scope.isCoroutine = false
  gen : fd.scope.isGenerator = false
  kind : fd.scope.kind = .function
  bind : ∀ vs, vs.length = d.ps.length → bindArgs fd ⟨vs, []⟩ = pure (d.ps.zip vs)
  par : ∀ p ∈ d.ps, fd.scope.names.lookup p = some .local ∨ fd.scope.names.lookup p = some .cell
  nodup : (d.ps ++ d.vs).Nodup
  cells : ((cellsFrom 0 fd.scope.names []).map (·.1)).Nodup
  text : mSs true ft (d.ps ++ d.vs) fd.scope.names d.body body = true

structure Room (n : Nat) (A : Around) : Prop where
  hand : A.handled = none
  units : A.units + 3 * n + 200 < cLine
  depth : A.depth + n + 20 < recursionLimit

theorem cellsFrom_fst : ∀ (names : List (Str × NameKind)) (n m : Nat) (acc acc' : List (Str × Addr)), acc.map (·.1) = acc'.map (·.1) → (cellsFrom n names acc).map (·.1) = (cellsFrom m names acc').map (·.1)
  | [], n, m, acc, acc', h => h
  | (y, k) :: r, n, m, acc, acc', h => by
    unfold cellsFrom
    split
    · exact cellsFrom_fst r _ _ _ _ (by simp [h])
    · exact cellsFrom_fst r _ _ _ _ h

noncomputable def names_lookup_tail (x y : Str) (k : NameKind) (r : List (Str × NameKind)) : Prop := ((y, k) :: r).lookup x = some .cell → (x = y ∧ k = .cell) ∨ r.lookup x = some .cell
theorem cells_mem {x : Str} : ∀ (names : List (Str × NameKind)) (n : Nat) (acc : List (Str × Addr)), names.lookup x = some .cell ∨ (∃ c, (x, c) ∈ acc) → ∃ c, (x, c) ∈ cellsFrom n names acc
  | [], _, _, h => h.elim (fun e => nomatch e) id
  | (y, k) :: r, n, acc, h => by
    unfold cellsFrom
    have step : names_lookup_tail x y k r := fun e => by
      rw [List.lookup_cons] at e
      cases hb : x == y with
      | true => rw [hb] at e; exact .inl ⟨eq_of_beq hb, Option.some.inj e⟩
      | false => rw [hb] at e; exact .inr e
    split
    · rename_i hk
      refine cells_mem r (n + 1) _ ?_
      rcases h with h | ⟨c, h⟩
      · rcases step h with ⟨rfl, _⟩ | h
        · exact .inr ⟨n, .head _⟩
        · exact .inl h
      · exact .inr ⟨c, .tail _ h⟩
    · rename_i hk
      refine cells_mem r n acc ?_
      rcases h with h | h
      · rcases step h with ⟨_, rfl⟩ | h
        · exact absurd rfl hk
        · exact .inl h
      · exact .inr h
theorem lookup_mem {x : Str} {c : Addr} : ∀ {l : List (Str × Addr)}, (x, c) ∈ l → (l.lookup x).isSome = true
  | (y, d) :: r, h => by
    rw [List.lookup_cons]
    cases hb : x == y with
    | true => rfl
    | false =>
      rcases List.mem_cons.mp h with e | h
      · cases e; simp at hb
      · exact lookup_mem h
theorem cells_some {x : Str} (names : List (Str × NameKind)) (n : Nat) (acc : List (Str × Addr)) (h : names.lookup x = some .cell ∨ ∃ c, (x, c) ∈ acc) : ((cellsFrom n names acc).lookup x).isSome = true :=
  let ⟨_, h⟩ := cells_mem names n acc h; lookup_mem h
theorem kinds_of {scope : Scope} {binds : List (Str × Value)} (e : (binds.all fun y => scope.names.lookup y.1 == some .local || scope.names.lookup y.1 == some .cell) = true) (n : Nat) :
    ∀ x ∈ binds, scope.names.lookup x.1 = some .local ∨ (scope.names.lookup x.1 = some .cell ∧ ((cellsFrom n scope.names []).lookup x.1).isSome = true) := fun x hx => by
  have q := List.all_eq_true.mp e x hx
  simp only [Bool.or_eq_true, beq_iff_eq] at q
  exact q.imp id fun q => ⟨q, cells_some _ _ _ (.inl q)⟩

theorem lookup_nodup {l : List (Str × Addr)} (hn : (l.map (·.1)).Nodup) {y : Str} {c : Addr} (h : (y, c) ∈ l) : l.lookup y = some c := by
  induction l with
  | nil => cases h
  | cons p r ih =>
    obtain ⟨z, d⟩ := p
    rw [List.map_cons, List.nodup_cons] at hn
    rcases List.mem_cons.mp h with e | h'
    · cases e; simp [List.lookup]
    · have hne : y ≠ z := fun e => hn.1 (by subst e; exact List.mem_map.mpr ⟨_, h', rfl⟩)
      have : (y == z) = false := by simp [hne]
      rw [List.lookup_cons, this]
      exact ih hn.2 h'

theorem bindL_other {kindOf : Str → Option NameKind} {y : Str} : ∀ (ps : List Str) (vs : List Value) (m : Str → Option Value), y ∉ ps → bindL kindOf (ps.zip vs) m y = m y
  | [], _, m, _ => rfl
  | p :: ps, [], m, _ => rfl
  | p :: ps, v :: vs, m, h => by
    have h1 : y ≠ p := fun e => h (e ▸ .head _)
    have h2 : y ∉ ps := fun e => h (.tail _ e)
    rw [List.zip_cons_cons, bindL, bindL_other ps vs _ h2]
    split
    · exact if_neg h1
    · rfl
theorem bindC_other {kindOf : Str → Option NameKind} {y : Str} : ∀ (ps : List Str) (vs : List Value) (m : Str → Option Value), y ∉ ps → bindC kindOf (ps.zip vs) m y = m y
  | [], _, m, _ => rfl
  | p :: ps, [], m, _ => rfl
  | p :: ps, v :: vs, m, h => by
    have h1 : y ≠ p := fun e => h (e ▸ .head _)
    have h2 : y ∉ ps := fun e => h (.tail _ e)
    rw [List.zip_cons_cons, bindC, bindC_other ps vs _ h2]
    split
    · rfl
    · exact if_neg h1
theorem bindL_at {kindOf : Str → Option NameKind} : ∀ (ps : List Str) (vs : List Value) (m : Str → Option Value) (i : Nat) (y : Str) (v : Value), ps.Nodup → ps[i]? = some y → vs[i]? = some v → kindOf y = some .local → bindL kindOf (ps.zip vs) m y = some v
  | [], _, _, _, _, _, _, h, _, _ => by simp at h
  | p :: ps, [], _, i, _, _, _, _, h, _ => by simp at h
  | p :: ps, v' :: vs, m, 0, y, v, hn, h1, h2, hk => by
    simp only [List.getElem?_cons_zero, Option.some.injEq] at h1 h2
    subst h1 h2
    rw [List.zip_cons_cons, bindL, bindL_other ps vs _ (List.nodup_cons.mp hn).1, if_pos hk, if_pos rfl]
  | p :: ps, v' :: vs, m, i + 1, y, v, hn, h1, h2, hk => by
    rw [List.zip_cons_cons, bindL]
    exact bindL_at ps vs _ i y v (List.nodup_cons.mp hn).2 (by simpa using h1) (by simpa using h2) hk
theorem bindC_at {kindOf : Str → Option NameKind} : ∀ (ps : List Str) (vs : List Value) (m : Str → Option Value) (i : Nat) (y : Str) (v : Value), ps.Nodup → ps[i]? = some y → vs[i]? = some v → kindOf y = some .cell → bindC kindOf (ps.zip vs) m y = some v
  | [], _, _, _, _, _, _, h, _, _ => by simp at h
  | p :: ps, [], _, i, _, _, _, _, h, _ => by simp at h
  | p :: ps, v' :: vs, m, 0, y, v, hn, h1, h2, hk => by
    simp only [List.getElem?_cons_zero, Option.some.injEq] at h1 h2
    subst h1 h2
    rw [List.zip_cons_cons, bindC, bindC_other ps vs _ (List.nodup_cons.mp hn).1, if_neg (by rw [hk]; decide), if_pos rfl]
  | p :: ps, v' :: vs, m, i + 1, y, v, hn, h1, h2, hk => by
    rw [List.zip_cons_cons, bindC]
    exact bindC_at ps vs _ i y v (List.nodup_cons.mp hn).2 (by simpa using h1) (by simpa using h2) hk

theorem slot_start {ds : List PyData} {nv i : Nat} {f : F} (h : slot (ds.map (fun d => some (.val d)) ++ List.replicate nv none) i = some f) : ∃ d, ds[i]? = some d ∧ f = .val d := by
  unfold slot at h
  rcases Nat.lt_or_ge i ds.length with q | q
  · rw [List.getElem?_append_left (by simpa using q), List.getElem?_map, List.getElem?_eq_getElem q] at h
    simp only [Option.map_some, Option.join_some, Option.some.injEq] at h
    exact ⟨ds[i], List.getElem?_eq_getElem q, h.symm⟩
  · rw [List.getElem?_append_right (by simpa using q)] at h
    cases e : (List.replicate nv (none : Option F))[i - (ds.map (fun d => some (F.val d))).length]? with
    | none => rw [e] at h; cases h
    | some x =>
      rw [e] at h
      have := List.mem_of_getElem? e
      rw [List.mem_replicate] at this
      rw [this.2] at h; cases h

theorem RepAll.get2 {G : GM} : ∀ {vs : List Value} {ds : List PyData} (h : RepAll G vs ds) {i : Nat} {d : PyData} (hd : ds[i]? = some d), ∃ v, vs[i]? = some v ∧ Rep G v d
  | _, _, .nil, i, d, hd => by simp at hd
  | _, _, .cons r h, 0, d, hd => by simp at hd; subst hd; exact ⟨_, rfl, r⟩
  | _, _, .cons r h, i + 1, d, hd => by simpa using h.get2 (by simpa using hd)

theorem fn_all {T : Tp} {P : List (Nat × FnDef)} (TO : T.Ok) (hP : ∀ (k : Nat) (d : FnDef), P.lookup k = some d → ∃ f o fd body, FnAt T (ftOf P) d f o fd body) :
    ∀ (n k : Nat) (d : FnDef) (f : Addr) (o : Obj) (fd : FuncData) (body : List Stmt) (A : Around), P.lookup k = some d → FnAt T (ftOf P) d f o fd body → Room n A → FnOkAt T f (Gam P n k) A
  | 0, k, d, f, o, fd, body, A, hk, hf, hR => fun s G vs ds r _ _ _ h => by cases h
  | n + 1, k, d, f, o, fd, body, A, hk, hf, hR => fun s G vs ds r hGT hGin hrep hret => by
    have hret' : runDef (Gam P n) d.ps.length d.vs.length d.body ds = .ret r := by
      have : Gam P (n + 1) k = runDef (Gam P n) d.ps.length d.vs.length d.body := by rw [Gam, hk]
      rw [← this]; exact hret
    unfold runDef at hret'
    split at hret'
    case isFalse => cases hret'
    rename_i hdl
    have hvl : vs.length = d.ps.length := by rw [hrep.length, hdl]
    have hTin : T.GT.In s.heap := fun b o e => hGin b o (hGT b o e)
    have hkindB : ((d.ps.zip vs).all fun y => fd.scope.names.lookup y.1 == some .local || fd.scope.names.lookup y.1 == some .cell) = true := by
      rw [List.all_eq_true]
      intro x hx
      have := hf.par x.1 (List.of_mem_zip hx).1
      rcases this with q | q <;> simp [q]
    refine codeAny_call_cells (by have := hR.depth; omega) (hGin _ _ (hGT _ _ hf.at_)) hf.data (TO.lim _ hTin) (hf.code _ hTin) hf.bd (hf.bind vs hvl) hf.clo (kinds_of hkindB _) (fun s₁ X => ?_) hf.co hf.gen hf.kind
    generalize hE : callEnvC fd s.heap.objs.size f = env at X ⊢
    have eL : env.locals = s.heap.objs.size := by rw [← hE]; rfl
    have eC : env.cells = cellsFrom (s.heap.objs.size + 1) fd.scope.names [] := by rw [← hE]; rfl
    have eS : env.scope = fd.scope := by rw [← hE]; rfl
    have eG : env.globals = mainGlobals := by rw [← hE]; exact hf.gl
    have eB : env.builtins = builtinsNs := by rw [← hE]; exact hf.bl
    have hcn : (env.cells.map (·.1)).Nodup := by
      rw [eC, cellsFrom_fst fd.scope.names _ 0 [] [] rfl]; exact hf.cells
    have hps : d.ps.Nodup := (List.nodup_append.mp hf.nodup).1
    obtain ⟨h₁, tk₁, hs₁, hk₁⟩ := X.done
    have hh₁ : s₁.heap = h₁ := by rw [hs₁]
    have hns := X.toInCall.ns
    have fresh : ∀ b, s.heap.objs.size ≤ b → G b = none := fun b hb => by
      cases q : G b with
      | none => rfl
      | some o => have := hGin b o q; rw [none_at _ hb] at this; cases this
    let cx : Cx := { T := T, A := A.deeper env, env := env, nm := d.ps ++ d.vs, priv := env.locals :: env.cells.map (·.2), prot := fun b => s.heap.get? b, G₀ := G, lo := s.heap.objs.size, s₀ := s }
    have hab : ∀ y c, (y, c) ∈ env.cells → s.heap.objs.size < c := fun y c hc => by have := X.above y c hc; rwa [eL] at this
    have hpriv : ∀ p ∈ cx.priv, s.heap.objs.size ≤ p ∧ (s₁.heap.get? p).isSome = true := fun p hp => by
      rcases List.mem_cons.mp hp with rfl | hp
      · rw [eL] at hns ⊢
        obtain ⟨o', _, _, ho', _⟩ := hns
        exact ⟨Nat.le_refl _, by rw [ho']; rfl⟩
      · obtain ⟨⟨y, c⟩, hc, rfl⟩ := List.mem_map.mp hp
        obtain ⟨o', ho', _⟩ := X.cell y c (lookup_nodup hcn hc)
        exact ⟨Nat.le_of_lt (hab y c hc), by rw [ho']; rfl⟩
    have Fu : cx.Full := by
      refine ⟨.head _, fun y c hc => .tail _ (List.mem_map.mpr ⟨_, hc, rfl⟩), fun y c hc => ?_, fun y z c h1 h2 => name_of_addr X.apart h1 h2, fun i j y h1 h2 => ?_, fun p hp => none_at _ (hpriv p hp).1, fun y hy => ?_⟩
      · show c ≠ env.locals
        rw [eL]; exact Nat.ne_of_gt (hab y c hc)
      · have h1' := List.getElem?_eq_some_iff.mp h1
        have h2' := List.getElem?_eq_some_iff.mp h2
        obtain ⟨l1, e1⟩ := h1'
        obtain ⟨l2, e2⟩ := h2'
        exact (List.getElem_inj hf.nodup).mp (e1.trans e2.symm)
      · show ∃ c, env.cells.lookup y = some c
        rw [eC]
        refine Option.isSome_iff_exists.mp (cells_some _ _ _ (.inl ?_))
        have hy' : env.scope.names.lookup y = some .cell := hy
        rw [eS] at hy'
        exact hy'
    have Cok : cx.Ok := ⟨by show env.scope.kind = _; rw [eS]; exact hf.kind, eG, eB, hGT, hR.hand, by show A.units + 3 + 200 < cLine; have := hR.units; omega, by show A.depth + 1 + 20 < recursionLimit; have := hR.depth; omega⟩
    have M : Sim cx G (ds.map (fun d => some (.val d)) ++ List.replicate d.vs.length none) none s₁ := by
      refine ⟨⟨h₁, tk₁, hs₁⟩, fun b o e => by rw [hh₁]; exact hk₁ b o e, GM.le_refl _, fun b o e => by rw [hh₁]; exact hk₁ b o (hGin b o e), fun b o e => .inl e, ?_, fun p hp => ⟨fresh p (hpriv p hp).1, (hpriv p hp).1, (hpriv p hp).2⟩, ⟨_, hns⟩,
        fun y c hc => ⟨_, X.cell y c (lookup_nodup hcn hc)⟩, fun _ => 0, ?_, ?_, ?_, fun a e => by cases e⟩
      · obtain ⟨o', _, _, ho', _⟩ := hns
        have := Heap.lt_size ho'
        rw [eL] at this
        exact Nat.le_of_lt this
      · intro i g y h1 h2 h3
        obtain ⟨d', hd, rfl⟩ := slot_start h1
        have hi : i < d.ps.length := by
          have := List.getElem?_eq_some_iff.mp hd
          obtain ⟨l, _⟩ := this
          omega
        have h2' : d.ps[i]? = some y := by
          have : (d.ps ++ d.vs)[i]? = some y := h2
          rwa [List.getElem?_append_left hi] at this
        obtain ⟨v, hv, hr⟩ := hrep.get2 hd
        refine ⟨v, ?_, hr⟩
        rcases h3 with h3 | h3
        · exact .inl ⟨h3, _, hns, bindL_at d.ps vs _ i y v hps h2' hv h3⟩
        · obtain ⟨c, hc⟩ := Fu.has y h3
          refine .inr ⟨h3, c, hc, ?_⟩
          have hX := X.cell y c hc
          rwa [bindC_at d.ps vs _ i y v hps h2' hv h3] at hX
      · intro i xs h1
        obtain ⟨d', _, q⟩ := slot_start h1; cases q
      · intro i j xs ys h1
        obtain ⟨d', _, q⟩ := slot_start h1; cases q
    have hRoom : Room n (A.deeper env) := ⟨hR.hand, by show A.units + 3 + 3 * n + 200 < cLine; have := hR.units; omega, by show A.depth + 1 + n + 20 < recursionLimit; have := hR.depth; omega⟩
    have K : Base (Gam P n) (ftOf P) T (A.deeper env) := ⟨TO, fun cx' h1 h2 k' name hk' => by
      unfold ftOf at hk'
      cases hd : P.lookup k' with
      | none => rw [hd] at hk'; cases hk'
      | some d' =>
        rw [hd] at hk'
        cases hk'
        obtain ⟨f', o', fd', body', hf'⟩ := hP k' d' hd
        rw [h1, h2]
        exact ⟨f', o', fd', hf'.mg, hf'.at_, hf'.data, fn_all TO hP n k' d' f' o' fd' body' (A.deeper env) hd hf' hRoom⟩⟩
    have body_ok := sSs K d.body cx body ⟨rfl, rfl, Cok, Fu⟩ (by show mSs true (ftOf P) (d.ps ++ d.vs) env.scope.names d.body body = true; rw [eS]; exact hf.text) _ G s₁ M
    have fin : ∀ {st' : St} {G' : GM} {s' : Shared} {x : Option Addr}, Sim cx G' st' x s' → After s G s' G' x := fun {st' G' s' x} M' => by
      obtain ⟨ad, V⟩ := M'.vals
      exact ⟨M'.shr, fun b o e => M'.keep b o e, M'.size, M'.gle, M'.gin, fun b o e => M'.gnew b o e, fun a e => ⟨(V.ex a e).1.1.2.2.2, (V.ex a e).1.1.2.1, (V.ex a e).1.2⟩⟩
    cases hex : exs (Gam P n) d.body (ds.map (fun d => some (.val d)) ++ List.replicate d.vs.length none) with
    | stuck => rw [hex] at hret'; cases hret'
    | exc j st' => rw [hex] at hret'; cases hret'
    | ok p =>
      obtain ⟨fl, st'⟩ := p
      rw [hex] at hret' body_ok
      refine body_ok _ _ (by simp) (fun b st₂ e₂ G₂ s₂ v x₂ l₂ M₂ r₂ => ?_) (fun j st₂ e₂ => by cases e₂)
      obtain ⟨rfl, rfl⟩ := Prod.mk.inj (R.ok.inj e₂)
      cases fl with
      | next =>
        obtain ⟨rfl, rfl⟩ := r₂
        cases hret'
        exact ⟨.none, none, G₂, rfl, fin M₂, ⟨rfl, .none⟩⟩
      | ret g =>
        obtain ⟨v', rfl, hr⟩ := r₂
        cases hret'
        exact ⟨v', x₂, G₂, rfl, fin M₂, hr⟩
end Mine
end

section
open PySem PySem.Calls PyProof.Rows PySem.W
set_option Elab.async false
set_option linter.unusedVariables false
namespace Mine

/-! what the text's top gives -/

theorem bind_plain {fd : FuncData} {ps : List Str} {vs : List Value} (h1 : fd.params.posonlyargs = []) (h2 : fd.params.args.map (·.arg) = ps) (h3 : fd.params.vararg = none) (h4 : fd.params.kwonlyargs = []) (h5 : fd.params.kwarg = none) (h6 : fd.defaults = .none)
    (hn : ps.Nodup) (hl : vs.length = ps.length) : bindArgs fd ⟨vs, []⟩ = pure (ps.zip vs) := by
  have look : ∀ (ps : List Str) (vs : List Value), ps.Nodup → vs.length = ps.length → (∀ p ∈ ps, ((ps.zip vs).lookup p).isSome = true) ∧ (ps.filterMap fun n => ((ps.zip vs).lookup n).map fun v => (n, v)) = ps.zip vs := by
    intro ps
    induction ps with
    | nil => intro vs _ _; exact ⟨fun p hp => (nomatch hp), rfl⟩
    | cons p ps ih =>
      intro vs hn hl
      cases vs with
      | nil => simp at hl
      | cons v vs =>
        obtain ⟨hp, hn⟩ := List.nodup_cons.mp hn
        obtain ⟨i1, i2⟩ := ih vs hn (by simpa using hl)
        have ne : ∀ q ∈ ps, (q == p) = false := fun q hq => by
          have : q ≠ p := fun e => hp (e ▸ hq)
          simp [this]
        refine ⟨fun q hq => ?_, ?_⟩
        · rcases List.mem_cons.mp hq with rfl | hq
          · simp [List.lookup]
          · rw [List.zip_cons_cons, List.lookup_cons, ne q hq]; exact i1 q hq
        · rw [List.zip_cons_cons, List.filterMap_cons]
          have e0 : (List.lookup p ((p, v) :: ps.zip vs)) = some v := by simp [List.lookup]
          rw [e0]
          simp only [Option.map_some]
          congr 1
          have aux : ∀ (l : List Str), (∀ q ∈ l, (q == p) = false) → (l.filterMap fun n => (List.lookup n ((p, v) :: ps.zip vs)).map fun v => (n, v)) = l.filterMap fun n => (List.lookup n (ps.zip vs)).map fun v => (n, v) := by
            intro l
            induction l with
            | nil => intro _; rfl
            | cons q l ih =>
              intro h
              rw [List.filterMap_cons, List.filterMap_cons, ih fun q hq => h q (.tail _ hq), List.lookup_cons, h q (.head _)]
          exact (aux ps ne).trans i2
  obtain ⟨l1, l2⟩ := look ps vs hn hl
  have miss : (ps.filter fun n => ((ps.zip vs).lookup n).isNone) = [] := by
    rw [List.filter_eq_nil_iff]
    intro p hp
    have := l1 p hp
    cases e : (ps.zip vs).lookup p with
    | none => rw [e] at this; cases this
    | some v => simp
  have hlen : ¬ (vs.length > ps.length) := by omega
  unfold bindArgs
  simp only [h1, h2, h3, h4, h5, h6, List.map_nil, List.nil_append, List.append_nil, List.forIn_nil, pure_bind]
  have hd : seqItems? Value.none = pure none := rfl
  simp only [hd, pure_bind, Option.getD_none, hlen, Option.isNone_none, List.drop_nil, List.length_nil, Nat.sub_zero, List.take_length, miss, List.isEmpty_nil, Bool.not_true, Bool.false_eq_true, if_false, decide_false, Bool.false_and, List.zip_nil_right, List.forIn_nil, l2]

noncomputable def plainPs (a : Arguments) : Bool := a.posonlyargs.isEmpty && a.vararg.isNone && a.kwonlyargs.isEmpty && a.kwarg.isNone

noncomputable def chk (ft : Nat → Option Str) (d : FnDef) (r : DefRec) : Bool :=
  r.name == d.name && plainPs r.params && r.params.args.map (·.arg) == d.ps && !r.scope.isCoroutine && !r.scope.isGenerator && decide (r.scope.kind = .function) &&
  d.ps.all (fun p => r.scope.names.lookup p == some .local || r.scope.names.lookup p == some .cell) && decide (d.ps ++ d.vs).Nodup && decide ((cellsFrom 0 r.scope.names []).map (·.1)).Nodup &&
  mSs true ft (d.ps ++ d.vs) r.scope.names d.body r.body

noncomputable def tpOf (prog : Program) (w : World) (h : Heap) (mg mb : Str → Option Value) : Tp := ⟨prog, w, fun b => h.get? b, mg, mb⟩

section
variable {prog p : Program} {w : World} {loose : List Str} {mean : ExcName → Option Value} {mg mb : Str → Option Value} {h : Heap} {K : Frag}

theorem fnAt_of {ft : Nat → Option Str} {d : FnDef} {r : DefRec} (T : Top p loose mean mg mb h) (hr : r ∈ recsOf p) (hc : chk ft d r = true) : ∃ f o fd body, FnAt (tpOf prog w h mg mb) ft d f o fd body := by
  unfold chk at hc
  obtain ⟨hc, c10⟩ := and2 hc
  obtain ⟨hc, c9⟩ := and2 hc
  obtain ⟨hc, c8⟩ := and2 hc
  obtain ⟨hc, c7⟩ := and2 hc
  obtain ⟨hc, c6⟩ := and2 hc
  obtain ⟨hc, c5⟩ := and2 hc
  obtain ⟨hc, c4⟩ := and2 hc
  obtain ⟨hc, c3⟩ := and2 hc
  obtain ⟨c1, c2⟩ := and2 hc
  unfold plainPs at c2
  simp only [Bool.and_eq_true, List.isEmpty_iff, Option.isNone_iff_eq_none] at c2
  obtain ⟨⟨⟨p1, p2⟩, p3⟩, p4⟩ := c2
  obtain ⟨f, o, pm, code, doc, h1, h2, h3, h4⟩ := T.fn r hr
  have hn : r.name = d.name := eq_of_beq c1
  have nd : (d.ps ++ d.vs).Nodup := of_decide_eq_true c8
  refine ⟨f, o, docDef r.name r.params r.body r.scope pm code doc, r.body, by rw [← hn]; exact h1, h2, h3, fun h' hh => h4.keeps fun b o e => hh b o e, rfl, rfl, rfl, rfl, (by simpa using c4 : r.scope.isCoroutine = false), (by simpa using c5 : r.scope.isGenerator = false), of_decide_eq_true c6,
    fun vs hl => bind_plain p1 (eq_of_beq c3) p2 p3 p4 rfl (List.nodup_append.mp nd).1 hl, fun q hq => ?_, nd, of_decide_eq_true c9, c10⟩
  have := List.all_eq_true.mp c7 q hq
  exact (by simpa using this : r.scope.names.lookup q = some .local ∨ r.scope.names.lookup q = some .cell)

noncomputable def biOk (p : Program) (loose : List Str) : Bool := biTab.all fun x => !startupNames.contains x.1 && !loose.contains x.1 && !((recsOf p).map (·.name)).contains x.1 && !((litsOf p).map (·.1)).contains x.1 && !((clssOf p loose).map (·.name)).contains x.1

theorem bi_boot : ∀ q ∈ biTab, q.1 ≠ ("__name__" : Str) ∧ bootBuiltins q.1 = some q.2 := by
  unfold biTab
  intro q hq
  simp only [List.mem_cons, List.not_mem_nil, or_false] at hq
  rcases hq with rfl | rfl | rfl | rfl | rfl | rfl | rfl | rfl | rfl | rfl | rfl <;> exact ⟨by decide +kernel, by decide +kernel⟩

theorem rep_lit {v : Value} {d : PyData} (h : ∀ h' : Heap, Reads h' v d []) (hd : (∃ i, d = .int i) ∨ ∃ x, d = .str x) : Rep (fun _ => none) v d := by
  have := h {}
  rcases hd with ⟨i, rfl⟩ | ⟨x, rfl⟩
  · cases this; exact .int ..
  · cases this; exact .str ..

theorem opn_of {a : Addr} {n : Nat} {h1 h2 h3 : Int} {t1 t2 t3 u1 u2 u3 : Tok} {k1 k2 k3 v1 v2 v3 : Str} (X : K.In h) (G : h.Ns mainGlobals mg) (e : nsIn K mainGlobals "OPENING" = some (some (.ref a)))
    (hl : K.lookup a = some ⟨.type "dict", none, .dict #[⟨h1, .str k1 t1, .str v1 u1⟩, ⟨h2, .str k2 t2, .str v2 u2⟩, ⟨h3, .str k3 t3, .str v3 u3⟩] n, #[]⟩)
    (hk : KeysLit w.params [⟨h1, .str k1 t1, .str v1 u1⟩, ⟨h2, .str k2 t2, .str v2 u2⟩, ⟨h3, .str k3 t3, .str v3 u3⟩])
    (c1 : k1 = S [41]) (c2 : k2 = S [93]) (c3 : k3 = S [125]) (d1 : v1 = S [40]) (d2 : v2 = S [91]) (d3 : v3 = S [123]) (hs : (a == sysModules) = false) :
    ∃ a m, mg "OPENING" = some (.ref a) ∧ (a == sysModules) = false ∧ (∀ h' : Heap, GM.In (fun b => h.get? b) h' → h'.MapOf (strKind prog w) a m) ∧
      ∀ x, (∀ y, openF x = some y → ∃ t, m x = some (.str y t)) ∧ (openF x = none → m x = none) := by
  refine ⟨a, _, mg_of X G e, hs, fun h' hh => mapOf_K (prog := prog) (X.keeps fun b o e => hh b o e) hl hk, fun x => ?_⟩
  subst c1 c2 c3 d1 d2 d3
  have key : ∀ l : List Nat, (S l == x) = decide (cs x = l) := fun l => by
    cases hx : decide (cs x = l) with
    | true => have := of_decide_eq_true hx; subst this; simp
    | false =>
      have := of_decide_eq_false hx
      have hne : S l ≠ x := fun e => this (by rw [← e]; simp)
      simp [hne]
  unfold findBy openF
  rw [List.find?_toArray]
  simp only [List.find?, Value.isStrOf, key]
  by_cases e1 : cs x = [41]
  · simp [e1]
  · by_cases e2 : cs x = [93]
    · simp [e2]
    · by_cases e3 : cs x = [125]
      · simp [e3]
      · simp [e1, e2, e3]

theorem top_ok (T : Top p loose mean mg mb h) (hb : biOk p loose = true) (g0 : valOf p "MOST_ROWS" = some (.int 64)) (g1 : valOf p "MOST_SIGNS" = some (.int 120)) (g2 : valOf p "OPENERS" = some (.str (S [40, 91, 123])))
    (ho : ∃ a m, mg "OPENING" = some (.ref a) ∧ (a == sysModules) = false ∧ (∀ h' : Heap, GM.In (fun b => h.get? b) h' → h'.MapOf (strKind prog w) a m) ∧
      ∀ x, (∀ y, openF x = some y → ∃ t, m x = some (.str y t)) ∧ (openF x = none → m x = none)) : (tpOf prog w h mg mb).Ok := by
  refine ⟨fun h' hh => T.g.keeps hh, fun h' hh => T.b.keeps hh, fun h' hh => T.nolimit.keeps hh, fun k x d hk => ?_, fun x v hx => ?_, ho⟩
  · match k, hk with
    | 0, hk => cases hk; obtain ⟨v, h1, h2⟩ := T.const _ _ g0; exact ⟨v, h1, rep_lit h2 (.inl ⟨_, rfl⟩)⟩
    | 1, hk => cases hk; obtain ⟨v, h1, h2⟩ := T.const _ _ g1; exact ⟨v, h1, rep_lit h2 (.inl ⟨_, rfl⟩)⟩
    | 2, hk => cases hk; obtain ⟨v, h1, h2⟩ := T.const _ _ g2; exact ⟨v, h1, rep_lit h2 (.inr ⟨_, rfl⟩)⟩
    | k + 3, hk => cases hk
  · have hm := mem_of_lookup hx
    have hc := List.all_eq_true.mp hb _ hm
    simp only [Bool.and_eq_true, Bool.not_eq_true', List.contains_eq_mem, decide_eq_false_iff_not] at hc
    obtain ⟨⟨⟨⟨c1, c2⟩, c3⟩, c4⟩, c5⟩ := hc
    obtain ⟨b1, b2⟩ := bi_boot _ hm
    exact ⟨T.free x c1 c2 c3 c4 c5, (T.builtins x b1).trans b2⟩
end

end Mine
end

section
open PySem PySem.Calls PyProof.Rows
set_option Elab.async false
set_option linter.unusedVariables false
namespace Mine.L1

noncomputable def b_is_sign : CSs := (.cons (.ret (.and (.chain2 (.int 32) .LtE (.ord (.var 0)) .LtE (.int 126)) (.cmp .NotEq (.ord (.var 0)) (.int 37)))) .nil)
noncomputable def d_is_sign : FnDef := ⟨"is_sign", ["sign"], [], b_is_sign⟩
noncomputable def b_is_row : CSs := (.cons (.iff (.or (.not (.isinst (.var 0) .str)) (.cmp .Gt (.len (.var 0)) (.glob 1))) (.cons (.ret (.bool false)) .nil) .nil) (.cons (.loop (.one 1) (.data (.var 0)) (.cons (.iff (.not (.call 0 (.cons (.var 1) .nil))) (.cons (.ret (.bool false)) .nil) .nil) .nil)) (.cons (.ret (.bool true)) .nil)))
noncomputable def d_is_row : FnDef := ⟨"is_row", ["thing"], ["sign"], b_is_row⟩
noncomputable def b_is_text : CSs := (.cons (.iff (.not (.chain2 (.int 1) .LtE (.len (.var 0)) .LtE (.glob 0))) (.cons (.ret (.bool false)) .nil) .nil) (.cons (.loop (.one 1) (.data (.var 0)) (.cons (.iff (.not (.call 1 (.cons (.var 1) .nil))) (.cons (.ret (.bool false)) .nil) .nil) .nil)) (.cons (.ret (.bool true)) .nil)))
noncomputable def d_is_text : FnDef := ⟨"is_text", ["rows"], ["row"], b_is_text⟩
noncomputable def b_is_bracket : CSs := (.cons (.ret (.or (.cmp .In (.var 0) (.glob 2)) (.inOpen (.var 0)))) .nil)
noncomputable def d_is_bracket : FnDef := ⟨"is_bracket", ["sign"], [], b_is_bracket⟩
noncomputable def b_taken_apart : CSs := (.cons (.assign 1 (.lst .nil)) (.cons (.assign 2 .none) (.cons (.loop (.many [3, 4]) (.enum (.bin .Add (.var 0) (.str [32]))) (.cons (.assign 5 (.or (.cmp .Eq (.var 4) (.str [32])) (.call 3 (.cons (.var 4) .nil)))) (.cons (.iff (.and (.var 5) (.isNotNone (.var 2))) (.cons (.append 1 (.tup (.cons (.var 2) (.cons (.slc (.var 0) (.yes (.var 2)) (.yes (.var 3))) (.cons (.var 3) .nil))))) (.cons (.assign 2 .none) .nil)) .nil) (.cons (.iff (.call 3 (.cons (.var 4) .nil)) (.cons (.append 1 (.tup (.cons (.var 3) (.cons (.var 4) (.cons (.bin .Add (.var 3) (.int 1)) .nil))))) .nil) (.cons (.iff (.and (.not (.var 5)) (.isNone (.var 2))) (.cons (.assign 2 (.var 3)) .nil) .nil) .nil)) .nil)))) (.cons (.ret (.var 1)) .nil))))
noncomputable def d_taken_apart : FnDef := ⟨"taken_apart", ["row"], ["found", "begin", "place", "sign", "ends"], b_taken_apart⟩
noncomputable def b_lower : CSs := (.cons (.ret (.tup (.cons (.idx (.var 0) (.int 0)) (.cons (.bin .Add (.idx (.var 0) (.int 1)) (.var 1)) (.cons (.idx (.var 0) (.int 2)) .nil))))) .nil)
noncomputable def d_lower : FnDef := ⟨"lower", ["mark", "rows"], [], b_lower⟩
noncomputable def b_reading_of : CSs := (.cons (.assign 1 (.tup (.cons (.lst .nil) (.cons .none (.cons (.lst .nil) .nil))))) (.cons (.loop (.many [2, 3, 4]) (.data (.var 0)) (.cons (.iff (.call 3 (.cons (.var 3) .nil)) (.cons (.assign 5 (.tup (.cons (.var 3) (.cons (.int 0) (.cons (.var 2) .nil))))) (.cons (.assign 6 (.tup (.cons (.lst .nil) (.cons .none (.cons (.lst (.cons (.var 5) .nil)) .nil))))) (.cons (.iff (.inOpen (.var 3)) (.cons (.assign 6 (.tup (.cons (.lst (.cons (.var 5) .nil)) (.cons .none (.cons (.lst .nil) .nil))))) .nil) .nil) (.cons (.assign 1 (.call 7 (.cons (.var 1) (.cons (.var 6) (.cons (.int 0) .nil))))) .nil)))) .nil) .nil)) (.cons (.ret (.var 1)) .nil)))
noncomputable def d_reading_of : FnDef := ⟨"reading_of", ["triples"], ["reading", "place", "what", "behind", "mark", "one"], b_reading_of⟩
noncomputable def b_joined : CSs := (.cons (.unpack [3, 4, 5] (.var 0)) (.cons (.iff (.isNotNone (.var 4)) (.cons (.ret (.var 0)) .nil) .nil) (.cons (.assign 3 (.list (.var 3))) (.cons (.assign 5 (.list (.var 5))) (.cons (.loop (.one 6) (.data (.idx (.var 1) (.int 0))) (.cons (.iff (.eqNil 5) (.cons (.append 3 (.call 5 (.cons (.var 6) (.cons (.var 2) .nil)))) .nil) (.cons (.iff (.cmp .NotEq (.idx (.pop 5) (.int 0)) (.getOpen (.idx (.var 6) (.int 0)))) (.cons (.ret (.tup (.cons (.var 3) (.cons (.call 5 (.cons (.var 6) (.cons (.var 2) .nil))) (.cons (.lst .nil) .nil))))) .nil) .nil) .nil)) .nil)) (.cons (.iff (.isNotNone (.idx (.var 1) (.int 1))) (.cons (.ret (.tup (.cons (.var 3) (.cons (.call 5 (.cons (.idx (.var 1) (.int 1)) (.cons (.var 2) .nil))) (.cons (.lst .nil) .nil))))) .nil) .nil) (.cons (.ret (.tup (.cons (.var 3) (.cons .none (.cons (.bin .Add (.var 5) (.comp 7 (.call 5 (.cons (.var 7) (.cons (.var 2) .nil))) (.data (.idx (.var 1) (.int 2))) .no)) .nil))))) .nil)))))))
noncomputable def d_joined : FnDef := ⟨"joined", ["first", "second", "rows"], ["closing", "fault", "waiting", "mark"], b_joined⟩
noncomputable def b_fault_in : CSs := (.cons (.unpack [1, 2, 3] (.var 0)) (.cons (.iff (.neNil 1) (.cons (.ret (.tup (.cons (.idx (.idx (.var 1) (.int 0)) (.int 1)) (.cons (.idx (.idx (.var 1) (.int 0)) (.int 2)) (.cons (.str [99, 108, 111, 115, 101, 115, 32, 110, 111, 116, 104, 105, 110, 103]) .nil))))) .nil) .nil) (.cons (.iff (.isNotNone (.var 2)) (.cons (.ret (.tup (.cons (.idx (.var 2) (.int 1)) (.cons (.idx (.var 2) (.int 2)) (.cons (.str [99, 108, 111, 115, 101, 115, 32, 97, 110, 111, 116, 104, 101, 114]) .nil))))) .nil) .nil) (.cons (.iff (.neNil 3) (.cons (.ret (.tup (.cons (.idx (.idx (.var 3) (.neg (.int 1))) (.int 1)) (.cons (.idx (.idx (.var 3) (.neg (.int 1))) (.int 2)) (.cons (.str [108, 101, 102, 116, 32, 111, 112, 101, 110]) .nil))))) .nil) .nil) (.cons (.ret .none) .nil)))))
noncomputable def d_fault_in : FnDef := ⟨"fault_in", ["reading"], ["closing", "fault", "waiting"], b_fault_in⟩
noncomputable def b_parts_of : CSs := (.cons (.iff (.not (.call 2 (.cons (.var 0) .nil))) (.cons (.raise 0) .nil) .nil) (.cons (.ret (.comp 1 (.call 4 (.cons (.var 1) .nil)) (.data (.var 0)) .no)) .nil))
noncomputable def d_parts_of : FnDef := ⟨"parts_of", ["rows"], [], b_parts_of⟩
noncomputable def b_fault_in_parts : CSs := (.cons (.assign 1 (.tup (.cons (.lst .nil) (.cons .none (.cons (.lst .nil) .nil))))) (.cons (.loop (.many [2, 3]) (.enum (.var 0)) (.cons (.assign 1 (.call 7 (.cons (.var 1) (.cons (.call 6 (.cons (.var 3) .nil)) (.cons (.var 2) .nil))))) .nil)) (.cons (.ret (.call 8 (.cons (.var 1) .nil))) .nil)))
noncomputable def d_fault_in_parts : FnDef := ⟨"fault_in_parts", ["parts"], ["reading", "number", "triples"], b_fault_in_parts⟩
noncomputable def b_fault_of : CSs := (.cons (.ret (.call 10 (.cons (.call 9 (.cons (.var 0) .nil)) .nil))) .nil)
noncomputable def d_fault_of : FnDef := ⟨"fault_of", ["rows"], [], b_fault_of⟩
noncomputable def b_law_cell_at : CSs := (.cons (.iff (.cmp .Lt (.var 1) (.len (.var 0))) (.cons (.ret (.idx (.var 0) (.var 1))) .nil) .nil) (.cons (.ret (.int 0)) .nil))
noncomputable def d_law_cell_at : FnDef := ⟨"_law_cell_at", ["_law_script", "_law_k"], [], b_law_cell_at⟩
noncomputable def b_law_any_sign : CSs := (.cons (.assign 1 (.str [32, 33, 34, 35, 36, 38, 39, 40, 41, 42, 43, 44, 45, 46, 47, 48, 49, 50, 51, 52, 53, 54, 55, 56, 57, 58, 59, 60, 61, 62, 63, 64, 65, 66, 67, 68, 69, 70, 71, 72, 73, 74, 75, 76, 77, 78, 79, 80, 81, 82, 83, 84, 85, 86, 87, 88, 89, 90, 91, 92, 93, 94, 95, 96])) (.cons (.assign 1 (.bin .Add (.var 1) (.str [97, 98, 99, 100, 101, 102, 103, 104, 105, 106, 107, 108, 109, 110, 111, 112, 113, 114, 115, 116, 117, 118, 119, 120, 121, 122, 123, 124, 125, 126]))) (.cons (.ret (.idx (.var 1) (.bin .Mod (.var 0) (.int 94)))) .nil)))
noncomputable def d_law_any_sign : FnDef := ⟨"_law_any_sign", ["_law_cell"], ["_law_some"], b_law_any_sign⟩
noncomputable def b_law_stream : CSs := (.cons (.assign 3 (.str [])) (.cons (.assign 4 (.str [])) (.cons (.assign 5 (.abs (.var 0))) (.cons (.loop (.one 6) (.range (.var 1)) (.cons (.assign 5 (.bin .Mod (.bin .Add (.bin .Add (.bin .Mult (.var 5) (.int 48271)) (.bin .Mult (.int 11) (.var 6))) (.int 7)) (.int 2147483647))) (.cons (.assign 7 (.bin .Mod (.bin .FloorDiv (.var 5) (.int 7)) (.int 9))) (.cons (.iff (.or (.and (.var 2) (.cmp .Eq (.bin .Mod (.var 6) (.int 2)) (.int 1))) (.and (.cmp .Eq (.var 7) (.int 6)) (.not (.var 2)))) (.cons (.assign 3 (.bin .Add (.var 3) (.str [10]))) .nil) (.cons (.iff (.cmp .Lt (.var 7) (.int 2)) (.cons (.assign 4 (.bin .Add (.idx (.str [41, 93, 125]) (.bin .Mod (.bin .FloorDiv (.var 5) (.int 63)) (.int 3))) (.var 4))) (.cons (.assign 3 (.bin .Add (.var 3) (.idx (.str [40, 91, 123]) (.bin .Mod (.bin .FloorDiv (.var 5) (.int 63)) (.int 3))))) .nil)) (.cons (.iff (.and (.cmp .Lt (.var 7) (.int 5)) (.cmp .NotEq (.var 4) (.str []))) (.cons (.assign 3 (.bin .Add (.var 3) (.idx (.var 4) (.int 0)))) (.cons (.assign 4 (.slc (.var 4) (.yes (.int 1)) .no)) .nil)) (.cons (.iff (.cmp .Eq (.var 7) (.int 7)) (.cons (.assign 8 (.call 31 (.cons (.bin .FloorDiv (.var 5) (.int 63)) .nil))) (.cons (.assign 3 (.bin .Add (.var 3) (.idx (.lst (.cons (.str [97]) (.cons (.var 8) .nil))) (.toInt (.cmp .NotIn (.var 8) (.str [40, 41, 91, 93, 123, 125])))))) .nil)) (.cons (.assign 3 (.bin .Add (.var 3) (.idx (.str [32, 120]) (.bin .Mod (.bin .FloorDiv (.var 5) (.int 63)) (.int 2))))) .nil)) .nil)) .nil)) .nil)) .nil)))) (.cons (.ret (.bin .Add (.var 3) (.var 4))) .nil)))))
noncomputable def d_law_stream : FnDef := ⟨"_law_stream", ["_law_cell", "_law_size", "_law_parted"], ["_law_signs", "_law_opened", "_law_number", "_law_k", "_law_way", "_law_sign"], b_law_stream⟩
noncomputable def b_law_text : CSs := (.cons (.assign 1 (.call 30 (.cons (.var 0) (.cons (.int 1) .nil)))) (.cons (.assign 2 (.cmp .Eq (.bin .Mod (.bin .FloorDiv (.var 1) (.int 56)) (.int 6)) (.int 1))) (.cons (.assign 3 (.call 32 (.cons (.call 30 (.cons (.var 0) (.cons (.int 0) .nil))) (.cons (.bin .Mult (.bin .Mod (.var 1) (.int 56)) (.bin .Add (.int 1) (.toInt (.var 2)))) (.cons (.var 2) .nil))))) (.cons (.assign 4 (.bin .Mod (.bin .Mod (.bin .Mult (.var 1) (.int 48271)) (.int 100003)) (.bin .Add (.len (.var 3)) (.int 1)))) (.cons (.iff (.cmp .Eq (.bin .Mod (.call 30 (.cons (.var 0) (.cons (.int 2) .nil))) (.int 4)) (.int 1)) (.cons (.assign 3 (.bin .Add (.bin .Add (.slc (.var 3) .no (.yes (.var 4))) (.idx (.str [40, 91, 123, 41, 93, 125, 32, 122]) (.bin .Mod (.bin .Mod (.bin .Mult (.var 1) (.int 16807)) (.int 10009)) (.int 8)))) (.slc (.var 3) (.yes (.var 4)) .no))) .nil) .nil) (.cons (.iff (.cmp .Eq (.bin .Mod (.call 30 (.cons (.var 0) (.cons (.int 2) .nil))) (.int 4)) (.int 2)) (.cons (.assign 3 (.bin .Add (.slc (.var 3) .no (.yes (.var 4))) (.slc (.var 3) (.yes (.bin .Add (.var 4) (.int 1))) .no))) .nil) .nil) (.cons (.iff (.cmp .Eq (.bin .Mod (.call 30 (.cons (.var 0) (.cons (.int 2) .nil))) (.int 4)) (.int 3)) (.cons (.assign 3 (.slc (.var 3) .no (.yes (.var 4)))) .nil) .nil) (.cons (.assign 5 (.splitNl (.var 3))) (.cons (.iff (.cmp .Eq (.bin .Mod (.bin .FloorDiv (.call 30 (.cons (.var 0) (.cons (.int 2) .nil))) (.int 4)) (.int 6)) (.int 1)) (.cons (.assign 6 (.comp 7 (.call 31 (.cons (.bin .Add (.call 30 (.cons (.var 0) (.cons (.int 0) .nil))) (.bin .Mult (.int 7) (.var 7))) .nil)) (.range (.bin .Sub (.int 100) (.bin .Mod (.var 1) (.int 56)))) .no)) (.cons (.append 5 (.join (.str []) (.comp 7 (.var 7) (.data (.var 6)) (.yes (.cmp .NotIn (.var 7) (.str [32, 40, 41, 91, 93, 123, 125])))))) .nil)) .nil) (.cons (.iff (.cmp .Eq (.bin .Mod (.bin .FloorDiv (.call 30 (.cons (.var 0) (.cons (.int 2) .nil))) (.int 24)) (.int 6)) (.int 1)) (.cons (.setidx 5 (.int 0) (.bin .Add (.bin .Mult (.idx (.str [32, 120]) (.bin .Mod (.var 1) (.int 2))) (.bin .Sub (.int 118) (.len (.idxv 5 (.int 0))))) (.idxv 5 (.int 0)))) .nil) .nil) (.cons (.ret (.var 5)) .nil)))))))))))
noncomputable def d_law_text : FnDef := ⟨"_law_text", ["_law_script"], ["_law_way", "_law_parted", "_law_signs", "_law_at", "_law_rows", "_law_some"], b_law_text⟩
noncomputable def b_law_whole : CSs := (.cons (.ret (.and (.isinst (.var 0) .int) (.not (.isinst (.var 0) .bool)))) .nil)
noncomputable def d_law_whole : FnDef := ⟨"_law_whole", ["_law_found"], [], b_law_whole⟩
noncomputable def b_law_fault : CSs := (.cons (.assign 1 (.lst .nil)) (.cons (.loop (.one 2) (.range (.len (.var 0))) (.cons (.loop (.many [3, 4]) (.enum (.idx (.var 0) (.var 2))) (.cons (.iff (.cmp .In (.var 4) (.str [40, 91, 123])) (.cons (.append 1 (.tup (.cons (.var 4) (.cons (.var 2) (.cons (.var 3) .nil))))) .nil) .nil) (.cons (.iff (.cmp .In (.var 4) (.str [41, 93, 125])) (.cons (.iff (.eqNil 1) (.cons (.ret (.tup (.cons (.var 2) (.cons (.var 3) (.cons (.str [99, 108, 111, 115, 101, 115, 32, 110, 111, 116, 104, 105, 110, 103]) .nil))))) .nil) .nil) (.cons (.iff (.cmp .NotEq (.find (.str [40, 91, 123]) (.idx (.pop 1) (.int 0))) (.find (.str [41, 93, 125]) (.var 4))) (.cons (.ret (.tup (.cons (.var 2) (.cons (.var 3) (.cons (.str [99, 108, 111, 115, 101, 115, 32, 97, 110, 111, 116, 104, 101, 114]) .nil))))) .nil) .nil) .nil)) .nil) .nil))) .nil)) (.cons (.iff (.neNil 1) (.cons (.ret (.tup (.cons (.idx (.idxv 1 (.neg (.int 1))) (.int 1)) (.cons (.idx (.idxv 1 (.neg (.int 1))) (.int 2)) (.cons (.str [108, 101, 102, 116, 32, 111, 112, 101, 110]) .nil))))) .nil) .nil) (.cons (.ret .none) .nil))))
noncomputable def d_law_fault : FnDef := ⟨"_law_fault", ["_law_rows"], ["_law_opened", "_law_row", "_law_place", "_law_sign"], b_law_fault⟩
noncomputable def b_law_fault_good : CSs := (.cons (.iff (.isNone (.var 1)) (.cons (.ret (.isNone (.var 0))) .nil) .nil) (.cons (.iff (.or (.not (.isinst (.var 0) .tuple)) (.or (.cmp .NotEq (.len (.var 0)) (.int 3)) (.not (.isinst (.idx (.var 0) (.int 2)) .str)))) (.cons (.ret (.bool false)) .nil) .nil) (.cons (.ret (.and (.call 34 (.cons (.idx (.var 0) (.int 0)) .nil)) (.and (.call 34 (.cons (.idx (.var 0) (.int 1)) .nil)) (.cmp .Eq (.var 0) (.var 1))))) .nil)))
noncomputable def d_law_fault_good : FnDef := ⟨"_law_fault_good", ["_law_found", "_law_due"], [], b_law_fault_good⟩
noncomputable def b_law : CSs := (.cons (.assign 1 (.call 33 (.cons (.var 0) .nil))) (.cons (.assign 2 (.list (.var 1))) (.cons (.assign 3 (.call 35 (.cons (.var 1) .nil))) (.cons (.iff (.or (.not (.call 36 (.cons (.call 11 (.cons (.var 2) .nil)) (.cons (.var 3) .nil)))) (.cmp .NotEq (.var 2) (.var 1))) (.cons (.ret (.bool false)) .nil) .nil) (.cons (.ret (.and (.call 36 (.cons (.call 11 (.cons (.var 2) .nil)) (.cons (.var 3) .nil))) (.cmp .Eq (.var 2) (.var 1)))) .nil)))))
noncomputable def d_law : FnDef := ⟨"law", ["_law_script"], ["_law_rows", "_law_handed", "_law_due"], b_law⟩
noncomputable def P : List (Nat × FnDef) := [(0, d_is_sign), (1, d_is_row), (2, d_is_text), (3, d_is_bracket), (4, d_taken_apart), (5, d_lower), (6, d_reading_of), (7, d_joined), (8, d_fault_in), (9, d_parts_of), (10, d_fault_in_parts), (11, d_fault_of), (30, d_law_cell_at), (31, d_law_any_sign), (32, d_law_stream), (33, d_law_text), (34, d_law_whole), (35, d_law_fault), (36, d_law_fault_good), (60, d_law)]
-- 0 is_sign
-- 1 is_row
-- 2 is_text
-- 3 is_bracket
-- 4 taken_apart
-- 5 lower
-- 6 reading_of
-- 7 joined
-- 8 fault_in
-- 9 parts_of
-- 10 fault_in_parts
-- 11 fault_of
-- 30 _law_cell_at
-- 31 _law_any_sign
-- 32 _law_stream
-- 33 _law_text
-- 34 _law_whole
-- 35 _law_fault
-- 36 _law_fault_good
-- 60 law
end Mine.L1
end

section
open PySem PySem.Calls PyProof.Rows
set_option Elab.async false
set_option linter.unusedVariables false
namespace Mine

/-! the evaluator, line by line -/
section
variable {Γ : Nat → Fn} {st : St}
@[simp] theorem ev_none : ev Γ .none st = .ok (.val .none, st) := rfl
@[simp] theorem ev_bool {b} : ev Γ (.bool b) st = .ok (.val (.bool b), st) := rfl
@[simp] theorem ev_int {i} : ev Γ (.int i) st = .ok (.val (.int i), st) := rfl
@[simp] theorem ev_str {l} : ev Γ (.str l) st = .ok (.val (.str (S l)), st) := rfl
@[simp] theorem ev_var {i} : ev Γ (.var i) st = (match slot st i with
    | some (.val d) => .ok (.val d, st)
    | some (.own xs) => .ok (.val (.list xs), st.set i (some (.val (.list xs))))
    | none => .stuck) := rfl
@[simp] theorem ev_glob0 : ev Γ (.glob 0) st = .ok (.val (.int 64), st) := rfl
@[simp] theorem ev_glob1 : ev Γ (.glob 1) st = .ok (.val (.int 120), st) := rfl
@[simp] theorem ev_glob2 : ev Γ (.glob 2) st = .ok (.val (.str (S [40, 91, 123])), st) := rfl
@[simp] theorem ev_bin {op a b} : ev Γ (.bin op a b) st = (toD (ev Γ a st)).bind fun (x, st) => (toD (ev Γ b st)).bind fun (y, st) => okF (binF op x y) st := rfl
@[simp] theorem ev_neg {a} : ev Γ (.neg a) st = (toD (ev Γ a st)).bind fun (x, st) => match x with | .int i => .ok (.val (.int (-i)), st) | _ => .stuck := rfl
@[simp] theorem ev_not {a} : ev Γ (.not a) st = (toB (ev Γ a st)).bind fun (x, st) => .ok (.val (.bool (!x)), st) := rfl
@[simp] theorem ev_and {a b} : ev Γ (.and a b) st = (toB (ev Γ a st)).bind fun (x, st) => if x then (ev Γ b st) else .ok (.val (.bool false), st) := rfl
@[simp] theorem ev_or {a b} : ev Γ (.or a b) st = (toB (ev Γ a st)).bind fun (x, st) => if x then .ok (.val (.bool true), st) else (ev Γ b st) := rfl
@[simp] theorem ev_cmp {op a b} : ev Γ (.cmp op a b) st = (toD (ev Γ a st)).bind fun (x, st) => (toD (ev Γ b st)).bind fun (y, st) => okB (cmpF op x y) st := rfl
@[simp] theorem ev_idx {a b} : ev Γ (.idx a b) st = (toD (ev Γ a st)).bind fun (x, st) => (toD (ev Γ b st)).bind fun (y, st) => okD (idxF x y) st := rfl
@[simp] theorem ev_tup {es} : ev Γ (.tup es) st = (evs Γ es st).bind fun (xs, st) => .ok (.val (.tuple xs), st) := rfl
@[simp] theorem ev_lst {es} : ev Γ (.lst es) st = (evs Γ es st).bind fun (xs, st) => .ok (.own xs, st) := rfl
@[simp] theorem ev_call {k es} : ev Γ (.call k es) st = (evs Γ es st).bind fun (xs, st) => outR (Γ k xs) st := rfl
@[simp] theorem ev_len {a} : ev Γ (.len a) st = (toD (ev Γ a st)).bind fun (x, st) => okI (lenF x) st := rfl
@[simp] theorem ev_lenv {i} : ev Γ (.lenv i) st = (match listAt st i with | some xs => okI (lenF (.list xs)) st | none => .stuck) := rfl
@[simp] theorem ev_isinst {a t} : ev Γ (.isinst a t) st = (toD (ev Γ a st)).bind fun (x, st) => .ok (.val (.bool (isF x t)), st) := rfl
@[simp] theorem ev_chain2 {a o1 b o2 c} : ev Γ (.chain2 a o1 b o2 c) st = (toD (ev Γ a st)).bind fun (x, st) => (toD (ev Γ b st)).bind fun (y, st) => match cmpF o1 x y with
    | some true => (toD (ev Γ c st)).bind fun (z, st) => okB (cmpF o2 y z) st
    | some false => .ok (.val (.bool false), st)
    | none => .stuck := rfl
@[simp] theorem ev_isNone {a} : ev Γ (.isNone a) st = (toD (ev Γ a st)).bind fun (x, st) => .ok (.val (.bool (isN x)), st) := rfl
@[simp] theorem ev_isNotNone {a} : ev Γ (.isNotNone a) st = (toD (ev Γ a st)).bind fun (x, st) => .ok (.val (.bool (!isN x)), st) := rfl
@[simp] theorem ev_inOpen {a} : ev Γ (.inOpen a) st = (toD (ev Γ a st)).bind fun (x, st) => match x with | .str s => .ok (.val (.bool (openF s).isSome), st) | _ => .stuck := rfl
@[simp] theorem ev_getOpen {a} : ev Γ (.getOpen a) st = (toD (ev Γ a st)).bind fun (x, st) => match x with | .str s => okD ((openF s).map .str) st | _ => .stuck := rfl
@[simp] theorem ev_slc {a lo hi} : ev Γ (.slc a lo hi) st = (toD (ev Γ a st)).bind fun (x, st) => (evo Γ lo st).bind fun (l, st) => (evo Γ hi st).bind fun (h, st) => okF (slF x l h) st := rfl
@[simp] theorem ev_ord {a} : ev Γ (.ord a) st = (toD (ev Γ a st)).bind fun (x, st) => match x with | .str s => (match cs s with | [c] => .ok (.val (.int c), st) | _ => .stuck) | _ => .stuck := rfl
@[simp] theorem ev_abs {a} : ev Γ (.abs a) st = (toD (ev Γ a st)).bind fun (x, st) => match x with | .int i => .ok (.val (.int i.natAbs), st) | _ => .stuck := rfl
@[simp] theorem ev_toInt {a} : ev Γ (.toInt a) st = (toD (ev Γ a st)).bind fun (x, st) => match x with | .bool b => .ok (.val (.int (if b then 1 else 0)), st) | _ => .stuck := rfl
@[simp] theorem ev_list {a} : ev Γ (.list a) st = (toD (ev Γ a st)).bind fun (x, st) => match x with | .list xs => (if okLen xs.length then .ok (.own xs, st) else .stuck) | _ => .stuck := rfl
@[simp] theorem ev_pop {i} : ev Γ (.pop i) st = (match ownAt st i with
    | some xs => (match xs.getLast? with | some d => (if okLen xs.length then .ok (.val d, st.set i (some (.own xs.dropLast))) else .stuck) | none => .stuck)
    | none => .stuck) := rfl
@[simp] theorem ev_eqNil {i} : ev Γ (.eqNil i) st = (match listAt st i with | some xs => .ok (.val (.bool xs.isEmpty), st) | none => .stuck) := rfl
@[simp] theorem ev_neNil {i} : ev Γ (.neNil i) st = (match listAt st i with | some xs => .ok (.val (.bool (!xs.isEmpty)), st) | none => .stuck) := rfl
@[simp] theorem evi_enum {e} : evi Γ (.enum e) st = (toD (ev Γ e st)).bind fun (x, st) => match x with
    | .list xs => (if okLen xs.length then .ok (enumFrom 0 xs, st) else .stuck)
    | .str q => (if okLen (cs q).length then .ok (enumFrom 0 ((cs q).map fun c => .str (S [c])), st) else .stuck)
    | _ => .stuck := rfl
@[simp] theorem evi_range {e} : evi Γ (.range e) st = (toD (ev Γ e st)).bind fun (x, st) => match x with
    | .int n => (if decide (n ≤ 16777216) && decide (-16777216 ≤ n) then .ok ((List.range n.toNat).map fun (k : Nat) => PyData.int k, st) else .stuck) | _ => .stuck := rfl
@[simp] theorem evs_nil : evs Γ .nil st = .ok ([], st) := rfl
@[simp] theorem evs_cons {e es} : evs Γ (.cons e es) st = (toD (ev Γ e st)).bind fun (x, st) => (evs Γ es st).bind fun (xs, st) => .ok (x :: xs, st) := rfl
@[simp] theorem evo_no : evo Γ .no st = .ok (none, st) := rfl
@[simp] theorem evo_yes {e} : evo Γ (.yes e) st = (toD (ev Γ e st)).bind fun (x, st) => .ok (some x, st) := rfl
@[simp] theorem evc_no : evc Γ .no st = .ok true := rfl
@[simp] theorem evc_yes {e} : evc Γ (.yes e) st = (toB (ev Γ e st)).bind fun (b, _) => .ok b := rfl
@[simp] theorem evi_data {e} : evi Γ (.data e) st = (toD (ev Γ e st)).bind fun (x, st) => match itemsF x with | some xs => .ok (xs, st) | none => .stuck := rfl

@[simp] theorem ex_assign {i e} : ex Γ (.assign i e) st = (ev Γ e st).bind fun (f, st) => if i < st.length then .ok (.next, st.set i (some f)) else .stuck := rfl
@[simp] theorem ex_ret {e} : ex Γ (.ret e) st = (ev Γ e st).bind fun (f, st) => .ok (.ret f, st) := rfl
@[simp] theorem ex_iff {c a b} : ex Γ (.iff c a b) st = (toB (ev Γ c st)).bind fun (t, st) => if t then exs Γ a st else exs Γ b st := rfl
@[simp] theorem ex_drop {e} : ex Γ (.drop e) st = (toD (ev Γ e st)).bind fun (_, st) => .ok (.next, st) := rfl
@[simp] theorem ex_append {x e} : ex Γ (.append x e) st = (match ownAt st x with
    | some _ => (toD (ev Γ e st)).bind fun (d, st) => (match ownAt st x with | some xs => (if okLen xs.length then .ok (.next, st.set x (some (.own (xs ++ [d])))) else .stuck) | none => .stuck)
    | none => .stuck) := rfl
@[simp] theorem ex_unpack {is e} : ex Γ (.unpack is e) st = (toD (ev Γ e st)).bind fun (d, st) => match d with
    | .tuple ds => (match setAll is ds st with | some st' => .ok (.next, st') | none => .stuck)
    | _ => .stuck := rfl
@[simp] theorem exs_nil : exs Γ .nil st = .ok (.next, st) := rfl
@[simp] theorem exs_cons {s r} : exs Γ (.cons s r) st = (ex Γ s st).bind fun (fl, st) => match fl with
    | .next => exs Γ r st
    | .ret f => .ok (.ret f, st) := rfl
@[simp] theorem toD_ok {f : F} : toD (.ok (f, st)) = .ok (f.frz, st) := rfl
@[simp] theorem toB_okb {b : Bool} : toB (.ok (.val (.bool b), st)) = .ok (b, st) := rfl
@[simp] theorem okF_some {f : F} : okF (some f) st = .ok (f, st) := rfl
@[simp] theorem okD_some {f : PyData} : okD (some f) st = .ok (.val f, st) := rfl
@[simp] theorem okB_some {f : Bool} : okB (some f) st = .ok (.val (.bool f), st) := rfl
@[simp] theorem okI_some {f : Nat} : okI (some f) st = .ok (.val (.int f), st) := rfl
@[simp] theorem outR_ret {f : F} : outR (.ret f) st = .ok (f, st) := rfl
@[simp] theorem frz_val {d : PyData} : (F.val d).frz = d := rfl
@[simp] theorem frz_own {d : List PyData} : (F.own d).frz = .list d := rfl
@[simp] theorem slot_0 {a : Option F} {r : St} : slot (a :: r) 0 = a := rfl
@[simp] theorem slot_s {a : Option F} {r : St} {n : Nat} : slot (a :: r) (n + 1) = slot r n := rfl
@[simp] theorem outOf_next {st : St} : outOf (.ok (.next, st)) = .ret (.val .none) := rfl
@[simp] theorem outOf_ret {st : St} {f : F} : outOf (.ok (.ret f, st)) = .ret f := rfl
end

/-- one turn of a loop -/
noncomputable def turn (Γ : Nat → Fn) (t : Tg) (B : CSs) (x : PyData) (st : St) : R (Fl × St) := match bindT t x st with | some st' => exs Γ B st' | none => .stuck
theorem ex_loop {Γ : Nat → Fn} {t : Tg} {it : CI} {B : CSs} {st st1 : St} {xs : List PyData} (h : evi Γ it st = .ok (xs, st1)) : ex Γ (.loop t it B) st = forL (turn Γ t B) xs st1 := by
  rw [qx_loop, h]; rfl
theorem forL_nil {f : PyData → St → R (Fl × St)} {st : St} : forL f [] st = .ok (.next, st) := rfl
theorem forL_next {f : PyData → St → R (Fl × St)} {st st' : St} {x : PyData} {xs : List PyData} (h : f x st = .ok (.next, st')) : forL f (x :: xs) st = forL f xs st' := by rw [forL, h]
theorem forL_ret {f : PyData → St → R (Fl × St)} {st st' : St} {x : PyData} {xs : List PyData} {g : F} (h : f x st = .ok (.ret g, st')) : forL f (x :: xs) st = .ok (.ret g, st') := by rw [forL, h]
theorem run_def {Γ : Nat → Fn} {np nv : Nat} {b : CSs} {ds : List PyData} (h : ds.length = np) : runDef Γ np nv b ds = outOf (exs Γ b (ds.map (fun d => some (.val d)) ++ List.replicate nv none)) := by
  unfold runDef; rw [if_pos h]

/-! signs -/
noncomputable abbrev ch (c : Nat) : PyData := .str (S [c])
noncomputable abbrev strD (l : List Nat) : PyData := .str (S l)
noncomputable def isSign (c : Nat) : Bool := decide (32 ≤ c) && decide (c ≤ 126) && decide (c ≠ 37)
noncomputable def isOp (c : Nat) : Bool := decide (c ∈ [40, 91, 123])
noncomputable def isCl (c : Nat) : Bool := decide (c ∈ [41, 93, 125])
noncomputable def isBr (c : Nat) : Bool := isOp c || isCl c
noncomputable def opOf (c : Nat) : Nat := if c = 41 then 40 else if c = 93 then 91 else 123

theorem in_one (l : List Nat) (c : Nat) : inStr (S l) (S [c]) = decide (c ∈ l) := by
  unfold inStr
  exact PySem.StrLaws.found_one (S l) c
theorem open_one (c : Nat) : openF (S [c]) = if isCl c then some (S [opOf c]) else none := by
  unfold openF isCl opOf
  simp only [cs_S, List.cons.injEq, and_true]
  by_cases h1 : c = 41
  · simp [h1]
  · by_cases h2 : c = 93
    · simp [h2]
    · by_cases h3 : c = 125
      · simp [h3]
      · simp [h1, h2, h3]
end Mine
end

section
open PySem PySem.Calls PyProof.Rows
set_option Elab.async false
set_option linter.unusedVariables false
namespace Mine.L1

/-! small defs -/

theorem is_sign_ok (Γ : Nat → Fn) (c : Nat) : runDef Γ 1 0 b_is_sign [ch c] = .ret (.val (.bool (isSign c))) := by
  refine (run_def (by rfl)).trans ?_
  unfold b_is_sign isSign
  by_cases h1 : 32 ≤ c
  · by_cases h2 : c ≤ 126
    · have h1' : (32 : Int) ≤ c := by omega
      have h2' : (c : Int) ≤ 126 := by omega
      have e : ((c : Int) != 37) = decide (c ≠ 37) := by
        by_cases h : c = 37
        · simp [h]
        · have : (c : Int) ≠ 37 := by omega
          simp [h, this]
      simp [cmpF, h1, h2, h1', h2', e]
    · have h1' : (32 : Int) ≤ c := by omega
      have h2' : ¬ (c : Int) ≤ 126 := by omega
      simp [cmpF, h1, h2, h1', h2']
  · have h1' : ¬ (32 : Int) ≤ c := by omega
    simp [cmpF, h1, h1']

noncomputable def Sp0 (Γ : Nat → Fn) : Prop := ∀ c, Γ 0 [ch c] = .ret (.val (.bool (isSign c)))

theorem is_bracket_ok (Γ : Nat → Fn) (c : Nat) : runDef Γ 1 0 b_is_bracket [ch c] = .ret (.val (.bool (isBr c))) := by
  refine (run_def (by rfl)).trans ?_
  unfold b_is_bracket isBr isOp
  have e := open_one c
  cases h : isCl c with
  | true =>
    rw [h] at e
    by_cases h1 : c ∈ [40, 91, 123] <;> simp [cmpF, in_one, h1, e]
  | false =>
    rw [h] at e
    by_cases h1 : c ∈ [40, 91, 123] <;> simp [cmpF, in_one, h1, e]

noncomputable def okRow (l : List Nat) : Prop := l.length ≤ 120 ∧ ∀ c ∈ l, isSign c = true

theorem is_row_loop {Γ : Nat → Fn} (h0 : Sp0 Γ) {a : Option F} : ∀ (l : List Nat), (∀ c ∈ l, isSign c = true) → ∀ s1, ∃ s1', forL (turn Γ (.one 1) (.cons (.iff (.not (.call 0 (.cons (.var 1) .nil))) (.cons (.ret (.bool false)) .nil) .nil) .nil)) (l.map fun c => ch c) [a, s1] = .ok (.next, [a, s1'])
  | [], _, s1 => ⟨s1, rfl⟩
  | c :: l, h, s1 => by
    obtain ⟨s1', e⟩ := is_row_loop h0 (a := a) l (fun c hc => h c (.tail _ hc)) (some (.val (ch c)))
    refine ⟨s1', ?_⟩
    rw [List.map_cons, forL_next (st' := [a, some (.val (ch c))]) ?_]
    · exact e
    · simp [turn, bindT, h0 c, h c (.head _)]

theorem is_row_ok {Γ : Nat → Fn} (h0 : Sp0 Γ) {l : List Nat} (h : okRow l) : runDef Γ 1 1 b_is_row [strD l] = .ret (.val (.bool true)) := by
  refine (run_def (by rfl)).trans ?_
  unfold b_is_row
  have hl : ¬ ((l.length : Int) > 120) := by have := h.1; omega
  have hz : okLen l.length = true := by have := h.1; unfold okLen; simp; omega
  obtain ⟨s1', e⟩ := is_row_loop h0 (a := some (.val (strD l))) l h.2 none
  have el := ex_loop (Γ := Γ) (t := .one 1) (it := .data (.var 0)) (B := (.cons (.iff (.not (.call 0 (.cons (.var 1) .nil))) (.cons (.ret (.bool false)) .nil) .nil) .nil)) (st := [some (.val (strD l)), none]) (st1 := [some (.val (strD l)), none]) (xs := l.map fun c => ch c) (by simp [itemsF, hz])
  simp only [List.map_cons, List.map_nil, List.replicate, List.cons_append, List.nil_append]
  have hg : ¬ (120 : Int) < l.length := by omega
  simp [isF, lenF, hz, cmpF, el, e, hg]

end Mine.L1
end

section
open PySem PySem.Calls PyProof.Rows
set_option Elab.async false
set_option linter.unusedVariables false
namespace Mine

/-! the machine of brackets, in plain words -/

noncomputable abbrev Mk := Nat × Nat × Nat
structure Rd where
  cl : List Mk
  ft : Option Mk
  wt : List Mk

noncomputable def Rd.nil : Rd := ⟨[], none, []⟩

noncomputable def step (R : Rd) (m : Mk) : Rd :=
  if R.ft.isSome then R
  else if isCl m.1 then (match R.wt.getLast? with
    | none => { R with cl := R.cl ++ [m] }
    | some t => if t.1 = opOf m.1 then { R with wt := R.wt.dropLast } else ⟨R.cl, some m, []⟩)
  else { R with wt := R.wt ++ [m] }
noncomputable def run (R : Rd) (ms : List Mk) : Rd := ms.foldl step R
theorem run_append (R : Rd) (a b : List Mk) : run R (a ++ b) = run (run R a) b := List.foldl_append
theorem run_snoc (R : Rd) (a : List Mk) (m : Mk) : run R (a ++ [m]) = step (run R a) m := by rw [run_append]; rfl

noncomputable def low (n : Nat) (m : Mk) : Mk := (m.1, m.2.1 + n, m.2.2)

noncomputable def jl (n : Nat) : List Mk → List Mk → List Mk → Rd ⊕ (List Mk × List Mk)
  | [], cl, wt => .inr (cl, wt)
  | m :: ms, cl, wt => match wt.getLast? with
    | none => jl n ms (cl ++ [low n m]) wt
    | some t => if t.1 = opOf m.1 then jl n ms cl wt.dropLast else .inl ⟨cl, some (low n m), []⟩

noncomputable def join (a b : Rd) (n : Nat) : Rd :=
  if a.ft.isSome then a
  else match jl n b.cl a.cl a.wt with
    | .inl r => r
    | .inr (cl, wt) => match b.ft with
      | some m => ⟨cl, some (low n m), []⟩
      | none => ⟨cl, none, wt ++ b.wt.map (low n)⟩

theorem jl_append (n : Nat) (m : Mk) : ∀ (ms cl wt : List Mk), jl n (ms ++ [m]) cl wt = match jl n ms cl wt with | .inl r => .inl r | .inr (cl', wt') => jl n [m] cl' wt'
  | [], cl, wt => rfl
  | k :: ms, cl, wt => by
    rw [List.cons_append, jl, jl]
    cases h : wt.getLast? with
    | none => exact jl_append n m ms _ _
    | some t =>
      dsimp only
      split
      · exact jl_append n m ms _ _
      · rfl
theorem jl_ft (n : Nat) : ∀ (ms cl wt : List Mk) (r : Rd), jl n ms cl wt = .inl r → r.ft.isSome = true
  | [], cl, wt, r, h => by cases h
  | k :: ms, cl, wt, r, h => by
    rw [jl] at h
    cases e : wt.getLast? with
    | none => rw [e] at h; exact jl_ft n ms _ _ r h
    | some t =>
      rw [e] at h
      dsimp only at h
      split at h
      · exact jl_ft n ms _ _ r h
      · cases h; rfl
theorem step_done {R : Rd} (h : R.ft.isSome = true) (m : Mk) : step R m = R := by unfold step; rw [if_pos h]

theorem step_a {R : Rd} {m : Mk} (hf : R.ft = none) (hc : isCl m.1 = true) (hw : R.wt.getLast? = none) : step R m = ⟨R.cl ++ [m], none, R.wt⟩ := by unfold step; rw [hf, hc, hw]; rfl
theorem step_b {R : Rd} {m t : Mk} (hf : R.ft = none) (hc : isCl m.1 = true) (hw : R.wt.getLast? = some t) (ho : t.1 = opOf m.1) : step R m = ⟨R.cl, none, R.wt.dropLast⟩ := by unfold step; rw [hf, hc, hw]; simp [ho]
theorem step_c {R : Rd} {m t : Mk} (hf : R.ft = none) (hc : isCl m.1 = true) (hw : R.wt.getLast? = some t) (ho : ¬ t.1 = opOf m.1) : step R m = ⟨R.cl, some m, []⟩ := by unfold step; rw [hf, hc, hw]; simp [ho]
theorem step_d {R : Rd} {m : Mk} (hf : R.ft = none) (hc : isCl m.1 = false) : step R m = ⟨R.cl, none, R.wt ++ [m]⟩ := by unfold step; rw [hf, hc]; rfl
theorem join_l {a b : Rd} {n : Nat} {r : Rd} (ha : a.ft = none) (hj : jl n b.cl a.cl a.wt = .inl r) : join a b n = r := by unfold join; rw [ha, hj]; rfl
theorem join_r {a b : Rd} {n : Nat} {cl wt : List Mk} (ha : a.ft = none) (hj : jl n b.cl a.cl a.wt = .inr (cl, wt)) (hb : b.ft = none) : join a b n = ⟨cl, none, wt ++ b.wt.map (low n)⟩ := by unfold join; rw [ha, hj, hb]; rfl
theorem join_f {a b : Rd} {n : Nat} {cl wt : List Mk} {m : Mk} (ha : a.ft = none) (hj : jl n b.cl a.cl a.wt = .inr (cl, wt)) (hb : b.ft = some m) : join a b n = ⟨cl, some (low n m), []⟩ := by unfold join; rw [ha, hj, hb]; rfl

theorem join_step (a b : Rd) (n : Nat) (m : Mk) : join a (step b m) n = step (join a b n) (low n m) := by
  cases ha : a.ft with
  | some k =>
    have : ∀ b, join a b n = a := fun b => by unfold join; rw [ha]; rfl
    rw [this, this, step_done (by rw [ha]; rfl)]
  | none =>
  cases hb : b.ft with
  | some k =>
    rw [step_done (by rw [hb]; rfl)]
    symm
    apply step_done
    cases hj : jl n b.cl a.cl a.wt with
    | inl r => rw [join_l ha hj]; exact jl_ft n _ _ _ r hj
    | inr p => rw [join_f ha (show _ = Sum.inr (p.1, p.2) from hj) hb]; rfl
  | none =>
  cases hj : jl n b.cl a.cl a.wt with
  | inl r =>
    have hr := jl_ft n _ _ _ r hj
    rw [join_l ha hj, step_done hr]
    cases hc : isCl m.1 with
    | false => rw [step_d hb hc]; exact join_l ha hj
    | true =>
      cases hw : b.wt.getLast? with
      | none =>
        rw [step_a hb hc hw]
        refine join_l ha ?_
        show jl n (b.cl ++ [m]) a.cl a.wt = _
        rw [jl_append, hj]
      | some t =>
        by_cases ho : t.1 = opOf m.1
        · rw [step_b hb hc hw ho]; exact join_l ha hj
        · rw [step_c hb hc hw ho]; exact join_l ha hj
  | inr p =>
    obtain ⟨cl, wt⟩ := p
    rw [join_r ha hj hb]
    cases hc : isCl m.1 with
    | false =>
      rw [step_d hb hc, step_d rfl (show isCl (low n m).1 = false from hc), join_r (b := ⟨b.cl, none, b.wt ++ [m]⟩) ha hj rfl]
      simp
    | true =>
      have hc' : isCl (low n m).1 = true := hc
      cases hw : b.wt.getLast? with
      | none =>
        have hw' : b.wt = [] := by simpa using hw
        rw [step_a hb hc hw, hw']
        have hj' : jl n (b.cl ++ [m]) a.cl a.wt = jl n [m] cl wt := by rw [jl_append, hj]
        cases hl : wt.getLast? with
        | none =>
          have h1 : jl n [m] cl wt = .inr (cl ++ [low n m], wt) := by rw [jl, hl]; rfl
          rw [join_r (b := ⟨b.cl ++ [m], none, []⟩) ha (hj'.trans h1) rfl, step_a rfl hc' (by simpa using hl)]
        | some t =>
          by_cases ho : t.1 = opOf m.1
          · have h1 : jl n [m] cl wt = .inr (cl, wt.dropLast) := by rw [jl, hl]; simp only [ho, if_true]; rfl
            rw [join_r (b := ⟨b.cl ++ [m], none, []⟩) ha (hj'.trans h1) rfl, step_b (t := t) rfl hc' (by simpa using hl) ho]
            simp
          · have h1 : jl n [m] cl wt = .inl ⟨cl, some (low n m), []⟩ := by rw [jl, hl]; simp only [ho, if_false]
            rw [join_l (b := ⟨b.cl ++ [m], none, []⟩) ha (hj'.trans h1), step_c (t := t) rfl hc' (by simpa using hl) ho]
      | some t =>
        have hne : b.wt ≠ [] := fun e => by rw [e] at hw; cases hw
        have hl : (wt ++ b.wt.map (low n)).getLast? = some (low n t) := by
          rw [List.getLast?_append, List.getLast?_map, hw]; rfl
        by_cases ho : t.1 = opOf m.1
        · rw [step_b hb hc hw ho, step_b (t := low n t) rfl hc' hl ho, join_r (b := ⟨b.cl, none, b.wt.dropLast⟩) ha hj rfl]
          have hdl : (wt ++ b.wt.map (low n)).dropLast = wt ++ b.wt.dropLast.map (low n) := by
            rw [List.dropLast_append_of_ne_nil (by simpa using hne), List.map_dropLast]
          rw [hdl]
        · rw [step_c hb hc hw ho, step_c (t := low n t) rfl hc' hl ho, join_f (b := ⟨b.cl, some m, []⟩) ha hj rfl]

theorem join_run (a : Rd) (n : Nat) (ms : List Mk) : join a (run .nil ms) n = run a (ms.map (low n)) := by
  suffices h : ∀ l : List Mk, join a (run .nil l.reverse) n = run a (l.reverse.map (low n)) by simpa using h ms.reverse
  intro l
  induction l with
  | nil =>
    show join a .nil n = a
    unfold join Rd.nil
    simp only [jl, List.map_nil, List.append_nil]
    cases hf : a.ft with
    | none => simp [← hf]
    | some m => simp
  | cons m l ih =>
    rw [List.reverse_cons, run_snoc, join_step, ih, List.map_append, run_append]
    rfl

theorem run_cl (R : Rd) (h : ∀ m ∈ R.cl, isCl m.1 = true) : ∀ ms, ∀ m ∈ (run R ms).cl, isCl m.1 = true
  | [] => h
  | k :: ms => by
    refine run_cl (step R k) ?_ ms
    unfold step
    split
    · exact h
    · split
      · rename_i hk
        split
        · intro m hm
          rcases List.mem_append.mp hm with hm | hm
          · exact h m hm
          · rw [List.mem_singleton.mp hm]; exact hk
        · split
          · exact h
          · exact h
      · exact h
theorem run_wt (R : Rd) (h : ∀ m ∈ R.wt, isCl m.1 = false) : ∀ ms, ∀ m ∈ (run R ms).wt, isCl m.1 = false
  | [] => h
  | k :: ms => by
    refine run_wt (step R k) ?_ ms
    unfold step
    split
    · exact h
    · split
      · split
        · exact h
        · split
          · intro m hm; exact h m (List.dropLast_subset _ hm)
          · intro m hm; cases hm
      · rename_i hk
        intro m hm
        rcases List.mem_append.mp hm with hm | hm
        · exact h m hm
        · rw [List.mem_singleton.mp hm]; simpa using hk

/-- how much a reading may hold -/
noncomputable def Rd.sz (R : Rd) : Nat := R.cl.length + R.wt.length
theorem run_sz (R : Rd) : ∀ ms, (run R ms).sz ≤ R.sz + ms.length
  | [] => Nat.le_refl _
  | k :: ms => by
    have h1 : (step R k).sz ≤ R.sz + 1 := by
      unfold step Rd.sz
      split
      · omega
      · split
        · split
          · simp; omega
          · split
            · simp; omega
            · simp; omega
        · simp; omega
    have := run_sz (step R k) ms
    rw [List.length_cons]
    show (run (step R k) ms).sz ≤ _
    omega

/-! what is told of a reading -/
inductive Ft where
  | ok
  | no (r p : Nat)
  | ano (r p : Nat)
  | lft (r p : Nat)

noncomputable def faultR (R : Rd) : Ft := match R.cl with
  | m :: _ => .no m.2.1 m.2.2
  | [] => match R.ft with
    | some m => .ano m.2.1 m.2.2
    | none => match R.wt.getLast? with
      | some m => .lft m.2.1 m.2.2
      | none => .ok

/-- the plain reading -/
noncomputable def lf : List Mk → List Mk → Ft ⊕ List Mk
  | [], wt => .inr wt
  | m :: ms, wt => if isCl m.1 then (match wt.getLast? with
      | none => .inl (.no m.2.1 m.2.2)
      | some t => if t.1 = opOf m.1 then lf ms wt.dropLast else .inl (.ano m.2.1 m.2.2))
    else lf ms (wt ++ [m])
noncomputable def lfEnd (wt : List Mk) : Ft := match wt.getLast? with
  | some m => .lft m.2.1 m.2.2
  | none => .ok

theorem run_keep_cl {k : Mk} : ∀ (ms : List Mk) (R : Rd) (l : List Mk), R.cl = k :: l → ∃ l', (run R ms).cl = k :: l'
  | [], R, l, h => ⟨l, h⟩
  | m :: ms, R, l, h => by
    have : ∃ l', (step R m).cl = k :: l' := by
      unfold step
      split
      · exact ⟨l, h⟩
      · split
        · split
          · exact ⟨l ++ [m], by simp [h]⟩
          · split
            · exact ⟨l, h⟩
            · exact ⟨l, h⟩
        · exact ⟨l, h⟩
    obtain ⟨l', h'⟩ := this
    exact run_keep_cl ms (step R m) l' h'
theorem run_keep_ft : ∀ (ms : List Mk) (R : Rd), R.ft.isSome = true → run R ms = R
  | [], R, h => rfl
  | m :: ms, R, h => by
    show run (step R m) ms = R
    rw [step_done h]; exact run_keep_ft ms R h

theorem lf_run : ∀ (ms wt : List Mk), (match lf ms wt with | .inl f => faultR (run ⟨[], none, wt⟩ ms) = f | .inr wt' => run ⟨[], none, wt⟩ ms = ⟨[], none, wt'⟩)
  | [], wt => rfl
  | m :: ms, wt => by
    rw [lf]
    have hrun : run ⟨[], none, wt⟩ (m :: ms) = run (step ⟨[], none, wt⟩ m) ms := rfl
    rw [hrun]
    unfold step
    simp only [Option.isSome_none, Bool.false_eq_true, if_false]
    by_cases hc : isCl m.1 = true
    · simp only [hc, if_true]
      cases hw : wt.getLast? with
      | none =>
        dsimp only
        obtain ⟨l', h'⟩ := run_keep_cl (k := m) ms ⟨[] ++ [m], none, wt⟩ [] rfl
        unfold faultR; rw [h']
      | some t =>
        dsimp only
        by_cases ho : t.1 = opOf m.1
        · simp only [ho, if_true]; exact lf_run ms wt.dropLast
        · simp only [ho, if_false]; rw [run_keep_ft ms _ rfl]; rfl
    · simp only [hc, if_false]; exact lf_run ms (wt ++ [m])

/-- the two agree -/
theorem fault_same (ms : List Mk) : faultR (run .nil ms) = match lf ms [] with | .inl f => f | .inr wt => lfEnd wt := by
  have := lf_run ms []
  cases h : lf ms [] with
  | inl f => rw [h] at this; exact this
  | inr wt =>
    rw [h] at this
    dsimp only at this ⊢
    show faultR (run ⟨[], none, []⟩ ms) = _
    rw [this]; rfl
end Mine
end

section
open PySem PySem.Calls PyProof.Rows
set_option Elab.async false
set_option linter.unusedVariables false
namespace Mine.L1

/-! joined, and what it needs -/

noncomputable def encM (m : Mk) : PyData := .tuple [ch m.1, .int m.2.1, .int m.2.2]
noncomputable def encO : Option Mk → PyData
  | none => .none
  | some m => encM m
noncomputable def encR (R : Rd) : PyData := .tuple [.list (R.cl.map encM), encO R.ft, .list (R.wt.map encM)]

theorem mapR_map {f : PyData → R (List PyData)} {g : PyData → PyData} : ∀ (xs : List PyData), (∀ x ∈ xs, f x = .ok [g x]) → mapR f xs = .ok (xs.map g)
  | [], _ => rfl
  | x :: xs, h => by rw [mapR, h x (.head _), mapR_map xs fun y hy => h y (.tail _ hy)]; rfl

theorem ev_comp {Γ : Nat → Fn} {n : Nat} {ce : CE} {ci : CI} {cc : CEo} {st st1 : St} {xs out : List PyData} (h1 : evi Γ ci st = .ok (xs, st1)) (h2 : mapR (inStep Γ ce cc st1) xs = .ok out) (h3 : okLen xs.length = true) (h4 : st1.length = n) :
    ev Γ (.comp n ce ci cc) st = .ok (.own out, st1) := by
  rw [comp_stuck, h1]
  dsimp only [R.bind]
  rw [h2]
  simp [h3, h4]

theorem lower_ok (Γ : Nat → Fn) (m : Mk) (n : Nat) : runDef Γ 2 0 b_lower [encM m, .int n] = .ret (.val (encM (low n m))) := by
  refine (run_def (by rfl)).trans ?_
  unfold b_lower encM low
  simp [idxF, at?, okLen, binF]

noncomputable def Sp5 (Γ : Nat → Fn) : Prop := ∀ m n, Γ 5 [encM m, .int (n : Nat)] = .ret (.val (encM (low n m)))

noncomputable def jB : CSs := (.cons (.iff (.eqNil 5) (.cons (.append 3 (.call 5 (.cons (.var 6) (.cons (.var 2) .nil)))) .nil) (.cons (.iff (.cmp .NotEq (.idx (.pop 5) (.int 0)) (.getOpen (.idx (.var 6) (.int 0)))) (.cons (.ret (.tup (.cons (.var 3) (.cons (.call 5 (.cons (.var 6) (.cons (.var 2) .nil))) (.cons (.lst .nil) .nil))))) .nil) .nil) .nil)) .nil)

theorem idx_M0 (m : Mk) : idxF (encM m) (.int 0) = some (ch m.1) := by unfold encM; simp [idxF, at?, okLen]

theorem joined_loop {Γ : Nat → Fn} (h5 : Sp5 Γ) {f s x4 : Option F} (n : Nat) : ∀ (ms cl wt : List Mk) (s6 : Option F), (∀ m ∈ ms, isCl m.1 = true) → ms.length + cl.length ≤ 100000 → wt.length ≤ 100000 →
    (match jl n ms cl wt with
      | .inl r => ∃ st', forL (turn Γ (.one 6) jB) (ms.map encM) [f, s, some (.val (.int n)), some (.own (cl.map encM)), x4, some (.own (wt.map encM)), s6] = .ok (.ret (.val (encR r)), st')
      | .inr p => ∃ s6', forL (turn Γ (.one 6) jB) (ms.map encM) [f, s, some (.val (.int n)), some (.own (cl.map encM)), x4, some (.own (wt.map encM)), s6] = .ok (.next, [f, s, some (.val (.int n)), some (.own (p.1.map encM)), x4, some (.own (p.2.map encM)), s6']))
  | [], cl, wt, s6, _, _, _ => ⟨s6, rfl⟩
  | m :: ms, cl, wt, s6, hc, hz, hw => by
    rw [jl]
    simp only [List.length_cons] at hz
    have hm := hc m (.head _)
    have hoc := open_one m.1
    rw [hm] at hoc
    simp only [if_true] at hoc
    cases hl : wt.getLast? with
    | none =>
      have hwn : wt = [] := by simpa using hl
      subst hwn
      have ih := joined_loop h5 (f := f) (s := s) (x4 := x4) n ms (cl ++ [low n m]) [] (some (.val (encM m))) (fun k hk => hc k (.tail _ hk)) (by simp; omega) (by simp)
      dsimp only
      have hz' : okLen cl.length = true := by unfold okLen; simp; omega
      have e1 : turn Γ (.one 6) jB (encM m) [f, s, some (.val (.int n)), some (.own (cl.map encM)), x4, some (.own (([] : List Mk).map encM)), s6] = .ok (.next, [f, s, some (.val (.int n)), some (.own ((cl ++ [low n m]).map encM)), x4, some (.own (([] : List Mk).map encM)), some (.val (encM m))]) := by
        unfold jB
        simp [turn, bindT, listAt, ownAt, h5 m n, hz']
      rw [List.map_cons, forL_next e1]
      exact ih
    | some t =>
      dsimp only
      have hlm : (wt.map encM).getLast? = some (encM t) := by rw [List.getLast?_map, hl]; rfl
      have hne : wt ≠ [] := fun e => by rw [e] at hl; cases hl
      have hemp : (wt.map encM).isEmpty = false := by cases wt with | nil => exact absurd rfl hne | cons _ _ => rfl
      have hz' : okLen wt.length = true := by unfold okLen; simp; omega
      have hdl : (wt.map encM).dropLast = wt.dropLast.map encM := by rw [List.map_dropLast]
      by_cases ho : t.1 = opOf m.1
      · simp only [ho, if_true]
        have ih := joined_loop h5 (f := f) (s := s) (x4 := x4) n ms cl wt.dropLast (some (.val (encM m))) (fun k hk => hc k (.tail _ hk)) (by omega) (by simp; omega)
        have e1 : turn Γ (.one 6) jB (encM m) [f, s, some (.val (.int n)), some (.own (cl.map encM)), x4, some (.own (wt.map encM)), s6] = .ok (.next, [f, s, some (.val (.int n)), some (.own (cl.map encM)), x4, some (.own (wt.dropLast.map encM)), some (.val (encM m))]) := by
          unfold jB
          simp [turn, bindT, listAt, ownAt, hlm, hne, hz', idx_M0, hoc, cmpF, ho]
        rw [List.map_cons, forL_next e1]
        exact ih
      · simp only [ho, if_false]
        have e1 : ∃ st', turn Γ (.one 6) jB (encM m) [f, s, some (.val (.int n)), some (.own (cl.map encM)), x4, some (.own (wt.map encM)), s6] = .ok (.ret (.val (encR ⟨cl, some (low n m), []⟩)), st') := by
          unfold jB
          refine ⟨[f, s, some (.val (.int n)), some (.val (.list (cl.map encM))), x4, some (.own (wt.dropLast.map encM)), some (.val (encM m))], ?_⟩
          simp [turn, bindT, listAt, ownAt, hlm, hne, hz', idx_M0, hoc, cmpF, ho, h5 m n]
          rfl
        obtain ⟨st', e1⟩ := e1
        exact ⟨st', by rw [List.map_cons, forL_ret e1]⟩
end Mine.L1
end

section
open PySem PySem.Calls PyProof.Rows
set_option Elab.async false
set_option linter.unusedVariables false
namespace Mine.L1

theorem okLen_of {n : Nat} (h : n ≤ 100000) : okLen n = true := by unfold okLen; simp; omega

theorem joined_ok {Γ : Nat → Fn} (h5 : Sp5 Γ) (a b : Rd) (n : Nat) (hc : ∀ m ∈ b.cl, isCl m.1 = true) (hz : a.sz + b.sz ≤ 100000) : runDef Γ 3 4 b_joined [encR a, encR b, .int n] = .ret (.val (encR (join a b n))) := by
  refine (run_def (by rfl)).trans ?_
  unfold Rd.sz at hz
  unfold b_joined
  have hb1 : idxF (encR b) (.int 0) = some (.list (b.cl.map encM)) := by unfold encR; simp [idxF, at?, okLen]
  have hb2 : idxF (encR b) (.int 1) = some (encO b.ft) := by unfold encR; simp [idxF, at?, okLen]
  have hb3 : idxF (encR b) (.int 2) = some (.list (b.wt.map encM)) := by unfold encR; simp [idxF, at?, okLen]
  have z1 : okLen a.cl.length = true := okLen_of (by omega)
  have z2 : okLen a.wt.length = true := okLen_of (by omega)
  have z3 : okLen b.cl.length = true := okLen_of (by omega)
  have z4 : okLen b.wt.length = true := okLen_of (by omega)
  cases ha : a.ft with
  | some k =>
    have hj : join a b n = a := by unfold join; rw [ha]; rfl
    have hu : encR a = .tuple [.list (a.cl.map encM), encM k, .list (a.wt.map encM)] := by unfold encR; rw [ha]; rfl
    have hk : isN (encM k) = false := rfl
    rw [hj]
    simp [hu, setAll, hk]
  | none =>
    have hu : encR a = .tuple [.list (a.cl.map encM), .none, .list (a.wt.map encM)] := by unfold encR; rw [ha]; rfl
    have hloop := joined_loop h5 (f := some (.val (encR a))) (s := some (.val (encR b))) (x4 := some (.val .none)) n b.cl a.cl a.wt none hc (by omega) (by omega)
    have el := ex_loop (Γ := Γ) (t := .one 6) (it := .data (.idx (.var 1) (.int 0))) (B := jB) (st := [some (.val (encR a)), some (.val (encR b)), some (.val (.int n)), some (.own (a.cl.map encM)), some (.val .none), some (.own (a.wt.map encM)), none])
      (st1 := [some (.val (encR a)), some (.val (encR b)), some (.val (.int n)), some (.own (a.cl.map encM)), some (.val .none), some (.own (a.wt.map encM)), none]) (xs := b.cl.map encM) (by simp [hb1, itemsF, z3])
    unfold jB at el
    have hn : isN PyData.none = true := rfl
    cases hj : jl n b.cl a.cl a.wt with
    | inl r =>
      rw [hj] at hloop
      obtain ⟨st', hloop⟩ := hloop
      unfold jB at hloop
      rw [join_l ha hj]
      rw [hu] at el hloop ⊢
      simp [setAll, hn, z1, z2, el, hloop]
    | inr p =>
      obtain ⟨cl, wt⟩ := p
      rw [hj] at hloop
      obtain ⟨s6', hloop⟩ := hloop
      unfold jB at hloop
      dsimp only at hloop
      cases hf : b.ft with
      | some m =>
        rw [join_f ha hj hf]
        rw [hf] at hb2
        have hk : isN (encM m) = false := rfl
        have hb2' : idxF (encR b) (.int 1) = some (encM m) := hb2
        rw [hu] at el hloop ⊢
        simp [setAll, hn, z1, z2, el, hloop, hb2', hk, h5 m n]
        rfl
      | none =>
        rw [join_r ha hj hf]
        rw [hf] at hb2
        have hb2' : idxF (encR b) (.int 1) = some .none := hb2
        have hwl : wt.length ≤ 100000 := by
          have : ∀ (ms cl wt cl' wt' : List Mk), jl n ms cl wt = .inr (cl', wt') → wt'.length ≤ wt.length := by
            intro ms
            induction ms with
            | nil => intro cl wt cl' wt' h; cases h; exact Nat.le_refl _
            | cons m ms ih =>
              intro cl wt cl' wt' h
              rw [jl] at h
              cases e : wt.getLast? with
              | none => rw [e] at h; exact ih _ _ _ _ h
              | some t =>
                rw [e] at h
                dsimp only at h
                split at h
                · have := ih _ _ _ _ h; simp at this; omega
                · cases h
          have := this _ _ _ _ _ hj
          omega
        have hwl' : wt.length ≤ a.wt.length := by
          have : ∀ (ms cl wt cl' wt' : List Mk), jl n ms cl wt = .inr (cl', wt') → wt'.length ≤ wt.length := by
            intro ms
            induction ms with
            | nil => intro cl wt cl' wt' h; cases h; exact Nat.le_refl _
            | cons m ms ih =>
              intro cl wt cl' wt' h
              rw [jl] at h
              cases e : wt.getLast? with
              | none => rw [e] at h; exact ih _ _ _ _ h
              | some t =>
                rw [e] at h
                dsimp only at h
                split at h
                · have := ih _ _ _ _ h; simp at this; omega
                · cases h
          exact this _ _ _ _ _ hj
        have hcomp : ∀ st : St, slot st 1 = some (.val (encR b)) → slot st 2 = some (.val (.int n)) → st.length = 7 → ev Γ (.comp 7 (.call 5 (.cons (.var 7) (.cons (.var 2) .nil))) (.data (.idx (.var 1) (.int 2))) .no) st = .ok (.own ((b.wt.map (low n)).map encM), st) := by
          intro st h1 h2 h7
          refine ev_comp (xs := b.wt.map encM) (by simp [h1, hb3, itemsF, z4]) ?_ (by simpa using z4) h7
          rw [mapR_map (g := fun d => match d with | .tuple [a, .int r, p] => .tuple [a, .int (r + n), p] | d => d)]
          · congr 1
            rw [List.map_map, List.map_map]
            refine List.map_congr_left fun m _ => ?_
            simp [encM, low]
          · intro d hd
            obtain ⟨m, _, rfl⟩ := List.mem_map.mp hd
            unfold inStep
            have e7 : slot (vals st ++ [some (.val (encM m))]) 7 = some (.val (encM m)) := by
              unfold slot
              rw [List.getElem?_append_right (by simp [vals, h7])]
              simp [vals, h7]
            have e2 : slot (vals st ++ [some (.val (encM m))]) 2 = some (.val (.int n)) := by
              unfold slot at h2 ⊢
              rw [List.getElem?_append_left (by simp [vals, h7])]
              unfold vals
              rw [List.getElem?_map]
              cases hg : st[2]? with
              | none => rw [hg] at h2; cases h2
              | some o => rw [hg] at h2; simp at h2; subst h2; rfl
            simp [e7, e2, h5 m n]
            simp [encM, low]
        rw [hu] at el hloop ⊢
        have hlen : okLen (wt.length + b.wt.length) = true := okLen_of (by omega)
        have hc' := hcomp [some (.val (.tuple [.list (a.cl.map encM), .none, .list (a.wt.map encM)])), some (.val (encR b)), some (.val (.int n)), some (.val (.list (cl.map encM))), some (.val .none), some (.val (.list (wt.map encM))), s6'] rfl rfl rfl
        simp [setAll, hn, z1, z2, el, hloop, hb2', hc', binF, hlen]
        unfold encR
        simp [encO]
end Mine.L1
end

section
open PySem PySem.Calls PyProof.Rows
set_option Elab.async false
set_option linter.unusedVariables false
namespace Mine.L1

/-! the rest of the text's reading -/
noncomputable def tNo : List Nat := [99, 108, 111, 115, 101, 115, 32, 110, 111, 116, 104, 105, 110, 103]
noncomputable def tAno : List Nat := [99, 108, 111, 115, 101, 115, 32, 97, 110, 111, 116, 104, 101, 114]
noncomputable def tLft : List Nat := [108, 101, 102, 116, 32, 111, 112, 101, 110]
noncomputable def encFt : Ft → PyData
  | .ok => .none
  | .no r p => .tuple [.int r, .int p, strD tNo]
  | .ano r p => .tuple [.int r, .int p, strD tAno]
  | .lft r p => .tuple [.int r, .int p, strD tLft]

theorem idx_M1 (m : Mk) : idxF (encM m) (.int 1) = some (.int m.2.1) := by unfold encM; simp [idxF, at?, okLen]
theorem idx_M2 (m : Mk) : idxF (encM m) (.int 2) = some (.int m.2.2) := by unfold encM; simp [idxF, at?, okLen]
theorem idx_last {xs : List PyData} {x : PyData} (h : xs.getLast? = some x) (hz : okLen xs.length = true) : idxF (.list xs) (.int (-1)) = some x := by
  have hne : xs ≠ [] := fun e => by rw [e] at h; cases h
  have hl : 0 < xs.length := List.length_pos_iff.mpr hne
  unfold idxF at?
  simp only [hz, if_true]
  have h1 : ¬ (0 : Int) ≤ -1 := by omega
  have h2 : -(xs.length : Int) ≤ -1 := by omega
  have h3 : ((xs.length : Int) + -1).toNat = xs.length - 1 := by omega
  simp only [h1, h2, if_true, if_false, Option.bind_some, h3]
  rw [List.getLast?_eq_getElem?] at h
  exact h

theorem fault_in_ok (Γ : Nat → Fn) (R : Rd) (hz : R.sz ≤ 100000) : runDef Γ 1 3 b_fault_in [encR R] = .ret (.val (encFt (faultR R))) := by
  refine (run_def (by rfl)).trans ?_
  unfold Rd.sz at hz
  unfold b_fault_in faultR
  have z1 : okLen R.cl.length = true := okLen_of (by omega)
  have z2 : okLen R.wt.length = true := okLen_of (by omega)
  have hu : encR R = .tuple [.list (R.cl.map encM), encO R.ft, .list (R.wt.map encM)] := rfl
  rw [hu]
  cases hcl : R.cl with
  | cons m l =>
    have z1' : okLen (l.length + 1) = true := by rw [hcl] at z1; simpa using z1
    have e0 : idxF (.list (encM m :: l.map encM)) (.int 0) = some (encM m) := by unfold idxF at?; simp [z1']
    simp [setAll, listAt, e0, idx_M1, idx_M2]
    rfl
  | nil =>
    cases hft : R.ft with
    | some m =>
      have hk : isN (encM m) = false := rfl
      simp [setAll, listAt, encO, hk, idx_M1, idx_M2]
      rfl
    | none =>
      have hn : isN PyData.none = true := rfl
      cases hl : R.wt.getLast? with
      | none =>
        have : R.wt = [] := by simpa using hl
        simp [setAll, listAt, encO, hn, this]
        rfl
      | some m =>
        have hne : R.wt ≠ [] := fun e => by rw [e] at hl; cases hl
        have e0 : idxF (.list (R.wt.map encM)) (.int (-1)) = some (encM m) := idx_last (by rw [List.getLast?_map, hl]; rfl) (by simpa using z2)
        simp [setAll, listAt, encO, hn, hne, e0, idx_M1, idx_M2]
        rfl

theorem in_none {l w : List Nat} (hw : w ≠ []) (h : ∀ c ∈ w, c ∉ l) : inStr (S l) (S w) = false := by
  cases hi : inStr (S l) (S w) with
  | false => rfl
  | true =>
    exfalso
    unfold inStr at hi
    obtain ⟨i, h1, h2⟩ := (PySem.StrLaws.found_iff _ _).mp hi
    cases w with
    | nil => exact hw rfl
    | cons c w =>
      have hm : c ∈ l := by
        rw [PySem.StrLaws.subAt_eq, beq_iff_eq] at h2
        have h3 : (l.drop i).take (S (c :: w)).length = c :: w := by simpa [S] using h2
        have h4 : c ∈ (l.drop i).take (S (c :: w)).length := by rw [h3]; exact .head _
        exact List.mem_of_mem_drop (List.mem_of_mem_take h4)
      exact h c (.head _) hm

theorem is_bracket_word (Γ : Nat → Fn) {w : List Nat} (hw : w ≠ []) (h : ∀ c ∈ w, isBr c = false) : runDef Γ 1 0 b_is_bracket [strD w] = .ret (.val (.bool false)) := by
  refine (run_def (by rfl)).trans ?_
  unfold b_is_bracket
  have h1 : inStr (S [40, 91, 123]) (S w) = false := in_none hw fun c hc hm => by
    have := h c hc
    unfold isBr isOp at this
    simp [hm] at this
  have h2 : openF (S w) = none := by
    unfold openF
    simp only [cs_S]
    have n1 : w ≠ [41] := fun e => by have := h 41 (by rw [e]; simp); simp [isBr, isCl, isOp] at this
    have n2 : w ≠ [93] := fun e => by have := h 93 (by rw [e]; simp); simp [isBr, isCl, isOp] at this
    have n3 : w ≠ [125] := fun e => by have := h 125 (by rw [e]; simp); simp [isBr, isCl, isOp] at this
    simp [n1, n2, n3]
  simp [cmpF, h1, h2]
noncomputable def Sp3 (Γ : Nat → Fn) : Prop := (∀ c, Γ 3 [ch c] = .ret (.val (.bool (isBr c)))) ∧ ∀ w, w ≠ [] → (∀ c ∈ w, isBr c = false) → Γ 3 [strD w] = .ret (.val (.bool false))
noncomputable def Sp7 (Γ : Nat → Fn) : Prop := ∀ a b n, (∀ m ∈ b.cl, isCl m.1 = true) → a.sz + b.sz ≤ 100000 → Γ 7 [encR a, encR b, .int (n : Nat)] = .ret (.val (encR (join a b n)))

inductive Tk where
  | word (b : Nat) (w : List Nat) (e : Nat)
  | br (p c : Nat)
noncomputable def encT : Tk → PyData
  | .word b w e => .tuple [.int b, strD w, .int e]
  | .br p c => .tuple [.int p, ch c, .int (p + 1)]
noncomputable def Tk.good : Tk → Prop
  | .word _ w _ => w ≠ [] ∧ ∀ c ∈ w, isBr c = false
  | .br _ c => isBr c = true
noncomputable def marksT : List Tk → List Mk
  | [] => []
  | .word .. :: r => marksT r
  | .br p c :: r => (c, 0, p) :: marksT r
theorem marksT_append : ∀ a b, marksT (a ++ b) = marksT a ++ marksT b
  | [], b => rfl
  | .word .. :: r, b => marksT_append r b
  | .br p c :: r, b => by rw [List.cons_append, marksT, marksT, marksT_append r b]; rfl
theorem marksT_len : ∀ a, (marksT a).length ≤ a.length
  | [] => Nat.le_refl _
  | .word .. :: r => Nat.le_succ_of_le (marksT_len r)
  | .br p c :: r => Nat.succ_le_succ (marksT_len r)

noncomputable def rB : CSs := (.cons (.iff (.call 3 (.cons (.var 3) .nil)) (.cons (.assign 5 (.tup (.cons (.var 3) (.cons (.int 0) (.cons (.var 2) .nil))))) (.cons (.assign 6 (.tup (.cons (.lst .nil) (.cons .none (.cons (.lst (.cons (.var 5) .nil)) .nil))))) (.cons (.iff (.inOpen (.var 3)) (.cons (.assign 6 (.tup (.cons (.lst (.cons (.var 5) .nil)) (.cons .none (.cons (.lst .nil) .nil))))) .nil) .nil) (.cons (.assign 1 (.call 7 (.cons (.var 1) (.cons (.var 6) (.cons (.int 0) .nil))))) .nil)))) .nil) .nil)

theorem low_zero (m : Mk) : low 0 m = m := rfl
theorem join_one (a : Rd) (m : Mk) : join a (step .nil m) 0 = step a m := by
  have := join_run a 0 [m]
  exact this

theorem reading_loop {Γ : Nat → Fn} (h3 : Sp3 Γ) (h7 : Sp7 Γ) {t : Option F} : ∀ (ts : List Tk) (R : Rd) (s2 s3 s4 s5 s6 : Option F), (∀ k ∈ ts, k.good) → R.sz + ts.length ≤ 50000 →
    ∃ s2' s3' s4' s5' s6', forL (turn Γ (.many [2, 3, 4]) rB) (ts.map encT) [t, some (.val (encR R)), s2, s3, s4, s5, s6] = .ok (.next, [t, some (.val (encR (run R (marksT ts)))), s2', s3', s4', s5', s6'])
  | [], R, s2, s3, s4, s5, s6, _, _ => ⟨s2, s3, s4, s5, s6, rfl⟩
  | .word b w e :: ts, R, s2, s3, s4, s5, s6, hg, hz => by
    simp only [List.length_cons] at hz
    obtain ⟨hw1, hw2⟩ := hg _ (.head _)
    obtain ⟨a2, a3, a4, a5, a6, ih⟩ := reading_loop h3 h7 (t := t) ts R (some (.val (.int b))) (some (.val (strD w))) (some (.val (.int e))) s5 s6 (fun k hk => hg k (.tail _ hk)) (by omega)
    refine ⟨a2, a3, a4, a5, a6, ?_⟩
    have e1 : turn Γ (.many [2, 3, 4]) rB (encT (.word b w e)) [t, some (.val (encR R)), s2, s3, s4, s5, s6] = .ok (.next, [t, some (.val (encR R)), some (.val (.int b)), some (.val (strD w)), some (.val (.int e)), s5, s6]) := by
      unfold rB
      simp [turn, bindT, setAll, encT, h3.2 w hw1 hw2]
    rw [List.map_cons, forL_next e1, ih]
    rfl
  | .br p c :: ts, R, s2, s3, s4, s5, s6, hg, hz => by
    simp only [List.length_cons] at hz
    have hbr : isBr c = true := hg _ (.head _)
    have hsz : (step R (c, 0, p)).sz ≤ R.sz + 1 := run_sz R [(c, 0, p)]
    have hsz1 : (step .nil (c, 0, p)).sz ≤ 1 := run_sz .nil [(c, 0, p)]
    have hcl : ∀ m ∈ (step .nil (c, 0, p)).cl, isCl m.1 = true := run_cl .nil (fun m hm => nomatch hm) [(c, 0, p)]
    have h7' := h7 R (step .nil (c, 0, p)) 0 hcl (by omega)
    rw [join_one] at h7'
    have hoc := open_one c
    cases hc : isCl c with
    | true =>
      have hs : step .nil (c, 0, p) = ⟨[(c, 0, p)], none, []⟩ := step_a rfl hc rfl
      rw [hs] at h7'
      rw [hc] at hoc
      obtain ⟨a2, a3, a4, a5, a6, ih⟩ := reading_loop h3 h7 (t := t) ts (step R (c, 0, p)) (some (.val (.int p))) (some (.val (ch c))) (some (.val (.int (p + 1)))) (some (.val (encM (c, 0, p)))) (some (.val (encR ⟨[(c, 0, p)], none, []⟩))) (fun k hk => hg k (.tail _ hk)) (by omega)
      refine ⟨a2, a3, a4, a5, a6, ?_⟩
      have e1 : turn Γ (.many [2, 3, 4]) rB (encT (.br p c)) [t, some (.val (encR R)), s2, s3, s4, s5, s6] = .ok (.next, [t, some (.val (encR (step R (c, 0, p)))), some (.val (.int p)), some (.val (ch c)), some (.val (.int (p + 1))), some (.val (encM (c, 0, p))), some (.val (encR ⟨[(c, 0, p)], none, []⟩))]) := by
        have h7'' : Γ 7 [encR R, .tuple [.list [.tuple [ch c, .int 0, .int p]], .none, .list []], .int 0] = .ret (.val (encR (step R (c, 0, p)))) := h7'
        unfold rB
        simp [turn, bindT, setAll, encT, h3.1 c, hbr, hoc, h7'']
        exact ⟨rfl, rfl⟩
      rw [List.map_cons, forL_next e1, ih]
      rfl
    | false =>
      have hs : step .nil (c, 0, p) = ⟨[], none, [(c, 0, p)]⟩ := step_d rfl hc
      rw [hs] at h7'
      rw [hc] at hoc
      obtain ⟨a2, a3, a4, a5, a6, ih⟩ := reading_loop h3 h7 (t := t) ts (step R (c, 0, p)) (some (.val (.int p))) (some (.val (ch c))) (some (.val (.int (p + 1)))) (some (.val (encM (c, 0, p)))) (some (.val (encR ⟨[], none, [(c, 0, p)]⟩))) (fun k hk => hg k (.tail _ hk)) (by omega)
      refine ⟨a2, a3, a4, a5, a6, ?_⟩
      have e1 : turn Γ (.many [2, 3, 4]) rB (encT (.br p c)) [t, some (.val (encR R)), s2, s3, s4, s5, s6] = .ok (.next, [t, some (.val (encR (step R (c, 0, p)))), some (.val (.int p)), some (.val (ch c)), some (.val (.int (p + 1))), some (.val (encM (c, 0, p))), some (.val (encR ⟨[], none, [(c, 0, p)]⟩))]) := by
        have h7'' : Γ 7 [encR R, .tuple [.list [], .none, .list [.tuple [ch c, .int 0, .int p]]], .int 0] = .ret (.val (encR (step R (c, 0, p)))) := h7'
        unfold rB
        simp [turn, bindT, setAll, encT, h3.1 c, hbr, hoc, h7'']
        exact ⟨rfl, rfl⟩
      rw [List.map_cons, forL_next e1, ih]
      rfl

theorem reading_of_ok {Γ : Nat → Fn} (h3 : Sp3 Γ) (h7 : Sp7 Γ) (ts : List Tk) (hg : ∀ k ∈ ts, k.good) (hz : ts.length ≤ 50000) : runDef Γ 1 6 b_reading_of [.list (ts.map encT)] = .ret (.val (encR (run .nil (marksT ts)))) := by
  refine (run_def (by rfl)).trans ?_
  unfold b_reading_of
  have z1 : okLen ts.length = true := okLen_of (by omega)
  obtain ⟨a2, a3, a4, a5, a6, h⟩ := reading_loop h3 h7 (t := some (.val (.list (ts.map encT)))) ts .nil none none none none none hg (by simpa [Rd.sz, Rd.nil] using hz)
  have el := ex_loop (Γ := Γ) (t := .many [2, 3, 4]) (it := .data (.var 0)) (B := rB) (st := [some (.val (.list (ts.map encT))), some (.val (encR .nil)), none, none, none, none, none]) (st1 := [some (.val (.list (ts.map encT))), some (.val (encR .nil)), none, none, none, none, none]) (xs := ts.map encT) (by simp [itemsF, z1])
  rw [h] at el
  unfold rB at el
  have he : encR .nil = .tuple [.list [], .none, .list []] := rfl
  rw [he] at el
  simp [el]
end Mine.L1
end

section
open PySem PySem.Calls PyProof.Rows
set_option Elab.async false
set_option linter.unusedVariables false
namespace Mine.L1

/-! rows taken apart -/
noncomputable def ends (c : Nat) : Bool := decide (c = 32) || isBr c
noncomputable def tkStep (L : List Nat) (i : Nat) (bg : Option Nat) (c : Nat) : List Tk :=
  (if ends c then (match bg with | some b => [.word b ((L.take i).drop b) i] | none => []) else []) ++ (if isBr c then [.br i c] else [])
noncomputable def bgStep (i : Nat) (bg : Option Nat) (c : Nat) : Option Nat := if ends c then none else (match bg with | some b => some b | none => some i)
noncomputable def tk (L : List Nat) : Nat → Option Nat → List Nat → List Tk
  | _, _, [] => []
  | i, bg, c :: rest => tkStep L i bg c ++ tk L (i + 1) (bgStep i bg c) rest
noncomputable def toks (L : List Nat) : List Tk := tk L 0 none (L ++ [32])

noncomputable def marksFrom : Nat → List Nat → List Mk
  | _, [] => []
  | i, c :: l => if isBr c then (c, 0, i) :: marksFrom (i + 1) l else marksFrom (i + 1) l

theorem marks_tkStep (L : List Nat) (i : Nat) (bg : Option Nat) (c : Nat) : marksT (tkStep L i bg c) = if isBr c then [(c, 0, i)] else [] := by
  unfold tkStep
  rw [marksT_append]
  cases isBr c <;> cases ends c <;> cases bg <;> rfl
theorem marks_tk (L : List Nat) : ∀ (rest : List Nat) (i : Nat) (bg : Option Nat), marksT (tk L i bg rest) = marksFrom i rest
  | [], _, _ => rfl
  | c :: rest, i, bg => by
    rw [tk, marksT_append, marks_tkStep, marks_tk L rest, marksFrom]
    cases isBr c <;> rfl
theorem marksFrom_append : ∀ (a b : List Nat) (i : Nat), marksFrom i (a ++ b) = marksFrom i a ++ marksFrom (i + a.length) b
  | [], b, i => by simp [marksFrom]
  | c :: a, b, i => by
    rw [List.cons_append, marksFrom, marksFrom, marksFrom_append a b (i + 1)]
    have : i + 1 + a.length = i + (c :: a).length := by simp; omega
    rw [this]
    cases isBr c <;> simp
theorem marks_toks (L : List Nat) : marksT (toks L) = marksFrom 0 L := by
  unfold toks
  rw [marks_tk, marksFrom_append]
  simp [marksFrom, isBr, isOp, isCl]
theorem tkStep_len (L : List Nat) (i : Nat) (bg : Option Nat) (c : Nat) : (tkStep L i bg c).length ≤ 2 := by
  unfold tkStep
  cases isBr c <;> cases ends c <;> cases bg <;> simp
theorem tk_len (L : List Nat) : ∀ (rest : List Nat) (i : Nat) (bg : Option Nat), (tk L i bg rest).length ≤ 2 * rest.length
  | [], _, _ => Nat.le_refl _
  | c :: rest, i, bg => by
    rw [tk, List.length_append, List.length_cons]
    have := tkStep_len L i bg c
    have := tk_len L rest (i + 1) (bgStep i bg c)
    omega
theorem toks_len (L : List Nat) : (toks L).length ≤ 2 * L.length + 2 := by
  have := tk_len L (L ++ [32]) 0 none
  unfold toks
  simp at this ⊢
  omega

/-- where a word began -/
noncomputable def BgOk (L : List Nat) (i : Nat) : Option Nat → Prop
  | none => True
  | some b => b < i ∧ i ≤ L.length ∧ ∀ c ∈ (L.take i).drop b, isBr c = false

theorem tk_good (L : List Nat) : ∀ (rest pre : List Nat) (bg : Option Nat), L ++ [32] = pre ++ rest → BgOk L pre.length bg → ∀ k ∈ tk L pre.length bg rest, k.good
  | [], _, _, _, _ => fun k hk => nomatch hk
  | c :: rest, pre, bg, hL, hb => by
    intro k hk
    rw [tk] at hk
    rcases List.mem_append.mp hk with hk | hk
    · unfold tkStep at hk
      rcases List.mem_append.mp hk with hk | hk
      · split at hk
        · split at hk
          · rename_i b
            rw [List.mem_singleton.mp hk]
            obtain ⟨h1, h2, h3⟩ := hb
            refine ⟨fun e => ?_, h3⟩
            have := congrArg List.length e
            simp at this
            omega
          · cases hk
        · cases hk
      · split at hk
        · rename_i hbr
          rw [List.mem_singleton.mp hk]; exact hbr
        · cases hk
    · have hp : (pre ++ [c]).length = pre.length + 1 := by simp
      rw [← hp] at hk
      refine tk_good L rest (pre ++ [c]) _ (by rw [hL]; simp) ?_ k hk
      unfold bgStep
      cases he : ends c with
      | true => simp [BgOk]
      | false =>
        simp only [Bool.false_eq_true, if_false]
        unfold ends at he
        simp only [Bool.or_eq_false_iff, decide_eq_false_iff_not] at he
        have hlt : pre.length < L.length := by
          rcases Nat.lt_or_ge pre.length L.length with q | q
          · exact q
          · exfalso
            have h1 := congrArg List.length hL
            simp at h1
            have hr : rest = [] := by cases rest with | nil => rfl | cons _ _ => simp at h1; omega
            subst hr
            have : (L ++ [32]).getLast? = some c := by rw [hL]; simp
            simp at this
            exact he.1 this.symm
        have hc : L[pre.length]? = some c := by
          have h1 : (L ++ [32])[pre.length]? = some c := by rw [hL]; simp
          rwa [List.getElem?_append_left hlt] at h1
        have htake : L.take (pre.length + 1) = L.take pre.length ++ [c] := by
          rw [List.take_add_one, hc]; rfl
        cases bg with
        | none =>
          refine ⟨by rw [hp]; omega, by rw [hp]; omega, fun d hd => ?_⟩
          rw [hp, htake] at hd
          have hl : (L.take pre.length).length = pre.length := by simp; omega
          rw [List.drop_append_of_le_length (by omega), List.drop_of_length_le (by omega)] at hd
          have hdc : d = c := by simpa using hd
          rw [hdc]; exact he.2
        | some b =>
          obtain ⟨h1, h2, h3⟩ := hb
          refine ⟨by rw [hp]; omega, by rw [hp]; omega, fun d hd => ?_⟩
          rw [hp, htake] at hd
          have hl : (L.take pre.length).length = pre.length := by simp; omega
          rw [List.drop_append_of_le_length (by omega)] at hd
          rcases List.mem_append.mp hd with hd | hd
          · exact h3 d hd
          · rw [List.mem_singleton.mp hd]; exact he.2
theorem toks_good (L : List Nat) : ∀ k ∈ toks L, k.good := tk_good L (L ++ [32]) [] none rfl trivial

noncomputable def aB : CSs := (.cons (.assign 5 (.or (.cmp .Eq (.var 4) (.str [32])) (.call 3 (.cons (.var 4) .nil)))) (.cons (.iff (.and (.var 5) (.isNotNone (.var 2))) (.cons (.append 1 (.tup (.cons (.var 2) (.cons (.slc (.var 0) (.yes (.var 2)) (.yes (.var 3))) (.cons (.var 3) .nil))))) (.cons (.assign 2 .none) .nil)) .nil) (.cons (.iff (.call 3 (.cons (.var 4) .nil)) (.cons (.append 1 (.tup (.cons (.var 3) (.cons (.var 4) (.cons (.bin .Add (.var 3) (.int 1)) .nil))))) .nil) (.cons (.iff (.and (.not (.var 5)) (.isNone (.var 2))) (.cons (.assign 2 (.var 3)) .nil) .nil) .nil)) .nil)))
noncomputable def encN : Option Nat → PyData
  | none => .none
  | some b => .int b

theorem slc_ok {L : List Nat} {b i : Nat} (hL : L.length ≤ 1000) (hb : b ≤ 1000) (hi : i ≤ 1000) : slF (strD L) (some (.int b)) (some (.int i)) = some (.val (strD ((L.take i).drop b))) := by
  have z : okLen L.length = true := okLen_of (by omega)
  have h1 : (0 : Int) ≤ b ∧ (b : Int) < 4611686018427387904 := by omega
  have h2 : (0 : Int) ≤ i ∧ (i : Int) < 4611686018427387904 := by omega
  simp [slF, z, bnd, h1, h2]

theorem isN_int {n : Int} : isN (.int n) = false := rfl
theorem isN_none : isN .none = true := rfl

theorem apart_loop {Γ : Nat → Fn} (h3 : Sp3 Γ) (L : List Nat) (hL : L.length ≤ 500) : ∀ (rest : List Nat) (i : Nat) (bg : Option Nat) (ts : List Tk) (s3 s4 s5 : Option F), i + rest.length ≤ 600 → (∀ b, bg = some b → b ≤ 600) → ts.length ≤ 5000 - 2 * rest.length →  2 * rest.length ≤ 5000 →
    ∃ s2' s3' s4' s5', forL (turn Γ (.many [3, 4]) aB) (enumFrom i (rest.map ch)) [some (.val (strD L)), some (.own (ts.map encT)), some (.val (encN bg)), s3, s4, s5] = .ok (.next, [some (.val (strD L)), some (.own ((ts ++ tk L i bg rest).map encT)), s2', s3', s4', s5'])
  | [], i, bg, ts, s3, s4, s5, _, _, _, _ => ⟨some (.val (encN bg)), s3, s4, s5, by simp [tk, enumFrom, forL_nil]⟩
  | c :: rest, i, bg, ts, s3, s4, s5, hi, hb, hz, hz' => by
    simp only [List.length_cons] at hi hz hz'
    have hstep : (tkStep L i bg c).length ≤ 2 := tkStep_len L i bg c
    obtain ⟨a2, a3, a4, a5, ih⟩ := apart_loop h3 L hL rest (i + 1) (bgStep i bg c) (ts ++ tkStep L i bg c) (some (.val (.int i))) (some (.val (ch c))) (some (.val (.bool (ends c)))) (by omega) (fun b h => by
      unfold bgStep at h
      split at h
      · cases h
      · split at h
        · cases h; exact hb _ rfl
        · cases h; omega) (by simp; omega) (by omega)
    refine ⟨a2, a3, a4, a5, ?_⟩
    have z1 : okLen ts.length = true := okLen_of (by omega)
    have z2 : okLen (ts.length + 1) = true := okLen_of (by omega)
    have e1 : turn Γ (.many [3, 4]) aB (.tuple [.int i, ch c]) [some (.val (strD L)), some (.own (ts.map encT)), some (.val (encN bg)), s3, s4, s5] =
        .ok (.next, [some (.val (strD L)), some (.own ((ts ++ tkStep L i bg c).map encT)), some (.val (encN (bgStep i bg c))), some (.val (.int i)), some (.val (ch c)), some (.val (.bool (ends c)))]) := by
      unfold aB
      cases hbr : isBr c with
      | true =>
        have hc : ¬ c = 32 := fun e => by subst e; simp [isBr, isOp, isCl] at hbr
        have he : ends c = true := by unfold ends; rw [hbr]; simp
        cases bg with
        | none => simp [turn, bindT, setAll, ownAt, cmpF, hc, h3.1 c, hbr, he, encN, isN_none, tkStep, bgStep, binF, z1, encT]
        | some b =>
          have hsl := slc_ok (L := L) (b := b) (i := i) (by omega) (by have := hb b rfl; omega) (by omega)
          simp [turn, bindT, setAll, ownAt, cmpF, hc, h3.1 c, hbr, he, encN, isN_int, isN_none, tkStep, bgStep, binF, z1, z2, encT, hsl]
      | false =>
        by_cases hc : c = 32
        · have he : ends c = true := by unfold ends; simp [hc]
          subst hc
          cases bg with
          | none => simp [turn, bindT, setAll, ownAt, cmpF, h3.1 32, hbr, he, encN, isN_none, tkStep, bgStep, binF, z1, encT]
          | some b =>
            have hsl := slc_ok (L := L) (b := b) (i := i) (by omega) (by have := hb b rfl; omega) (by omega)
            simp [turn, bindT, setAll, ownAt, cmpF, h3.1 32, hbr, he, encN, isN_int, isN_none, tkStep, bgStep, binF, z1, z2, encT, hsl]
        · have he : ends c = false := by unfold ends; simp [hc, hbr]
          cases bg with
          | none => simp [turn, bindT, setAll, ownAt, cmpF, hc, h3.1 c, hbr, he, encN, isN_none, tkStep, bgStep, binF, z1, encT]
          | some b => simp [turn, bindT, setAll, ownAt, cmpF, hc, h3.1 c, hbr, he, encN, isN_int, tkStep, bgStep, binF, z1, encT]
    rw [List.map_cons, enumFrom, forL_next e1, ih, tk, List.append_assoc]

theorem taken_apart_ok {Γ : Nat → Fn} (h3 : Sp3 Γ) (L : List Nat) (hL : L.length ≤ 500) : runDef Γ 1 5 b_taken_apart [strD L] = .ret (.val (.list ((toks L).map encT))) := by
  refine (run_def (by rfl)).trans ?_
  unfold b_taken_apart
  have z1 : okLen (L.length + 1) = true := okLen_of (by omega)
  obtain ⟨a2, a3, a4, a5, h⟩ := apart_loop h3 L hL (L ++ [32]) 0 none [] none none none (by simp; omega) (fun b h => by cases h) (by simp) (by simp; omega)
  have el := ex_loop (Γ := Γ) (t := .many [3, 4]) (it := .enum (.bin .Add (.var 0) (.str [32]))) (B := aB) (st := [some (.val (strD L)), some (.own []), some (.val .none), none, none, none]) (st1 := [some (.val (strD L)), some (.own []), some (.val .none), none, none, none]) (xs := enumFrom 0 ((L ++ [32]).map ch)) (by simp [binF, z1])
  have h' : forL (turn Γ (.many [3, 4]) aB) (enumFrom 0 ((L ++ [32]).map ch)) [some (.val (strD L)), some (.own []), some (.val .none), none, none, none] = _ := h
  rw [h'] at el
  unfold aB at el
  simp [el]
  rfl
/-! texts -/
noncomputable def Sp1 (Γ : Nat → Fn) : Prop := ∀ l, okRow l → Γ 1 [strD l] = .ret (.val (.bool true))
noncomputable def Sp2 (Γ : Nat → Fn) : Prop := ∀ rows : List (List Nat), 1 ≤ rows.length → rows.length ≤ 64 → (∀ l ∈ rows, okRow l) → Γ 2 [.list (rows.map strD)] = .ret (.val (.bool true))
noncomputable def Sp4 (Γ : Nat → Fn) : Prop := ∀ L : List Nat, L.length ≤ 500 → Γ 4 [strD L] = .ret (.val (.list ((toks L).map encT)))
noncomputable def Sp6 (Γ : Nat → Fn) : Prop := ∀ ts : List Tk, (∀ k ∈ ts, k.good) → ts.length ≤ 50000 → Γ 6 [.list (ts.map encT)] = .ret (.val (encR (run .nil (marksT ts))))

theorem is_text_loop {Γ : Nat → Fn} (h1 : Sp1 Γ) {a : Option F} : ∀ (rows : List (List Nat)), (∀ l ∈ rows, okRow l) → ∀ s1, ∃ s1', forL (turn Γ (.one 1) (.cons (.iff (.not (.call 1 (.cons (.var 1) .nil))) (.cons (.ret (.bool false)) .nil) .nil) .nil)) (rows.map strD) [a, s1] = .ok (.next, [a, s1'])
  | [], _, s1 => ⟨s1, rfl⟩
  | c :: l, h, s1 => by
    obtain ⟨s1', e⟩ := is_text_loop h1 (a := a) l (fun c hc => h c (.tail _ hc)) (some (.val (strD c)))
    refine ⟨s1', ?_⟩
    rw [List.map_cons, forL_next (st' := [a, some (.val (strD c))]) ?_]
    · exact e
    · simp [turn, bindT, h1 c (h c (.head _))]

theorem is_text_ok {Γ : Nat → Fn} (h1 : Sp1 Γ) (rows : List (List Nat)) (hl : 1 ≤ rows.length) (hu : rows.length ≤ 64) (h : ∀ l ∈ rows, okRow l) : runDef Γ 1 1 b_is_text [.list (rows.map strD)] = .ret (.val (.bool true)) := by
  refine (run_def (by rfl)).trans ?_
  unfold b_is_text
  have hz : okLen rows.length = true := okLen_of (by omega)
  obtain ⟨s1', e⟩ := is_text_loop h1 (a := some (.val (.list (rows.map strD)))) rows h none
  have el := ex_loop (Γ := Γ) (t := .one 1) (it := .data (.var 0)) (B := (.cons (.iff (.not (.call 1 (.cons (.var 1) .nil))) (.cons (.ret (.bool false)) .nil) .nil) .nil)) (st := [some (.val (.list (rows.map strD))), none]) (st1 := [some (.val (.list (rows.map strD))), none]) (xs := rows.map strD) (by simp [itemsF, hz])
  have g1 : (1 : Int) ≤ rows.length := by omega
  have g2 : (rows.length : Int) ≤ 64 := by omega
  simp [lenF, hz, cmpF, el, e, g1, g2]

theorem parts_of_ok {Γ : Nat → Fn} (h2 : Sp2 Γ) (h4 : Sp4 Γ) (rows : List (List Nat)) (hl : 1 ≤ rows.length) (hu : rows.length ≤ 64) (h : ∀ l ∈ rows, okRow l) :
    runDef Γ 1 0 b_parts_of [.list (rows.map strD)] = .ret (.own (rows.map fun l => .list ((toks l).map encT))) := by
  refine (run_def (by rfl)).trans ?_
  unfold b_parts_of
  have hz : okLen rows.length = true := okLen_of (by omega)
  have hcomp : ev Γ (.comp 1 (.call 4 (.cons (.var 1) .nil)) (.data (.var 0)) .no) [some (.val (.list (rows.map strD)))] = .ok (.own (rows.map fun l => .list ((toks l).map encT)), [some (.val (.list (rows.map strD)))]) := by
    refine ev_comp (xs := rows.map strD) (by simp [itemsF, hz]) ?_ (by simpa using hz) rfl
    rw [mapR_map (g := fun d => match d with | .str q => .list ((toks (cs q)).map encT) | d => d)]
    · congr 1
      rw [List.map_map]
      refine List.map_congr_left fun l _ => ?_
      simp
    · intro d hd
      obtain ⟨l, hl', rfl⟩ := List.mem_map.mp hd
      unfold inStep
      simp [vals, h4 l (by have := (h l hl').1; omega)]
  simp [h2 rows hl hu h, hcomp]

/-- all marks of a text, rows from one on -/
noncomputable def marksAll : Nat → List (List Nat) → List Mk
  | _, [] => []
  | n, l :: ls => (marksFrom 0 l).map (low n) ++ marksAll (n + 1) ls

theorem marksFrom_len : ∀ (l : List Nat) (i : Nat), (marksFrom i l).length ≤ l.length
  | [], _ => Nat.le_refl _
  | c :: l, i => by
    rw [marksFrom]
    have := marksFrom_len l (i + 1)
    split <;> simp <;> omega

noncomputable def pB : CSs := (.cons (.assign 1 (.call 7 (.cons (.var 1) (.cons (.call 6 (.cons (.var 3) .nil)) (.cons (.var 2) .nil))))) .nil)
theorem parts_loop {Γ : Nat → Fn} (h6 : Sp6 Γ) (h7 : Sp7 Γ) {t : Option F} : ∀ (rows : List (List Nat)) (n : Nat) (R : Rd) (s2 s3 : Option F), (∀ l ∈ rows, okRow l) → R.sz + 120 * rows.length ≤ 90000 →
    ∃ s2' s3', forL (turn Γ (.many [2, 3]) pB) (enumFrom n (rows.map fun l => .list ((toks l).map encT))) [t, some (.val (encR R)), s2, s3] = .ok (.next, [t, some (.val (encR (run R (marksAll n rows)))), s2', s3'])
  | [], n, R, s2, s3, _, _ => ⟨s2, s3, rfl⟩
  | l :: rows, n, R, s2, s3, hr, hz => by
    simp only [List.length_cons] at hz
    have hl := hr l (.head _)
    have hml : (marksFrom 0 l).length ≤ 120 := Nat.le_trans (marksFrom_len l 0) hl.1
    have hs1 := run_sz R ((marksFrom 0 l).map (low n))
    have hs2 := run_sz .nil (marksFrom 0 l)
    simp only [List.length_map] at hs1
    have hs3 : (Rd.nil).sz = 0 := rfl
    have e6 := h6 (toks l) (toks_good l) (by have := toks_len l; have := hl.1; omega)
    rw [marks_toks] at e6
    have e7 := h7 R (run .nil (marksFrom 0 l)) n (run_cl .nil (fun m hm => nomatch hm) _) (by omega)
    rw [join_run] at e7
    obtain ⟨a2, a3, ih⟩ := parts_loop h6 h7 (t := t) rows (n + 1) (run R ((marksFrom 0 l).map (low n))) (some (.val (.int n))) (some (.val (.list ((toks l).map encT)))) (fun k hk => hr k (.tail _ hk)) (by omega)
    refine ⟨a2, a3, ?_⟩
    have e1 : turn Γ (.many [2, 3]) pB (.tuple [.int n, .list ((toks l).map encT)]) [t, some (.val (encR R)), s2, s3] = .ok (.next, [t, some (.val (encR (run R ((marksFrom 0 l).map (low n))))), some (.val (.int n)), some (.val (.list ((toks l).map encT)))]) := by
      unfold pB
      simp [turn, bindT, setAll, e6, e7]
    rw [List.map_cons, enumFrom, forL_next e1, ih, marksAll, run_append]

noncomputable def Sp8 (Γ : Nat → Fn) : Prop := ∀ R : Rd, R.sz ≤ 100000 → Γ 8 [encR R] = .ret (.val (encFt (faultR R)))
theorem marksAll_len : ∀ (rows : List (List Nat)) (n : Nat), (∀ l ∈ rows, okRow l) → (marksAll n rows).length ≤ 120 * rows.length
  | [], _, _ => Nat.le_refl _
  | l :: rows, n, h => by
    rw [marksAll, List.length_append, List.length_map, List.length_cons]
    have := marksAll_len rows (n + 1) fun k hk => h k (.tail _ hk)
    have := Nat.le_trans (marksFrom_len l 0) (h l (.head _)).1
    omega

theorem fault_in_parts_ok {Γ : Nat → Fn} (h6 : Sp6 Γ) (h7 : Sp7 Γ) (h8 : Sp8 Γ) (rows : List (List Nat)) (hu : rows.length ≤ 64) (h : ∀ l ∈ rows, okRow l) :
    runDef Γ 1 3 b_fault_in_parts [.list (rows.map fun l => .list ((toks l).map encT))] = .ret (.val (encFt (faultR (run .nil (marksAll 0 rows))))) := by
  refine (run_def (by rfl)).trans ?_
  unfold b_fault_in_parts
  have hz : okLen rows.length = true := okLen_of (by omega)
  obtain ⟨a2, a3, hp⟩ := parts_loop h6 h7 (t := some (.val (.list (rows.map fun l => .list ((toks l).map encT))))) rows 0 .nil none none h (by have : (Rd.nil).sz = 0 := rfl; omega)
  have el := ex_loop (Γ := Γ) (t := .many [2, 3]) (it := .enum (.var 0)) (B := pB) (st := [some (.val (.list (rows.map fun l => .list ((toks l).map encT)))), some (.val (encR .nil)), none, none]) (st1 := [some (.val (.list (rows.map fun l => .list ((toks l).map encT)))), some (.val (encR .nil)), none, none]) (xs := enumFrom 0 (rows.map fun l => .list ((toks l).map encT))) (by simp [hz])
  rw [hp] at el
  unfold pB at el
  have he : encR .nil = .tuple [.list [], .none, .list []] := rfl
  rw [he] at el
  have hsz := run_sz .nil (marksAll 0 rows)
  have hsz2 := marksAll_len rows 0 h
  have h8' := h8 (run .nil (marksAll 0 rows)) (by have : (Rd.nil).sz = 0 := rfl; omega)
  simp [el, h8']

noncomputable def Sp9 (Γ : Nat → Fn) : Prop := ∀ rows : List (List Nat), 1 ≤ rows.length → rows.length ≤ 64 → (∀ l ∈ rows, okRow l) → Γ 9 [.list (rows.map strD)] = .ret (.own (rows.map fun l => .list ((toks l).map encT)))
noncomputable def Sp10 (Γ : Nat → Fn) : Prop := ∀ rows : List (List Nat), rows.length ≤ 64 → (∀ l ∈ rows, okRow l) → Γ 10 [.list (rows.map fun l => .list ((toks l).map encT))] = .ret (.val (encFt (faultR (run .nil (marksAll 0 rows)))))
theorem fault_of_ok {Γ : Nat → Fn} (h9 : Sp9 Γ) (h10 : Sp10 Γ) (rows : List (List Nat)) (hl : 1 ≤ rows.length) (hu : rows.length ≤ 64) (h : ∀ l ∈ rows, okRow l) :
    runDef Γ 1 0 b_fault_of [.list (rows.map strD)] = .ret (.val (encFt (faultR (run .nil (marksAll 0 rows))))) := by
  refine (run_def (by rfl)).trans ?_
  unfold b_fault_of
  simp [h9 rows hl hu h, h10 rows hu h]
end Mine.L1
end

section
open PySem PySem.Calls PyProof.Rows
set_option Elab.async false
set_option linter.unusedVariables false
namespace Mine.L1

/-! the law's own reading -/
theorem ev_find {Γ : Nat → Fn} {st : St} {a b} : ev Γ (.find a b) st = (toD (ev Γ a st)).bind fun (x, st) => match x with
    | .str s => (toD (ev Γ b st)).bind fun (y, st) => (match y with
      | .str t => (match cs t with | [c] => (if okLen (cs s).length then .ok (.val (.int (findF (cs s) c)), st) else .stuck) | _ => .stuck)
      | _ => .stuck)
    | _ => .stuck := rfl
theorem ev_idxv {Γ : Nat → Fn} {st : St} {i k} : ev Γ (.idxv i k) st = (match listAt st i with
    | some _ => (toD (ev Γ k st)).bind fun (y, st) => (match listAt st i with | some xs => okD (idxF (.list xs) y) st | none => .stuck)
    | none => .stuck) := rfl

theorem find_same {o c : Nat} (ho : isOp o = true) (hc : isCl c = true) : (findF [40, 91, 123] o != findF [41, 93, 125] c) = !decide (o = opOf c) := by
  unfold isOp at ho
  unfold isCl at hc
  simp at ho hc
  rcases ho with rfl | rfl | rfl <;> rcases hc with rfl | rfl | rfl <;> decide

theorem lf_append : ∀ (a b wt : List Mk), lf (a ++ b) wt = match lf a wt with | .inl f => .inl f | .inr wt' => lf b wt'
  | [], b, wt => rfl
  | m :: a, b, wt => by
    rw [List.cons_append, lf, lf]
    by_cases hc : isCl m.1 = true
    · simp only [hc, if_true]
      cases wt.getLast? with
      | none => rfl
      | some t =>
        dsimp only
        by_cases ho : t.1 = opOf m.1
        · simp only [ho, if_true]; exact lf_append a b _
        · simp only [ho, if_false]
    · simp only [hc, if_false]; exact lf_append a b _
theorem lf_op : ∀ (ms wt wt' : List Mk), (∀ m ∈ ms, isBr m.1 = true) → (∀ m ∈ wt, isOp m.1 = true) → lf ms wt = .inr wt' → ∀ m ∈ wt', isOp m.1 = true
  | [], wt, wt', _, hw, h => by cases h; exact hw
  | k :: ms, wt, wt', hm, hw, h => by
    rw [lf] at h
    have hm' := fun m hk => hm m (List.mem_cons_of_mem _ hk)
    by_cases hc : isCl k.1 = true
    · simp only [hc, if_true] at h
      cases hl : wt.getLast? with
      | none => rw [hl] at h; cases h
      | some t =>
        rw [hl] at h
        dsimp only at h
        by_cases ho : t.1 = opOf k.1
        · simp only [ho, if_true] at h
          exact lf_op ms _ wt' hm' (fun m hk => hw m (List.dropLast_subset _ hk)) h
        · simp only [ho, if_false] at h; cases h
    · simp only [hc, if_false] at h
      refine lf_op ms _ wt' hm' (fun m hk => ?_) h
      rcases List.mem_append.mp hk with hk | hk
      · exact hw m hk
      · rw [List.mem_singleton.mp hk]
        have := hm k (.head _)
        unfold isBr at this
        simpa [hc] using this
theorem lf_len : ∀ (ms wt wt' : List Mk), lf ms wt = .inr wt' → wt'.length ≤ wt.length + ms.length
  | [], wt, wt', h => by cases h; exact Nat.le_refl _
  | k :: ms, wt, wt', h => by
    rw [lf] at h
    rw [List.length_cons]
    by_cases hc : isCl k.1 = true
    · simp only [hc, if_true] at h
      cases hl : wt.getLast? with
      | none => rw [hl] at h; cases h
      | some t =>
        rw [hl] at h
        dsimp only at h
        by_cases ho : t.1 = opOf k.1
        · simp only [ho, if_true] at h
          have := lf_len ms _ wt' h
          simp at this; omega
        · simp only [ho, if_false] at h; cases h
    · simp only [hc, if_false] at h
      have := lf_len ms _ wt' h
      simp at this; omega

noncomputable def fB : CSs := (.cons (.iff (.cmp .In (.var 4) (.str [40, 91, 123])) (.cons (.append 1 (.tup (.cons (.var 4) (.cons (.var 2) (.cons (.var 3) .nil))))) .nil) .nil) (.cons (.iff (.cmp .In (.var 4) (.str [41, 93, 125])) (.cons (.iff (.eqNil 1) (.cons (.ret (.tup (.cons (.var 2) (.cons (.var 3) (.cons (.str [99, 108, 111, 115, 101, 115, 32, 110, 111, 116, 104, 105, 110, 103]) .nil))))) .nil) .nil) (.cons (.iff (.cmp .NotEq (.find (.str [40, 91, 123]) (.idx (.pop 1) (.int 0))) (.find (.str [41, 93, 125]) (.var 4))) (.cons (.ret (.tup (.cons (.var 2) (.cons (.var 3) (.cons (.str [99, 108, 111, 115, 101, 115, 32, 97, 110, 111, 116, 104, 101, 114]) .nil))))) .nil) .nil) .nil)) .nil) .nil))

theorem fault_row {Γ : Nat → Fn} {t : Option F} (r : Nat) : ∀ (rest : List Nat) (i : Nat) (wt : List Mk) (s3 s4 : Option F), (∀ m ∈ wt, isOp m.1 = true) → wt.length + rest.length ≤ 90000 →
    (match lf ((marksFrom i rest).map (low r)) wt with
      | .inl f => ∃ st', forL (turn Γ (.many [3, 4]) fB) (enumFrom i (rest.map ch)) [t, some (.own (wt.map encM)), some (.val (.int r)), s3, s4] = .ok (.ret (.val (encFt f)), st')
      | .inr wt' => ∃ s3' s4', forL (turn Γ (.many [3, 4]) fB) (enumFrom i (rest.map ch)) [t, some (.own (wt.map encM)), some (.val (.int r)), s3, s4] = .ok (.next, [t, some (.own (wt'.map encM)), some (.val (.int r)), s3', s4']))
  | [], i, wt, s3, s4, _, _ => ⟨s3, s4, rfl⟩
  | c :: rest, i, wt, s3, s4, hw, hz => by
    simp only [List.length_cons] at hz
    have z1 : okLen wt.length = true := okLen_of (by omega)
    rw [marksFrom, List.map_cons, enumFrom]
    cases hop : isOp c with
    | true =>
      have hcl : isCl c = false := by
        unfold isOp at hop; simp at hop
        rcases hop with rfl | rfl | rfl <;> decide
      have hbr : isBr c = true := by unfold isBr; rw [hop]; rfl
      have hm1 : c ∈ [40, 91, 123] := by unfold isOp at hop; exact of_decide_eq_true hop
      have hm2 : c ∉ [41, 93, 125] := by unfold isCl at hcl; exact of_decide_eq_false hcl
      rw [if_pos hbr, List.map_cons, lf]
      have hlc : isCl (low r (c, 0, i)).1 = false := hcl
      rw [hlc]
      simp only [Bool.false_eq_true, if_false]
      have ih := fault_row (Γ := Γ) (t := t) r rest (i + 1) (wt ++ [low r (c, 0, i)]) (some (.val (.int i))) (some (.val (ch c))) (fun m hm => by
        rcases List.mem_append.mp hm with hm | hm
        · exact hw m hm
        · rw [List.mem_singleton.mp hm]; exact hop) (by simp; omega)
      have e1 : turn Γ (.many [3, 4]) fB (.tuple [.int i, ch c]) [t, some (.own (wt.map encM)), some (.val (.int r)), s3, s4] = .ok (.next, [t, some (.own ((wt ++ [low r (c, 0, i)]).map encM)), some (.val (.int r)), some (.val (.int i)), some (.val (ch c))]) := by
        unfold fB
        simp only [turn, bindT, setAll]
        simp [cmpF, in_one, hm1, hm2, ownAt, z1]
        simp [encM, low]
      rw [forL_next e1]
      exact ih
    | false =>
      have hm1 : c ∉ [40, 91, 123] := by unfold isOp at hop; exact of_decide_eq_false hop
      cases hcl : isCl c with
      | false =>
        have hbr : isBr c = false := by unfold isBr; rw [hop, hcl]; rfl
        have hm2 : c ∉ [41, 93, 125] := by unfold isCl at hcl; exact of_decide_eq_false hcl
        rw [hbr]
        simp only [Bool.false_eq_true, if_false]
        have ih := fault_row (Γ := Γ) (t := t) r rest (i + 1) wt (some (.val (.int i))) (some (.val (ch c))) hw (by omega)
        have e1 : turn Γ (.many [3, 4]) fB (.tuple [.int i, ch c]) [t, some (.own (wt.map encM)), some (.val (.int r)), s3, s4] = .ok (.next, [t, some (.own (wt.map encM)), some (.val (.int r)), some (.val (.int i)), some (.val (ch c))]) := by
          unfold fB
          simp only [turn, bindT, setAll]
          simp [cmpF, in_one, hm1, hm2]
        rw [forL_next e1]
        exact ih
      | true =>
        have hbr : isBr c = true := by unfold isBr; rw [hop, hcl]; rfl
        have hm2 : c ∈ [41, 93, 125] := by unfold isCl at hcl; exact of_decide_eq_true hcl
        rw [if_pos hbr, List.map_cons, lf]
        have hlc : isCl (low r (c, 0, i)).1 = true := hcl
        rw [hlc]
        simp only [if_true]
        cases hl : wt.getLast? with
        | none =>
          have hwn : wt = [] := by simpa using hl
          subst hwn
          dsimp only
          have e1 : turn Γ (.many [3, 4]) fB (.tuple [.int i, ch c]) [t, some (.own (([] : List Mk).map encM)), some (.val (.int r)), s3, s4] = .ok (.ret (.val (encFt (.no (low r (c, 0, i)).2.1 (low r (c, 0, i)).2.2))), [t, some (.own []), some (.val (.int r)), some (.val (.int i)), some (.val (ch c))]) := by
            unfold fB
            simp only [turn, bindT, setAll]
            simp [cmpF, in_one, hm1, hm2, listAt]
            simp [encFt, low, tNo]
          exact ⟨_, forL_ret e1⟩
        | some tp =>
          dsimp only
          have hlm : (wt.map encM).getLast? = some (encM tp) := by rw [List.getLast?_map, hl]; rfl
          have hne : wt ≠ [] := fun e => by rw [e] at hl; cases hl
          have hto : isOp tp.1 = true := hw tp (List.mem_of_getLast? hl)
          have hf := find_same hto hcl
          have z3 : okLen 3 = true := rfl
          have ho' : (tp.1 = opOf (low r (c, 0, i)).1) = (tp.1 = opOf c) := rfl
          by_cases ho : tp.1 = opOf c
          · rw [if_pos (by rw [ho']; exact ho)]
            have ih := fault_row (Γ := Γ) (t := t) r rest (i + 1) wt.dropLast (some (.val (.int i))) (some (.val (ch c))) (fun m hm => hw m (List.dropLast_subset _ hm)) (by simp; omega)
            have e1 : turn Γ (.many [3, 4]) fB (.tuple [.int i, ch c]) [t, some (.own (wt.map encM)), some (.val (.int r)), s3, s4] = .ok (.next, [t, some (.own (wt.dropLast.map encM)), some (.val (.int r)), some (.val (.int i)), some (.val (ch c))]) := by
              unfold fB
              simp only [turn, bindT, setAll]
              have hf' : findF [40, 91, 123] (opOf c) = findF [41, 93, 125] c := by rw [ho] at hf; simpa using hf
              simp [cmpF, in_one, hm1, hm2, listAt, ownAt, hne, hlm, z1, idx_M0, ev_find, z3, hf', ho]
            rw [forL_next e1]
            exact ih
          · rw [if_neg (by rw [ho']; exact ho)]
            have e1 : turn Γ (.many [3, 4]) fB (.tuple [.int i, ch c]) [t, some (.own (wt.map encM)), some (.val (.int r)), s3, s4] = .ok (.ret (.val (encFt (.ano (low r (c, 0, i)).2.1 (low r (c, 0, i)).2.2))), [t, some (.own (wt.dropLast.map encM)), some (.val (.int r)), some (.val (.int i)), some (.val (ch c))]) := by
              unfold fB
              simp only [turn, bindT, setAll]
              have hf' : ¬ findF [40, 91, 123] tp.1 = findF [41, 93, 125] c := by simpa [ho] using hf
              simp [cmpF, in_one, hm1, hm2, listAt, ownAt, hne, hlm, z1, idx_M0, ev_find, z3, hf']
              simp [encFt, low, tAno]
            exact ⟨_, forL_ret e1⟩
noncomputable def gB : CSs := (.cons (.loop (.many [3, 4]) (.enum (.idx (.var 0) (.var 2))) fB) .nil)

theorem marksFrom_br : ∀ (l : List Nat) (i : Nat), ∀ m ∈ marksFrom i l, isBr m.1 = true
  | [], _ => fun m hm => nomatch hm
  | c :: l, i => fun m hm => by
    rw [marksFrom] at hm
    split at hm
    · rename_i hb
      rcases List.mem_cons.mp hm with rfl | hm
      · exact hb
      · exact marksFrom_br l _ m hm
    · exact marksFrom_br l _ m hm

theorem fault_rows {Γ : Nat → Fn} (all : List (List Nat)) (hall : all.length ≤ 64) : ∀ (rest pre : List (List Nat)) (wt : List Mk) (s2 s3 s4 : Option F), all = pre ++ rest → (∀ l ∈ rest, okRow l) → (∀ m ∈ wt, isOp m.1 = true) → wt.length + 120 * rest.length ≤ 80000 →
    (match lf (marksAll pre.length rest) wt with
      | .inl f => ∃ st', forL (turn Γ (.one 2) gB) ((List.range' pre.length rest.length).map fun (k : Nat) => PyData.int k) [some (.val (.list (all.map strD))), some (.own (wt.map encM)), s2, s3, s4] = .ok (.ret (.val (encFt f)), st')
      | .inr wt' => ∃ s2' s3' s4', forL (turn Γ (.one 2) gB) ((List.range' pre.length rest.length).map fun (k : Nat) => PyData.int k) [some (.val (.list (all.map strD))), some (.own (wt.map encM)), s2, s3, s4] = .ok (.next, [some (.val (.list (all.map strD))), some (.own (wt'.map encM)), s2', s3', s4']))
  | [], pre, wt, s2, s3, s4, _, _, _, _ => ⟨s2, s3, s4, rfl⟩
  | l :: rest, pre, wt, s2, s3, s4, hA, hr, hw, hz => by
    simp only [List.length_cons] at hz
    have hl := hr l (.head _)
    rw [marksAll, lf_append, List.length_cons, List.range'_succ, List.map_cons]
    have z1 : okLen l.length = true := okLen_of (by have := hl.1; omega)
    have hal : okLen all.length = true := okLen_of (by omega)
    have hidx : idxF (.list (all.map strD)) (.int pre.length) = some (strD l) := by
      have hlt : pre.length < all.length := by rw [hA]; simp
      have hlt' : (pre.length : Int) < all.length := by omega
      have hg : all[pre.length]? = some l := by rw [hA]; simp
      unfold idxF at?
      have h0 : (0 : Int) ≤ pre.length := by omega
      have hg' : all[pre.length] = l := by rw [List.getElem?_eq_getElem hlt] at hg; exact Option.some.inj hg
      simp [hal, h0, hlt', hlt, hg']
    have row := fault_row (Γ := Γ) (t := some (.val (.list (all.map strD)))) pre.length l 0 wt s3 s4 hw (by have := hl.1; omega)
    have el := ex_loop (Γ := Γ) (t := .many [3, 4]) (it := .enum (.idx (.var 0) (.var 2))) (B := fB) (st := [some (.val (.list (all.map strD))), some (.own (wt.map encM)), some (.val (.int pre.length)), s3, s4]) (st1 := [some (.val (.list (all.map strD))), some (.own (wt.map encM)), some (.val (.int pre.length)), s3, s4]) (xs := enumFrom 0 (l.map ch)) (by simp [hidx, z1])
    cases hlf : lf ((marksFrom 0 l).map (low pre.length)) wt with
    | inl f =>
      rw [hlf] at row
      obtain ⟨st', row⟩ := row
      dsimp only
      refine ⟨st', forL_ret ?_⟩
      rw [row] at el
      unfold gB
      simp only [turn, bindT]
      simp [el]
    | inr wt' =>
      rw [hlf] at row
      obtain ⟨s3', s4', row⟩ := row
      dsimp only
      have hp : (pre ++ [l]).length = pre.length + 1 := by simp
      have hm : ∀ m ∈ (marksFrom 0 l).map (low pre.length), isBr m.1 = true := fun m hm => by
        obtain ⟨k, hk, rfl⟩ := List.mem_map.mp hm
        exact marksFrom_br l 0 k hk
      have hlen := lf_len _ _ _ hlf
      rw [List.length_map] at hlen
      have hml : (marksFrom 0 l).length ≤ 120 := Nat.le_trans (marksFrom_len l 0) hl.1
      have ih := fault_rows (Γ := Γ) all hall rest (pre ++ [l]) wt' (some (.val (.int pre.length))) s3' s4' (by rw [hA]; simp) (fun k hk => hr k (.tail _ hk)) (lf_op _ _ _ hm hw hlf) (by omega)
      rw [hp] at ih
      have e1 : turn Γ (.one 2) gB (.int pre.length) [some (.val (.list (all.map strD))), some (.own (wt.map encM)), s2, s3, s4] = .ok (.next, [some (.val (.list (all.map strD))), some (.own (wt'.map encM)), some (.val (.int pre.length)), s3', s4']) := by
        rw [row] at el
        unfold gB
        simp only [turn, bindT]
        simp [el]
      rw [forL_next e1]
      exact ih

theorem law_fault_ok (Γ : Nat → Fn) (rows : List (List Nat)) (hu : rows.length ≤ 64) (h : ∀ l ∈ rows, okRow l) : runDef Γ 1 4 b_law_fault [.list (rows.map strD)] = .ret (.val (encFt (faultR (run .nil (marksAll 0 rows))))) := by
  refine (run_def (by rfl)).trans ?_
  rw [fault_same]
  have hz : okLen rows.length = true := okLen_of (by omega)
  have hr := fault_rows (Γ := Γ) rows hu rows [] [] none none none rfl h (fun m hm => nomatch hm) (by simp; omega)
  have g1 : (rows.length : Int) ≤ 16777216 := by omega
  have g2 : (-16777216 : Int) ≤ rows.length := by omega
  have el := ex_loop (Γ := Γ) (t := .one 2) (it := .range (.len (.var 0))) (B := gB) (st := [some (.val (.list (rows.map strD))), some (.own []), none, none, none]) (st1 := [some (.val (.list (rows.map strD))), some (.own []), none, none, none]) (xs := (List.range' 0 rows.length).map fun (k : Nat) => PyData.int k) (by simp [lenF, hz, g1, g2, List.range_eq_range'])
  have hb : b_law_fault = (.cons (.assign 1 (.lst .nil)) (.cons (.loop (.one 2) (.range (.len (.var 0))) gB) (.cons (.iff (.neNil 1) (.cons (.ret (.tup (.cons (.idx (.idxv 1 (.neg (.int 1))) (.int 1)) (.cons (.idx (.idxv 1 (.neg (.int 1))) (.int 2)) (.cons (.str [108, 101, 102, 116, 32, 111, 112, 101, 110]) .nil))))) .nil) .nil) (.cons (.ret .none) .nil)))) := rfl
  rw [hb]
  cases hlf : lf (marksAll 0 rows) [] with
  | inl f =>
    have hr' := hr
    simp only [List.length_nil] at hr'
    rw [hlf] at hr'
    obtain ⟨st', hr'⟩ := hr'
    have hr'' : forL (turn Γ (.one 2) gB) ((List.range' 0 rows.length).map fun (k : Nat) => PyData.int k) [some (.val (.list (rows.map strD))), some (.own []), none, none, none] = .ok (.ret (.val (encFt f)), st') := hr'
    rw [hr''] at el
    simp [el]
  | inr wt =>
    have hr' := hr
    simp only [List.length_nil] at hr'
    rw [hlf] at hr'
    obtain ⟨s2', s3', s4', hr'⟩ := hr'
    have hr'' : forL (turn Γ (.one 2) gB) ((List.range' 0 rows.length).map fun (k : Nat) => PyData.int k) [some (.val (.list (rows.map strD))), some (.own []), none, none, none] = .ok (.next, [some (.val (.list (rows.map strD))), some (.own (wt.map encM)), s2', s3', s4']) := hr'
    rw [hr''] at el
    have hwl := lf_len _ _ _ hlf
    have hml := marksAll_len rows 0 h
    have z2 : okLen wt.length = true := okLen_of (by simp at hwl; omega)
    unfold lfEnd
    cases hl : wt.getLast? with
    | none =>
      have : wt = [] := by simpa using hl
      subst this
      simp [el, listAt]
      rfl
    | some m =>
      have hne : wt ≠ [] := fun e => by rw [e] at hl; cases hl
      have e0 : idxF (.list (wt.map encM)) (.int (-1)) = some (encM m) := idx_last (by rw [List.getLast?_map, hl]; rfl) (by simpa using z2)
      simp [el, listAt, hne, ev_idxv, e0, idx_M1, idx_M2]
      rw [hl]; rfl
end Mine.L1
end

section
open PySem PySem.Calls PyProof.Rows
set_option Elab.async false
set_option linter.unusedVariables false
namespace Mine.L1

theorem law_whole_ok (Γ : Nat → Fn) (i : Int) : runDef Γ 1 0 b_law_whole [.int i] = .ret (.val (.bool true)) := by
  refine (run_def (by rfl)).trans ?_
  unfold b_law_whole
  simp [isF]
noncomputable def Sp34 (Γ : Nat → Fn) : Prop := ∀ i, Γ 34 [.int i] = .ret (.val (.bool true))

theorem shallow_ft (r p : Nat) (l : List Nat) (h : (PyData.str (S l)).canLay0 = true) : shallow (.tuple [.int r, .int p, strD l]) = true := by
  unfold shallow
  simp [PyData.canLay0, PyData.canLayAll0, PyData.depth, PyData.depthAll] at h ⊢
  exact h
theorem eq_self {d : PyData} (h : shallow d = true) : PyData.eqv d d = true := by
  unfold shallow at h
  exact PySem.SeqAt.eqv_refl d (and2 h).1

theorem law_fault_good_ok {Γ : Nat → Fn} (h : Sp34 Γ) (f : Ft) : runDef Γ 2 0 b_law_fault_good [encFt f, encFt f] = .ret (.val (.bool true)) := by
  refine (run_def (by rfl)).trans ?_
  unfold b_law_fault_good
  have key : ∀ (r p : Nat) (l : List Nat), (PyData.str (S l)).canLay0 = true → outOf (exs Γ b_law_fault_good [some (.val (.tuple [.int r, .int p, strD l])), some (.val (.tuple [.int r, .int p, strD l]))]) = .ret (.val (.bool true)) := by
    intro r p l hl
    have hs := shallow_ft r p l hl
    have he := eq_self hs
    have z3 : okLen 3 = true := rfl
    have hn : isN (.tuple [.int r, .int p, strD l]) = false := rfl
    have i0 : idxF (.tuple [.int r, .int p, strD l]) (.int 0) = some (.int r) := rfl
    have i1 : idxF (.tuple [.int r, .int p, strD l]) (.int 1) = some (.int p) := rfl
    have i2 : idxF (.tuple [.int r, .int p, strD l]) (.int 2) = some (strD l) := rfl
    unfold b_law_fault_good
    simp [hn, isF, lenF, z3, i0, i1, i2, cmpF, h r, h p, hs, he]
  cases f with
  | ok => simp [encFt, isN_none]
  | no r p => exact key r p tNo (by decide +kernel)
  | ano r p => exact key r p tAno (by decide +kernel)
  | lft r p => exact key r p tLft (by decide +kernel)

/-- a text that the law makes -/
structure OkText (rows : List (List Nat)) : Prop where
  one : 1 ≤ rows.length
  most : rows.length ≤ 64
  row : ∀ l ∈ rows, okRow l

theorem canLay_row {l : List Nat} (h : okRow l) : (strD l).canLay0 = true := by
  show PyData.strOk (S l) = true
  unfold PyData.strOk S
  rw [Array.all_eq_true]
  intro i hi
  have hm : (l.toArray)[i] ∈ l := by simp
  have := h.2 _ hm
  unfold isSign at this
  simp at this
  simp
  have := this.1.2
  omega
theorem shallow_strs : ∀ (rows : List (List Nat)), (∀ l ∈ rows, okRow l) → PyData.canLayAll0 (rows.map strD) = true ∧ PyData.depthAll (rows.map strD) = 0
  | [], _ => ⟨rfl, rfl⟩
  | l :: rows, h => by
    obtain ⟨h1, h2⟩ := shallow_strs rows fun k hk => h k (.tail _ hk)
    refine ⟨?_, ?_⟩
    · rw [List.map_cons, PyData.canLayAll0, h1, canLay_row (h l (.head _))]; rfl
    · rw [List.map_cons, PyData.depthAll, h2]; rfl
theorem shallow_text {rows : List (List Nat)} (h : OkText rows) : shallow (.list (rows.map strD)) = true := by
  obtain ⟨h1, h2⟩ := shallow_strs rows h.row
  unfold shallow
  rw [PyData.canLay0, h1, PyData.depth, h2]
  rfl

noncomputable def Sp36 (Γ : Nat → Fn) : Prop := ∀ f, Γ 36 [encFt f, encFt f] = .ret (.val (.bool true))
noncomputable def Sp35 (Γ : Nat → Fn) : Prop := ∀ rows, OkText rows → Γ 35 [.list (rows.map strD)] = .ret (.val (encFt (faultR (run .nil (marksAll 0 rows)))))
noncomputable def Sp11 (Γ : Nat → Fn) : Prop := ∀ rows, OkText rows → Γ 11 [.list (rows.map strD)] = .ret (.val (encFt (faultR (run .nil (marksAll 0 rows)))))
noncomputable def Sp33 (Γ : Nat → Fn) : Prop := ∀ xs : List Int, xs.length ≤ 63 → ∃ rows, OkText rows ∧ Γ 33 [.list (xs.map .int)] = .ret (.val (.list (rows.map strD)))

theorem law_ok {Γ : Nat → Fn} (h11 : Sp11 Γ) (h33 : Sp33 Γ) (h35 : Sp35 Γ) (h36 : Sp36 Γ) (xs : List Int) (hx : xs.length ≤ 63) : runDef Γ 1 3 b_law [.list (xs.map .int)] = .ret (.val (.bool true)) := by
  refine (run_def (by rfl)).trans ?_
  unfold b_law
  obtain ⟨rows, ht, e33⟩ := h33 xs hx
  have hz : okLen rows.length = true := okLen_of (by have := ht.most; omega)
  have hs := shallow_text ht
  have he := eq_self hs
  have e36 := h36 (faultR (run .nil (marksAll 0 rows)))
  simp [e33, hz, h11 rows ht, h35 rows ht, e36, cmpF, hs, he]
end Mine.L1
end

section
open PySem PySem.Calls PyProof.Rows
set_option Elab.async false
set_option linter.unusedVariables false
namespace Mine.L1

/-! the texts that the law makes -/
noncomputable def cellAt (xs : List Int) (k : Nat) : Int := xs[k]?.getD 0
noncomputable def Sp30 (Γ : Nat → Fn) : Prop := ∀ xs : List Int, xs.length ≤ 63 → ∀ k : Nat, Γ 30 [.list (xs.map .int), .int k] = .ret (.val (.int (cellAt xs k)))

theorem cell_at_ok (Γ : Nat → Fn) (xs : List Int) (hx : xs.length ≤ 63) (k : Nat) : runDef Γ 2 0 b_law_cell_at [.list (xs.map .int), .int k] = .ret (.val (.int (cellAt xs k))) := by
  refine (run_def (by rfl)).trans ?_
  unfold b_law_cell_at cellAt
  have hz : okLen xs.length = true := okLen_of (by omega)
  by_cases hk : k < xs.length
  · have hk' : (k : Int) < xs.length := by omega
    have h0 : (0 : Int) ≤ k := by omega
    have hi : idxF (.list (xs.map .int)) (.int k) = some (.int xs[k]) := by
      unfold idxF at?
      simp [hz, h0, hk', hk]
    simp [lenF, hz, cmpF, hk', hi, hk]
  · have hk' : ¬ (k : Int) < xs.length := by omega
    have : xs[k]? = none := List.getElem?_eq_none (by omega)
    simp [lenF, hz, cmpF, hk', this]

noncomputable def signsA : List Nat := [32, 33, 34, 35, 36, 38, 39, 40, 41, 42, 43, 44, 45, 46, 47, 48, 49, 50, 51, 52, 53, 54, 55, 56, 57, 58, 59, 60, 61, 62, 63, 64, 65, 66, 67, 68, 69, 70, 71, 72, 73, 74, 75, 76, 77, 78, 79, 80, 81, 82, 83, 84, 85, 86, 87, 88, 89, 90, 91, 92, 93, 94, 95, 96]
noncomputable def signsB : List Nat := [97, 98, 99, 100, 101, 102, 103, 104, 105, 106, 107, 108, 109, 110, 111, 112, 113, 114, 115, 116, 117, 118, 119, 120, 121, 122, 123, 124, 125, 126]
noncomputable def anyS (c : Int) : Nat := ((signsA ++ signsB)[(c.fmod 94).toNat]?).getD 32
theorem signs_ok : ∀ c ∈ signsA ++ signsB, isSign c = true := by decide
theorem anyS_ok (c : Int) : isSign (anyS c) = true := by
  unfold anyS
  cases h : (signsA ++ signsB)[(c.fmod 94).toNat]? with
  | none => rfl
  | some d => exact signs_ok d (List.mem_of_getElem? h)
noncomputable def Sp31 (Γ : Nat → Fn) : Prop := ∀ c : Int, Γ 31 [.int c] = .ret (.val (ch (anyS c)))

/-- a place in a written str -/
theorem idx_str {l : List Nat} {n : Int} {k : Nat} (hk : (k : Int) = l.length) (hz : okLen l.length = true) (h0 : 0 ≤ n) (hn : n < k) : idxF (strD l) (.int n) = some (ch (l[n.toNat]?.getD 32)) := by
  have hlt : n.toNat < l.length := by omega
  have hn' : n < (l.length : Int) := by omega
  simp [idxF, hz, at?, h0, hn', hlt]
theorem fmod_lo (a : Int) {b : Int} (hb : 0 < b) : 0 ≤ a.fmod b := Int.fmod_nonneg_of_pos a hb
theorem fmod_hi (a : Int) {b : Int} (hb : 0 < b) : a.fmod b < b := Int.fmod_lt_of_pos a hb

theorem any_sign_ok (Γ : Nat → Fn) (c : Int) : runDef Γ 1 1 b_law_any_sign [.int c] = .ret (.val (ch (anyS c))) := by
  refine (run_def (by rfl)).trans ?_
  have hb : b_law_any_sign = (.cons (.assign 1 (.str signsA)) (.cons (.assign 1 (.bin .Add (.var 1) (.str signsB))) (.cons (.ret (.idx (.var 1) (.bin .Mod (.var 0) (.int 94)))) .nil))) := rfl
  rw [hb]
  have z1 : okLen (signsA.length + signsB.length) = true := rfl
  have hi := idx_str (l := signsA ++ signsB) (n := c.fmod 94) (k := 94) rfl rfl (fmod_lo c (by omega)) (fmod_hi c (by omega))
  simp [binF, z1, hi]
  rfl
end Mine.L1
end

section
open PySem PySem.Calls PyProof.Rows
set_option Elab.async false
set_option linter.unusedVariables false
namespace Mine.L1

noncomputable def nl (l : List Nat) : Nat := (l.filter (· == 10)).length
noncomputable def nn (l : List Nat) : Nat := (l.filter (· != 10)).length
theorem nl_append (a b : List Nat) : nl (a ++ b) = nl a + nl b := by simp [nl]
theorem nn_append (a b : List Nat) : nn (a ++ b) = nn a + nn b := by simp [nn]
noncomputable def goodC (c : Nat) : Prop := isSign c = true ∨ c = 10
theorem sign_ne {c : Nat} (h : isSign c = true) : c ≠ 10 := fun e => by subst e; simp [isSign] at h
theorem nl_sign {c : Nat} (h : isSign c = true) : nl [c] = 0 := by have := sign_ne h; simp [nl, this]
theorem nn_sign {c : Nat} (h : isSign c = true) : nn [c] = 1 := by have := sign_ne h; simp [nn, this]
theorem nl_ten : nl [10] = 1 := rfl
theorem nn_ten : nn [10] = 0 := rfl
theorem nl_signs : ∀ {l : List Nat}, (∀ c ∈ l, isSign c = true) → nl l = 0
  | [], _ => rfl
  | c :: l, h => by
    have : nl (c :: l) = nl [c] + nl l := nl_append [c] l
    rw [this, nl_sign (h c (.head _)), nl_signs fun d hd => h d (.tail _ hd)]
theorem nn_le (l : List Nat) : nn l ≤ l.length := List.length_filter_le _ _

structure Inv (pt : Bool) (i : Nat) (sg op : List Nat) : Prop where
  hsg : ∀ c ∈ sg, goodC c
  hop : ∀ c ∈ op, isSign c = true
  hnl : nl sg ≤ if pt then i / 2 else i
  hnn : nn sg + op.length ≤ if pt then 2 * ((i + 1) / 2) else 2 * i

theorem Inv.line {pt : Bool} {i : Nat} {sg op : List Nat} (h : Inv pt i sg op) (hi : pt = true → i % 2 = 1) : Inv pt (i + 1) (sg ++ [10]) op := by
  refine ⟨fun c hc => ?_, h.hop, ?_, ?_⟩
  · rcases List.mem_append.mp hc with hc | hc
    · exact h.hsg c hc
    · rw [List.mem_singleton.mp hc]; exact .inr rfl
  · have := h.hnl
    rw [nl_append, nl_ten]
    cases pt with
    | false => simp at this ⊢; omega
    | true => have := hi rfl; simp at *; omega
  · have := h.hnn
    rw [nn_append, nn_ten]
    cases pt with
    | false => simp at this ⊢; omega
    | true => simp at *; omega
theorem Inv.sign {pt : Bool} {i x : Nat} {sg op op' : List Nat} (h : Inv pt i sg op) (hx : isSign x = true) (hi : pt = true → i % 2 = 0) (ho : ∀ c ∈ op', isSign c = true) (hl : op'.length ≤ op.length + 1) : Inv pt (i + 1) (sg ++ [x]) op' := by
  refine ⟨fun c hc => ?_, ho, ?_, ?_⟩
  · rcases List.mem_append.mp hc with hc | hc
    · exact h.hsg c hc
    · rw [List.mem_singleton.mp hc]; exact .inl hx
  · have := h.hnl
    rw [nl_append, nl_sign hx]
    cases pt with
    | false => simp at this ⊢; omega
    | true => have := hi rfl; simp at *; omega
  · have := h.hnn
    rw [nn_append, nn_sign hx]
    cases pt with
    | false => simp at this ⊢; omega
    | true => have := hi rfl; simp at *; omega

noncomputable def s4 : CSs := (.cons (.iff (.cmp .Eq (.var 7) (.int 7)) (.cons (.assign 8 (.call 31 (.cons (.bin .FloorDiv (.var 5) (.int 63)) .nil))) (.cons (.assign 3 (.bin .Add (.var 3) (.idx (.lst (.cons (.str [97]) (.cons (.var 8) .nil))) (.toInt (.cmp .NotIn (.var 8) (.str [40, 41, 91, 93, 123, 125])))))) .nil)) (.cons (.assign 3 (.bin .Add (.var 3) (.idx (.str [32, 120]) (.bin .Mod (.bin .FloorDiv (.var 5) (.int 63)) (.int 2))))) .nil)) .nil)
noncomputable def s3 : CSs := (.cons (.iff (.and (.cmp .Lt (.var 7) (.int 5)) (.cmp .NotEq (.var 4) (.str []))) (.cons (.assign 3 (.bin .Add (.var 3) (.idx (.var 4) (.int 0)))) (.cons (.assign 4 (.slc (.var 4) (.yes (.int 1)) .no)) .nil)) s4) .nil)
noncomputable def s2 : CSs := (.cons (.iff (.cmp .Lt (.var 7) (.int 2)) (.cons (.assign 4 (.bin .Add (.idx (.str [41, 93, 125]) (.bin .Mod (.bin .FloorDiv (.var 5) (.int 63)) (.int 3))) (.var 4))) (.cons (.assign 3 (.bin .Add (.var 3) (.idx (.str [40, 91, 123]) (.bin .Mod (.bin .FloorDiv (.var 5) (.int 63)) (.int 3))))) .nil)) s3) .nil)
noncomputable def s1 : CSs := (.cons (.iff (.or (.and (.var 2) (.cmp .Eq (.bin .Mod (.var 6) (.int 2)) (.int 1))) (.and (.cmp .Eq (.var 7) (.int 6)) (.not (.var 2)))) (.cons (.assign 3 (.bin .Add (.var 3) (.str [10]))) .nil) s2) .nil)
noncomputable def sB : CSs := (.cons (.assign 5 (.bin .Mod (.bin .Add (.bin .Add (.bin .Mult (.var 5) (.int 48271)) (.bin .Mult (.int 11) (.var 6))) (.int 7)) (.int 2147483647))) (.cons (.assign 7 (.bin .Mod (.bin .FloorDiv (.var 5) (.int 7)) (.int 9))) s1))

theorem stream_body : b_law_stream = (.cons (.assign 3 (.str [])) (.cons (.assign 4 (.str [])) (.cons (.assign 5 (.abs (.var 0))) (.cons (.loop (.one 6) (.range (.var 1)) sB) (.cons (.ret (.bin .Add (.var 3) (.var 4))) .nil))))) := rfl

theorem sgn2 {l : List Nat} (h : ∀ c ∈ l, isSign c = true) (n : Nat) : isSign (l[n]?.getD 32) = true := by
  cases e : l[n]? with
  | none => rfl
  | some d => exact h d (List.mem_of_getElem? e)

section
variable {Γ : Nat → Fn} {c sz : Option F} {pt : Bool} {i : Nat} {sg op : List Nat} {N W : Int} {x8 : Option F}

noncomputable abbrev stS (c sz : Option F) (pt : Bool) (sg op : List Nat) (N : Int) (i : Nat) (W : Int) (x8 : Option F) : St := [c, sz, some (.val (.bool pt)), some (.val (strD sg)), some (.val (strD op)), some (.val (.int N)), some (.val (.int i)), some (.val (.int W)), x8]

theorem s4_ok (h31 : Sp31 Γ) (hz : sg.length ≤ 1000) : ∃ x x8', isSign x = true ∧ exs Γ s4 (stS c sz pt sg op N i W x8) = .ok (.next, stS c sz pt (sg ++ [x]) op N i W x8') := by
  have z1 : okLen (sg.length + 1) = true := okLen_of (by omega)
  unfold s4 stS
  by_cases h7 : W = 7
  · have hs := anyS_ok (N.fdiv 63)
    have e31 := h31 (N.fdiv 63)
    by_cases hin : anyS (N.fdiv 63) ∈ [40, 41, 91, 93, 123, 125]
    · refine ⟨97, some (.val (ch (anyS (N.fdiv 63)))), rfl, ?_⟩
      have hi : idxF (.list [strD [97], ch (anyS (N.fdiv 63))]) (.int 0) = some (strD [97]) := rfl
      simp [cmpF, h7, binF, small, e31, in_one, hin, hi, z1]
    · refine ⟨anyS (N.fdiv 63), some (.val (ch (anyS (N.fdiv 63)))), hs, ?_⟩
      have hi : idxF (.list [strD [97], ch (anyS (N.fdiv 63))]) (.int 1) = some (ch (anyS (N.fdiv 63))) := rfl
      simp [cmpF, h7, binF, small, e31, in_one, hin, hi, z1]
  · have hi := idx_str (l := [32, 120]) (n := (N.fdiv 63).fmod 2) (k := 2) rfl rfl (fmod_lo _ (by omega)) (fmod_hi _ (by omega))
    refine ⟨([32, 120][((N.fdiv 63).fmod 2).toNat]?).getD 32, x8, sgn2 (by decide) _, ?_⟩
    simp [cmpF, h7, binF, small, hi, z1]

theorem s3_ok (h31 : Sp31 Γ) (hz : sg.length ≤ 1000) (hz2 : op.length ≤ 1000) (hop : ∀ c ∈ op, isSign c = true) : ∃ x op' x8', isSign x = true ∧ op'.length ≤ op.length ∧ (∀ c ∈ op', isSign c = true) ∧ exs Γ s3 (stS c sz pt sg op N i W x8) = .ok (.next, stS c sz pt (sg ++ [x]) op' N i W x8') := by
  have z1 : okLen (sg.length + 1) = true := okLen_of (by omega)
  obtain ⟨x, x8', hx, h4⟩ := s4_ok (c := c) (sz := sz) (pt := pt) (i := i) (op := op) (N := N) (W := W) (x8 := x8) h31 hz
  unfold s3
  by_cases h5 : W < 5
  · cases op with
    | nil =>
      refine ⟨x, [], x8', hx, Nat.le_refl _, hop, ?_⟩
      simp only [stS] at h4 ⊢
      simp [cmpF, h5, h4]
    | cons d op =>
      refine ⟨d, op, x8, hop d (.head _), by simp, fun k hk => hop k (.tail _ hk), ?_⟩
      have z2 : okLen (op.length + 1) = true := okLen_of (by simp at hz2; omega)
      have hi : idxF (strD (d :: op)) (.int 0) = some (ch d) := by simp [idxF, at?, z2]
      have hsl : slF (strD (d :: op)) (some (.int 1)) none = some (.val (strD op)) := by simp [slF, z2, bnd]
      simp only [stS]
      simp [cmpF, h5, hi, hsl, binF, z1]
  · refine ⟨x, op, x8', hx, Nat.le_refl _, hop, ?_⟩
    simp only [stS] at h4 ⊢
    simp [cmpF, h5, h4]

theorem s2_ok (h31 : Sp31 Γ) (hz : sg.length ≤ 1000) (hz2 : op.length ≤ 1000) (hop : ∀ c ∈ op, isSign c = true) : ∃ x op' x8', isSign x = true ∧ op'.length ≤ op.length + 1 ∧ (∀ c ∈ op', isSign c = true) ∧ exs Γ s2 (stS c sz pt sg op N i W x8) = .ok (.next, stS c sz pt (sg ++ [x]) op' N i W x8') := by
  have z1 : okLen (sg.length + 1) = true := okLen_of (by omega)
  have z2 : okLen (1 + op.length) = true := okLen_of (by omega)
  unfold s2
  by_cases h2 : W < 2
  · have hi := idx_str (l := [41, 93, 125]) (n := (N.fdiv 63).fmod 3) (k := 3) rfl rfl (fmod_lo _ (by omega)) (fmod_hi _ (by omega))
    have hj := idx_str (l := [40, 91, 123]) (n := (N.fdiv 63).fmod 3) (k := 3) rfl rfl (fmod_lo _ (by omega)) (fmod_hi _ (by omega))
    refine ⟨([40, 91, 123][((N.fdiv 63).fmod 3).toNat]?).getD 32, (([41, 93, 125][((N.fdiv 63).fmod 3).toNat]?).getD 32) :: op, x8, sgn2 (by decide) _, by simp, fun k hk => ?_, ?_⟩
    · rcases List.mem_cons.mp hk with rfl | hk
      · exact sgn2 (by decide) _
      · exact hop k hk
    · simp only [stS]
      simp [cmpF, h2, hi, hj, binF, small, z1, z2]
  · obtain ⟨x, op', x8', hx, hl, ho, h3⟩ := s3_ok (c := c) (sz := sz) (pt := pt) (i := i) (N := N) (W := W) (x8 := x8) h31 hz hz2 hop
    refine ⟨x, op', x8', hx, by omega, ho, ?_⟩
    simp only [stS] at h3 ⊢
    simp [cmpF, h2, h3]

theorem s1_ok (h31 : Sp31 Γ) (hz : sg.length ≤ 1000) (hz2 : op.length ≤ 1000) (hI : Inv pt i sg op) : ∃ sg' op' x8', Inv pt (i + 1) sg' op' ∧ exs Γ s1 (stS c sz pt sg op N i W x8) = .ok (.next, stS c sz pt sg' op' N i W x8') := by
  have z1 : okLen (sg.length + 1) = true := okLen_of (by omega)
  obtain ⟨x, op', x8', hx, hl, ho, h2⟩ := s2_ok (c := c) (sz := sz) (pt := pt) (i := i) (N := N) (W := W) (x8 := x8) h31 hz hz2 hI.hop
  unfold s1
  have hm : ((i : Int).fmod 2) = ((i % 2 : Nat) : Int) := by
    rw [Int.fmod_eq_emod_of_nonneg _ (by omega)]; omega
  cases pt with
  | true =>
    by_cases hi : i % 2 = 1
    · refine ⟨sg ++ [10], op, x8, hI.line fun _ => hi, ?_⟩
      simp only [stS]
      simp [cmpF, binF, hm, hi, z1]
    · refine ⟨sg ++ [x], op', x8', hI.sign hx (fun _ => by omega) ho hl, ?_⟩
      have hi0 : i % 2 = 0 := by omega
      simp only [stS] at h2 ⊢
      by_cases h6 : W = 6
      · simp [cmpF, binF, hm, hi0, h6] at h2 ⊢
        rw [h2]
      · simp [cmpF, binF, hm, hi0, h6, h2]
  | false =>
    by_cases h6 : W = 6
    · refine ⟨sg ++ [10], op, x8, hI.line fun e => (by cases e), ?_⟩
      simp only [stS]
      simp [cmpF, binF, h6, z1]
    · refine ⟨sg ++ [x], op', x8', hI.sign hx (fun e => by cases e) ho hl, ?_⟩
      simp only [stS] at h2 ⊢
      simp [cmpF, binF, h6, h2]
theorem turn_ok (h31 : Sp31 Γ) (hz : sg.length ≤ 1000) (hz2 : op.length ≤ 1000) (hI : Inv pt i sg op) {x6 x7 : Option F} : ∃ sg' op' N' x7' x8', Inv pt (i + 1) sg' op' ∧
    turn Γ (.one 6) sB (.int i) [c, sz, some (.val (.bool pt)), some (.val (strD sg)), some (.val (strD op)), some (.val (.int N)), x6, x7, x8] = .ok (.next, [c, sz, some (.val (.bool pt)), some (.val (strD sg')), some (.val (strD op')), some (.val (.int N')), some (.val (.int i)), x7', x8']) := by
  obtain ⟨sg', op', x8', hI', h1⟩ := s1_ok (Γ := Γ) (c := c) (sz := sz) (N := ((N * 48271 + 11 * i + 7).fmod 2147483647)) (W := (((N * 48271 + 11 * i + 7).fmod 2147483647).fdiv 7).fmod 9) (x8 := x8) h31 hz hz2 hI
  refine ⟨sg', op', (N * 48271 + 11 * i + 7).fmod 2147483647, some (.val (.int ((((N * 48271 + 11 * i + 7).fmod 2147483647).fdiv 7).fmod 9))), x8', hI', ?_⟩
  unfold sB
  simp only [stS] at h1
  simp only [turn, bindT]
  simp [binF, small, h1]
end

theorem inv_len {pt : Bool} {i : Nat} {sg op : List Nat} (h : Inv pt i sg op) : sg.length ≤ 3 * i + 2 ∧ op.length ≤ 2 * i + 2 := by
  have h1 := h.hnl
  have h2 := h.hnn
  have h3 : sg.length = nl sg + nn sg := by
    unfold nl nn
    induction sg with
    | nil => rfl
    | cons c l ih =>
      have ih' : l.length = (l.filter (· == 10)).length + (l.filter (· != 10)).length := by
        clear h h1 h2 ih
        induction l with
        | nil => rfl
        | cons c l ih => by_cases hc : c = 10 <;> simp [hc] <;> omega
      by_cases hc : c = 10 <;> simp [hc] <;> omega
  cases pt with
  | true => simp at h1 h2; omega
  | false => simp at h1 h2; omega

theorem stream_loop {Γ : Nat → Fn} {c sz : Option F} {pt : Bool} (h31 : Sp31 Γ) : ∀ (n i : Nat) (sg op : List Nat) (N : Int) (x6 x7 x8 : Option F), i + n ≤ 200 → Inv pt i sg op →
    ∃ sg' op' N' x6' x7' x8', Inv pt (i + n) sg' op' ∧ forL (turn Γ (.one 6) sB) ((List.range' i n).map fun (k : Nat) => PyData.int k) [c, sz, some (.val (.bool pt)), some (.val (strD sg)), some (.val (strD op)), some (.val (.int N)), x6, x7, x8] =
      .ok (.next, [c, sz, some (.val (.bool pt)), some (.val (strD sg')), some (.val (strD op')), some (.val (.int N')), x6', x7', x8'])
  | 0, i, sg, op, N, x6, x7, x8, _, hI => ⟨sg, op, N, x6, x7, x8, hI, rfl⟩
  | n + 1, i, sg, op, N, x6, x7, x8, hb, hI => by
    obtain ⟨l1, l2⟩ := inv_len hI
    obtain ⟨sg1, op1, N1, x71, x81, hI1, e1⟩ := turn_ok (Γ := Γ) (c := c) (sz := sz) (N := N) (x8 := x8) (x6 := x6) (x7 := x7) h31 (by omega) (by omega) hI
    obtain ⟨sg', op', N', x6', x7', x8', hI', e2⟩ := stream_loop (Γ := Γ) (c := c) (sz := sz) h31 n (i + 1) sg1 op1 N1 (some (.val (.int i))) x71 x81 (by omega) hI1
    refine ⟨sg', op', N', x6', x7', x8', by rw [show i + (n + 1) = i + 1 + n by omega]; exact hI', ?_⟩
    rw [List.range'_succ, List.map_cons, forL_next e1]
    exact e2

/-- what a stream is like -/
structure OkStream (l : List Nat) (m : Nat) : Prop where
  good : ∀ c ∈ l, goodC c
  hnl : Mine.L1.nl l ≤ 55
  hnn : Mine.L1.nn l ≤ m

theorem len_split (l : List Nat) : l.length = nl l + nn l := by
  unfold nl nn
  induction l with
  | nil => rfl
  | cons c l ih => by_cases hc : c = 10 <;> simp [hc] <;> omega

theorem stream_ok {Γ : Nat → Fn} (h31 : Sp31 Γ) (cell : Int) (size : Nat) (pt : Bool) (hs : if pt then size ≤ 110 else size ≤ 55) : ∃ l, OkStream l 110 ∧ runDef Γ 3 6 b_law_stream [.int cell, .int size, .bool pt] = .ret (.val (strD l)) := by
  have hs' : size ≤ 110 := by cases pt <;> simp at hs <;> omega
  have hI0 : Inv pt 0 [] [] := ⟨fun c hc => (nomatch hc), fun c hc => (nomatch hc), by cases pt <;> simp [nl], by cases pt <;> simp [nn]⟩
  obtain ⟨sg, op, N, x6, x7, x8, hI, hloop⟩ := stream_loop (Γ := Γ) (c := some (.val (.int cell))) (sz := some (.val (.int size))) (pt := pt) h31 size 0 [] [] cell.natAbs none none none (by omega) hI0
  rw [Nat.zero_add] at hI
  obtain ⟨l1, l2⟩ := inv_len hI
  have hops : Mine.L1.nl op = 0 := nl_signs hI.hop
  refine ⟨sg ++ op, ⟨fun c hc => ?_, ?_, ?_⟩, ?_⟩
  · rcases List.mem_append.mp hc with hc | hc
    · exact hI.hsg c hc
    · exact .inl (hI.hop c hc)
  · rw [nl_append, hops]
    have := hI.hnl
    cases pt <;> simp at this hs <;> omega
  · rw [nn_append]
    have := hI.hnn
    have := nn_le op
    cases pt <;> simp at * <;> omega
  · refine (run_def (by rfl)).trans ?_
    rw [stream_body]
    have g1 : (size : Int) ≤ 16777216 := by omega
    have g2 : (-16777216 : Int) ≤ size := by omega
    have el := ex_loop (Γ := Γ) (t := .one 6) (it := .range (.var 1)) (B := sB) (st := [some (.val (.int cell)), some (.val (.int size)), some (.val (.bool pt)), some (.val (strD [])), some (.val (strD [])), some (.val (.int cell.natAbs)), none, none, none])
      (st1 := [some (.val (.int cell)), some (.val (.int size)), some (.val (.bool pt)), some (.val (strD [])), some (.val (strD [])), some (.val (.int cell.natAbs)), none, none, none]) (xs := (List.range' 0 size).map fun (k : Nat) => PyData.int k) (by simp [g1, g2, List.range_eq_range'])
    rw [hloop] at el
    have z1 : okLen (sg.length + op.length) = true := okLen_of (by omega)
    simp [el, binF, z1]
end Mine.L1
end

section
open PySem PySem.Calls PyProof.Rows
set_option Elab.async false
set_option linter.unusedVariables false
namespace Mine.L1

theorem cons_next {Γ : Nat → Fn} {s : CS} {r : CSs} {st st' : St} (h : ex Γ s st = .ok (.next, st')) : exs Γ (.cons s r) st = exs Γ r st' := by rw [exs_cons, h]; rfl

noncomputable def Sp32 (Γ : Nat → Fn) : Prop := ∀ (cell : Int) (size : Nat) (pt : Bool), (if pt then size ≤ 110 else size ≤ 55) → ∃ l, OkStream l 110 ∧ Γ 32 [.int cell, .int size, .bool pt] = .ret (.val (strD l))

theorem nl_sub {a b : List Nat} (h : a.Sublist b) : nl a ≤ nl b := (h.filter _).length_le
theorem nn_sub {a b : List Nat} (h : a.Sublist b) : nn a ≤ nn b := (h.filter _).length_le
theorem OkStream.sub {a b : List Nat} {m : Nat} (h : OkStream b m) (s : a.Sublist b) : OkStream a m := ⟨fun c hc => h.good c (s.subset hc), Nat.le_trans (nl_sub s) h.hnl, Nat.le_trans (nn_sub s) h.hnn⟩
theorem OkStream.ins {l : List Nat} {m a x : Nat} (h : OkStream l m) (hx : isSign x = true) : OkStream (l.take a ++ [x] ++ l.drop a) (m + 1) := by
  have e1 : nl l = nl (l.take a) + nl (l.drop a) := by rw [← nl_append, List.take_append_drop]
  have e2 : nn l = nn (l.take a) + nn (l.drop a) := by rw [← nn_append, List.take_append_drop]
  refine ⟨fun c hc => ?_, ?_, ?_⟩
  · simp only [List.mem_append, List.mem_singleton] at hc
    rcases hc with (hc | hc) | hc
    · exact h.good c (List.mem_of_mem_take hc)
    · rw [hc]; exact .inl hx
    · exact h.good c (List.mem_of_mem_drop hc)
  · rw [nl_append, nl_append, nl_sign hx]; have := h.hnl; omega
  · rw [nn_append, nn_append, nn_sign hx]; have := h.hnn; omega
theorem OkStream.len {l : List Nat} {m : Nat} (h : OkStream l m) : l.length ≤ 55 + m := by rw [len_split]; have := h.hnl; have := h.hnn; omega

theorem split_len : ∀ l : List Nat, (splitNL l).length = nl l + 1
  | [] => rfl
  | c :: r => by
    have ih := split_len r
    rw [splitNL]
    by_cases hc : c = 10
    · rw [if_pos hc]
      have : nl (c :: r) = nl r + 1 := by subst hc; simp [nl]
      rw [List.length_cons, ih, this]
    · rw [if_neg hc]
      have : nl (c :: r) = nl r := by simp [nl, hc]
      rw [this, ← ih]
      cases hs : splitNL r with
      | nil => rw [hs] at ih; simp at ih
      | cons h t => rfl
theorem split_row : ∀ (l : List Nat), ∀ row ∈ splitNL l, (∀ c ∈ row, c ∈ l ∧ c ≠ 10) ∧ row.length ≤ nn l
  | [] => fun row h => by simp [splitNL] at h; subst h; exact ⟨fun c hc => (nomatch hc), Nat.le_refl _⟩
  | c :: r => fun row h => by
    have ih := split_row r
    have hl := split_len r
    rw [splitNL] at h
    by_cases hc : c = 10
    · rw [if_pos hc] at h
      have hn : nn (c :: r) = nn r := by subst hc; simp [nn]
      rcases List.mem_cons.mp h with rfl | h
      · exact ⟨fun c hc => (nomatch hc), Nat.zero_le _⟩
      · obtain ⟨h1, h2⟩ := ih row h
        exact ⟨fun d hd => ⟨.tail _ (h1 d hd).1, (h1 d hd).2⟩, by rw [hn]; exact h2⟩
    · rw [if_neg hc] at h
      have hn : nn (c :: r) = nn r + 1 := by simp [nn, hc]
      cases hs : splitNL r with
      | nil => rw [hs] at hl; simp at hl
      | cons a t =>
        rw [hs] at h ih
        dsimp only at h
        rcases List.mem_cons.mp h with rfl | h
        · obtain ⟨h1, h2⟩ := ih a (.head _)
          refine ⟨fun d hd => ?_, by rw [hn, List.length_cons]; omega⟩
          rcases List.mem_cons.mp hd with rfl | hd
          · exact ⟨.head _, hc⟩
          · exact ⟨.tail _ (h1 d hd).1, (h1 d hd).2⟩
        · obtain ⟨h1, h2⟩ := ih row (.tail _ h)
          exact ⟨fun d hd => ⟨.tail _ (h1 d hd).1, (h1 d hd).2⟩, by rw [hn]; omega⟩

structure OkRows (rows : List (List Nat)) (k m : Nat) : Prop where
  one : 1 ≤ rows.length
  most : rows.length ≤ k
  row : ∀ l ∈ rows, l.length ≤ m ∧ ∀ c ∈ l, isSign c = true
theorem OkStream.rows {l : List Nat} {m : Nat} (h : OkStream l m) : OkRows (splitNL l) 56 m := by
  refine ⟨by rw [split_len]; omega, by rw [split_len]; have := h.hnl; omega, fun row hr => ?_⟩
  obtain ⟨h1, h2⟩ := split_row l row hr
  refine ⟨Nat.le_trans h2 h.hnn, fun c hc => ?_⟩
  rcases h.good c (h1 c hc).1 with q | q
  · exact q
  · exact absurd q (h1 c hc).2

theorem sl_lo {l : List Nat} {a : Nat} (hl : l.length ≤ 1000) (ha : a ≤ 100000) : slF (strD l) none (some (.int a)) = some (.val (strD (l.take a))) := by
  have z : okLen l.length = true := okLen_of (by omega)
  have h1 : (0 : Int) ≤ a ∧ (a : Int) < 4611686018427387904 := by omega
  simp [slF, z, bnd, h1]
theorem sl_hi {l : List Nat} {a : Nat} (hl : l.length ≤ 1000) (ha : a ≤ 100000) : slF (strD l) (some (.int a)) none = some (.val (strD (l.drop a))) := by
  have z : okLen l.length = true := okLen_of (by omega)
  have h1 : (0 : Int) ≤ a ∧ (a : Int) < 4611686018427387904 := by omega
  simp [slF, z, bnd, h1]

noncomputable def t5 : CS := .iff (.cmp .Eq (.bin .Mod (.call 30 (.cons (.var 0) (.cons (.int 2) .nil))) (.int 4)) (.int 1)) (.cons (.assign 3 (.bin .Add (.bin .Add (.slc (.var 3) .no (.yes (.var 4))) (.idx (.str [40, 91, 123, 41, 93, 125, 32, 122]) (.bin .Mod (.bin .Mod (.bin .Mult (.var 1) (.int 16807)) (.int 10009)) (.int 8)))) (.slc (.var 3) (.yes (.var 4)) .no))) .nil) .nil
noncomputable def t6 : CS := .iff (.cmp .Eq (.bin .Mod (.call 30 (.cons (.var 0) (.cons (.int 2) .nil))) (.int 4)) (.int 2)) (.cons (.assign 3 (.bin .Add (.slc (.var 3) .no (.yes (.var 4))) (.slc (.var 3) (.yes (.bin .Add (.var 4) (.int 1))) .no))) .nil) .nil
noncomputable def t7 : CS := .iff (.cmp .Eq (.bin .Mod (.call 30 (.cons (.var 0) (.cons (.int 2) .nil))) (.int 4)) (.int 3)) (.cons (.assign 3 (.slc (.var 3) .no (.yes (.var 4)))) .nil) .nil

section
variable {Γ : Nat → Fn} {xs : List Int} {W : Int} {pt : Bool} {l : List Nat} {a m : Nat}
noncomputable abbrev stT (xs : List Int) (W : Int) (pt : Bool) (l : List Nat) (a : Nat) : St := [some (.val (.list (xs.map .int))), some (.val (.int W)), some (.val (.bool pt)), some (.val (strD l)), some (.val (.int a)), none, none]

theorem t5_ok (h30 : Sp30 Γ) (hx : xs.length ≤ 63) (h : OkStream l m) (hm : m ≤ 120) (ha : a ≤ 10000) : ∃ l', OkStream l' (m + 1) ∧ ex Γ t5 (stT xs W pt l a) = .ok (.next, stT xs W pt l' a) := by
  have e2 := h30 xs hx 2
  have hlen := h.len
  unfold t5 stT
  by_cases hc : (cellAt xs 2).fmod 4 = 1
  · have hi := idx_str (l := [40, 91, 123, 41, 93, 125, 32, 122]) (n := ((W * 16807).fmod 10009).fmod 8) (k := 8) rfl rfl (fmod_lo _ (by omega)) (fmod_hi _ (by omega))
    have h1 := sl_lo (l := l) (a := a) (by omega) (by omega)
    have h2 := sl_hi (l := l) (a := a) (by omega) (by omega)
    refine ⟨_, h.ins (a := a) (x := ([40, 91, 123, 41, 93, 125, 32, 122][(((W * 16807).fmod 10009).fmod 8).toNat]?).getD 32) (sgn2 (by decide) _), ?_⟩
    have z1 : okLen (min a l.length + 1) = true := okLen_of (by omega)
    have z2 : okLen (min a l.length + (1 + (l.length - a))) = true := okLen_of (by omega)
    have z3 : okLen (min a l.length + 1 + (l.length - a)) = true := okLen_of (by omega)
    have e2' : Γ 30 [.list (xs.map .int), .int 2] = .ret (.val (.int (cellAt xs 2))) := e2
    simp [e2', binF, cmpF, hc, small, hi, h1, h2, z1, z2, z3]
  · refine ⟨l, ⟨h.good, h.hnl, Nat.le_succ_of_le h.hnn⟩, ?_⟩
    have e2' : Γ 30 [.list (xs.map .int), .int 2] = .ret (.val (.int (cellAt xs 2))) := e2
    simp [e2', binF, cmpF, hc]

theorem t6_ok (h30 : Sp30 Γ) (hx : xs.length ≤ 63) (h : OkStream l m) (hm : m ≤ 120) (ha : a ≤ 10000) : ∃ l', OkStream l' m ∧ ex Γ t6 (stT xs W pt l a) = .ok (.next, stT xs W pt l' a) := by
  have e2' : Γ 30 [.list (xs.map .int), .int 2] = .ret (.val (.int (cellAt xs 2))) := h30 xs hx 2
  have hlen := h.len
  unfold t6 stT
  by_cases hc : (cellAt xs 2).fmod 4 = 2
  · have h1 := sl_lo (l := l) (a := a) (by omega) (by omega)
    have h2 := sl_hi (l := l) (a := a + 1) (by omega) (by omega)
    have hs : (l.take a ++ l.drop (a + 1)).Sublist l := by
      have e : l = l.take a ++ l.drop a := (List.take_append_drop a l).symm
      conv => rhs; rw [e]
      refine List.Sublist.append (List.Sublist.refl _) ?_
      rw [← List.drop_drop]
      exact List.drop_sublist _ _
    refine ⟨_, h.sub hs, ?_⟩
    have z1 : okLen (min a l.length + (l.length - (a + 1))) = true := okLen_of (by omega)
    have h2' : slF (strD l) (some (.int ((a : Int) + 1))) none = some (.val (strD (l.drop (a + 1)))) := h2
    simp [e2', binF, cmpF, hc, h1, h2', z1]
  · refine ⟨l, h, ?_⟩
    simp [e2', binF, cmpF, hc]

theorem t7_ok (h30 : Sp30 Γ) (hx : xs.length ≤ 63) (h : OkStream l m) (hm : m ≤ 120) (ha : a ≤ 10000) : ∃ l', OkStream l' m ∧ ex Γ t7 (stT xs W pt l a) = .ok (.next, stT xs W pt l' a) := by
  have e2' : Γ 30 [.list (xs.map .int), .int 2] = .ret (.val (.int (cellAt xs 2))) := h30 xs hx 2
  have hlen := h.len
  unfold t7 stT
  by_cases hc : (cellAt xs 2).fmod 4 = 3
  · have h1 := sl_lo (l := l) (a := a) (by omega) (by omega)
    refine ⟨_, h.sub (List.take_sublist a l), ?_⟩
    simp [e2', binF, cmpF, hc, h1]
  · refine ⟨l, h, ?_⟩
    simp [e2', binF, cmpF, hc]
end
end Mine.L1
end

section
open PySem PySem.Calls PyProof.Rows
set_option Elab.async false
set_option linter.unusedVariables false
namespace Mine.L1

theorem ex_setidx {Γ : Nat → Fn} {st : St} {x k v} : ex Γ (.setidx x k v) st = (toD (ev Γ v st)).bind fun (d, st) => match ownAt st x with
    | some _ => (toD (ev Γ k st)).bind fun (i, st) => (match ownAt st x, i with
      | some xs, .int n => (match (if 0 ≤ n then at? xs.length n else none) with | some j => (if okLen xs.length then .ok (.next, st.set x (some (.own (xs.set j d)))) else .stuck) | none => .stuck)
      | _, _ => .stuck)
    | none => .stuck := rfl
theorem ev_split {Γ : Nat → Fn} {st : St} {a} : ev Γ (.splitNl a) st = (toD (ev Γ a st)).bind fun (x, st) => match x with | .str s => (if okLen ((cs s).length + 1) then .ok (.own ((splitNL (cs s)).map fun l => .str (S l)), st) else .stuck) | _ => .stuck := rfl
theorem ev_join {Γ : Nat → Fn} {st : St} {a b} : ev Γ (.join a b) st = (toD (ev Γ a st)).bind fun (x, st) => match x with
    | .str s => (toD (ev Γ b st)).bind fun (y, st) => (match y with
      | .list xs => (match cs s, strsF xs with | [], some ls => (if okLen ls.flatten.length then .ok (.val (.str (S ls.flatten)), st) else .stuck) | _, _ => .stuck)
      | _ => .stuck)
    | _ => .stuck := rfl
theorem strs_ch : ∀ l : List Nat, strsF (l.map ch) = some (l.map fun c => [c])
  | [] => rfl
  | c :: l => by rw [List.map_cons, strsF, strs_ch l]; simp
theorem flat_one : ∀ l : List Nat, (l.map fun c => [c]).flatten = l
  | [] => rfl
  | c :: l => by rw [List.map_cons, List.flatten_cons, flat_one l]; rfl
theorem sum_one : ∀ l : List Nat, (l.map (List.length ∘ fun c => [c])).sum = l.length
  | [] => rfl
  | c :: l => by rw [List.map_cons, List.sum_cons, sum_one l, List.length_cons]; simp; omega
theorem mapR_filter {f : PyData → R (List PyData)} {p : Nat → Bool} : ∀ (l : List Nat), (∀ c ∈ l, f (ch c) = .ok (if p c then [ch c] else [])) → mapR f (l.map ch) = .ok ((l.filter p).map ch)
  | [], _ => rfl
  | c :: l, h => by
    rw [List.map_cons, mapR, h c (.head _), mapR_filter l fun y hy => h y (.tail _ hy)]
    cases hp : p c <;> simp [hp]

noncomputable def c1 : CE := .comp 7 (.call 31 (.cons (.bin .Add (.call 30 (.cons (.var 0) (.cons (.int 0) .nil))) (.bin .Mult (.int 7) (.var 7))) .nil)) (.range (.bin .Sub (.int 100) (.bin .Mod (.var 1) (.int 56)))) .no
noncomputable def c2 : CE := .comp 7 (.var 7) (.data (.var 6)) (.yes (.cmp .NotIn (.var 7) (.str [32, 40, 41, 91, 93, 123, 125])))
noncomputable def t9 : CS := .iff (.cmp .Eq (.bin .Mod (.bin .FloorDiv (.call 30 (.cons (.var 0) (.cons (.int 2) .nil))) (.int 4)) (.int 6)) (.int 1)) (.cons (.assign 6 c1) (.cons (.append 5 (.join (.str []) c2)) .nil)) .nil
noncomputable def t10 : CS := .iff (.cmp .Eq (.bin .Mod (.bin .FloorDiv (.call 30 (.cons (.var 0) (.cons (.int 2) .nil))) (.int 24)) (.int 6)) (.int 1)) (.cons (.setidx 5 (.int 0) (.bin .Add (.bin .Mult (.idx (.str [32, 120]) (.bin .Mod (.var 1) (.int 2))) (.bin .Sub (.int 118) (.len (.idxv 5 (.int 0))))) (.idxv 5 (.int 0)))) .nil) .nil

theorem text_body : b_law_text = (.cons (.assign 1 (.call 30 (.cons (.var 0) (.cons (.int 1) .nil)))) (.cons (.assign 2 (.cmp .Eq (.bin .Mod (.bin .FloorDiv (.var 1) (.int 56)) (.int 6)) (.int 1))) (.cons (.assign 3 (.call 32 (.cons (.call 30 (.cons (.var 0) (.cons (.int 0) .nil))) (.cons (.bin .Mult (.bin .Mod (.var 1) (.int 56)) (.bin .Add (.int 1) (.toInt (.var 2)))) (.cons (.var 2) .nil))))) (.cons (.assign 4 (.bin .Mod (.bin .Mod (.bin .Mult (.var 1) (.int 48271)) (.int 100003)) (.bin .Add (.len (.var 3)) (.int 1)))) (.cons t5 (.cons t6 (.cons t7 (.cons (.assign 5 (.splitNl (.var 3))) (.cons t9 (.cons t10 (.cons (.ret (.var 5)) .nil))))))))))) := rfl

section
variable {Γ : Nat → Fn} {xs : List Int} {W : Int} {x2 x3 x4 x6 : Option F} {rows : List (List Nat)}
noncomputable abbrev stU (xs : List Int) (W : Int) (x2 x3 x4 : Option F) (rows : List (List Nat)) (x6 : Option F) : St := [some (.val (.list (xs.map .int))), some (.val (.int W)), x2, x3, x4, some (.own (rows.map strD)), x6]

theorem c1_ok (h30 : Sp30 Γ) (h31 : Sp31 Γ) (hx : xs.length ≤ 63) : ∃ l : List Nat, l.length ≤ 100 ∧ (∀ c ∈ l, isSign c = true) ∧ ev Γ c1 (stU xs W x2 x3 x4 rows x6) = .ok (.own (l.map ch), stU xs W x2 x3 x4 rows x6) := by
  have e0 : Γ 30 [.list (xs.map .int), .int 0] = .ret (.val (.int (cellAt xs 0))) := h30 xs hx 0
  have f1 := fmod_lo W (b := 56) (by omega)
  have f2 := fmod_hi W (b := 56) (by omega)
  refine ⟨(List.range (100 - W.fmod 56).toNat).map fun (k : Nat) => anyS (cellAt xs 0 + 7 * k), by simp; omega, fun c hc => ?_, ?_⟩
  · obtain ⟨k, _, rfl⟩ := List.mem_map.mp hc; exact anyS_ok _
  · unfold c1
    refine ev_comp (xs := (List.range (100 - W.fmod 56).toNat).map fun (k : Nat) => PyData.int k) ?_ ?_ (okLen_of (by simp; omega)) rfl
    · have g1 : (100 - W.fmod 56 : Int) ≤ 16777216 := by omega
      have g2 : (-16777216 : Int) ≤ 100 - W.fmod 56 := by omega
      simp [binF, g1, g2]
    · rw [mapR_map (g := fun d => match d with | .int k => ch (anyS (cellAt xs 0 + 7 * k)) | d => d)]
      · rw [List.map_map, List.map_map]; rfl
      · intro d hd
        obtain ⟨k, _, rfl⟩ := List.mem_map.mp hd
        unfold inStep
        have e31 := h31 (cellAt xs 0 + 7 * k)
        simp [vals, e0, binF, small, e31]

theorem t9_ok (h30 : Sp30 Γ) (h31 : Sp31 Γ) (hx : xs.length ≤ 63) (h : OkRows rows 56 111) : ∃ rows' x6', OkRows rows' 57 111 ∧ ex Γ t9 (stU xs W x2 x3 x4 rows none) = .ok (.next, stU xs W x2 x3 x4 rows' x6') := by
  have e2 : Γ 30 [.list (xs.map .int), .int 2] = .ret (.val (.int (cellAt xs 2))) := h30 xs hx 2
  unfold t9
  by_cases hc : ((cellAt xs 2).fdiv 4).fmod 6 = 1
  · obtain ⟨l, hl1, hl2, hc1⟩ := c1_ok (W := W) (x2 := x2) (x3 := x3) (x4 := x4) (rows := rows) (x6 := none) h30 h31 hx
    have z1 : okLen l.length = true := okLen_of (by omega)
    have hc2 : ev Γ c2 (stU xs W x2 x3 x4 rows (some (.own (l.map ch)))) = .ok (.own ((l.filter fun c => !decide (c ∈ [32, 40, 41, 91, 93, 123, 125])).map ch), stU xs W x2 x3 x4 rows (some (.val (.list (l.map ch))))) := by
      unfold c2
      refine ev_comp (xs := l.map ch) (st1 := stU xs W x2 x3 x4 rows (some (.val (.list (l.map ch))))) (by simp [stU, itemsF, z1]) ?_ (by simpa using z1) rfl
      refine mapR_filter l fun c hc => ?_
      unfold inStep
      have hv : (vals (stU xs W x2 x3 x4 rows (some (.val (.list (l.map ch))))) ++ [some (.val (ch c))]) = [some (.val (.list (xs.map .int))), some (.val (.int W)), (match x2 with | some (.val d) => some (.val d) | _ => none), (match x3 with | some (.val d) => some (.val d) | _ => none), (match x4 with | some (.val d) => some (.val d) | _ => none), none, some (.val (.list (l.map ch))), some (.val (ch c))] := rfl
      rw [hv]
      by_cases hm : c ∈ [32, 40, 41, 91, 93, 123, 125]
      · simp [cmpF, in_one, hm]
      · simp [cmpF, in_one, hm]
    generalize hf : (l.filter fun c => !decide (c ∈ [32, 40, 41, 91, 93, 123, 125])) = l' at hc2
    have hl' : l'.length ≤ 100 := by rw [← hf]; exact Nat.le_trans (List.length_filter_le _ _) hl1
    have hs' : ∀ c ∈ l', isSign c = true := fun c hc => by rw [← hf] at hc; exact hl2 c (List.mem_filter.mp hc).1
    refine ⟨rows ++ [l'], some (.val (.list (l.map ch))), ⟨by have := h.one; simp, by have := h.most; simp; omega, fun r hr => ?_⟩, ?_⟩
    · rcases List.mem_append.mp hr with hr | hr
      · exact h.row r hr
      · rw [List.mem_singleton.mp hr]; exact ⟨by omega, hs'⟩
    · have z2 : okLen rows.length = true := okLen_of (by have := h.most; omega)
      have z3 : okLen l'.length = true := okLen_of (by omega)
      have hfl := flat_one l'
      have hst := strs_ch l'
      simp only [stU] at hc1 hc2 ⊢
      simp [e2, binF, small, cmpF, hc, hc1, ownAt, ev_join, hc2, hst, hfl, sum_one, z2, z3]
  · refine ⟨rows, none, ⟨h.one, Nat.le_succ_of_le h.most, h.row⟩, ?_⟩
    simp [stU, e2, binF, small, cmpF, hc]

theorem flat_rep (n c : Nat) : (List.replicate n [c]).flatten = List.replicate n c := by
  induction n with
  | zero => rfl
  | succ n ih => rw [List.replicate_succ, List.flatten_cons, ih]; rfl

theorem t10_ok (h30 : Sp30 Γ) (hx : xs.length ≤ 63) (h : OkRows rows 57 111) : ∃ rows', OkText rows' ∧ ex Γ t10 (stU xs W x2 x3 x4 rows x6) = .ok (.next, stU xs W x2 x3 x4 rows' x6) := by
  have e2 : Γ 30 [.list (xs.map .int), .int 2] = .ret (.val (.int (cellAt xs 2))) := h30 xs hx 2
  unfold t10
  by_cases hc : ((cellAt xs 2).fdiv 24).fmod 6 = 1
  · cases hr : rows with
    | nil => have := h.one; rw [hr] at this; simp at this
    | cons r0 rest =>
      rw [hr] at h
      have hr0 := h.row r0 (.head _)
      have hi := idx_str (l := [32, 120]) (n := W.fmod 2) (k := 2) rfl rfl (fmod_lo _ (by omega)) (fmod_hi _ (by omega))
      generalize hg : ([32, 120][(W.fmod 2).toNat]?).getD 32 = x at hi
      have hxs : isSign x = true := by rw [← hg]; exact sgn2 (by decide) _
      have hmost := h.most
      simp only [List.length_cons] at hmost
      have z1 : okLen (rest.length + 1) = true := okLen_of (by omega)
      have z2 : okLen r0.length = true := okLen_of (by omega)
      have e0 : idxF (.list (strD r0 :: rest.map strD)) (.int 0) = some (strD r0) := by simp [idxF, at?, z1]
      have hn : ((118 : Int) - r0.length).toNat = 118 - r0.length := by omega
      have g1 : (118 : Int) - r0.length ≤ 16777216 := by omega
      have g2 : (-16777216 : Int) ≤ 118 - r0.length := by omega
      have z3 : okLen (118 - r0.length) = true := okLen_of (by omega)
      have z4 : okLen (118 - r0.length + r0.length) = true := okLen_of (by omega)
      refine ⟨(List.replicate (118 - r0.length) x ++ r0) :: rest, ⟨by simp, by simp; omega, fun l hl => ?_⟩, ?_⟩
      · rcases List.mem_cons.mp hl with rfl | hl
        · refine ⟨by simp; omega, fun c hc => ?_⟩
          rcases List.mem_append.mp hc with hc | hc
          · rw [(List.mem_replicate.mp hc).2]; exact hxs
          · exact hr0.2 c hc
        · have := h.row l (.tail _ hl); exact ⟨by omega, this.2⟩
      · simp [stU, e2, binF, small, cmpF, hc, ex_setidx, hi, ev_idxv, listAt, ownAt, e0, lenF, z2, hn, g1, g2, z3, z4, flat_rep, at?, z1]
  · refine ⟨rows, ⟨h.one, by have := h.most; omega, fun l hl => ?_⟩, ?_⟩
    · have := h.row l hl; exact ⟨by omega, this.2⟩
    · simp [stU, e2, binF, small, cmpF, hc]
end

theorem text_ok {Γ : Nat → Fn} (h30 : Sp30 Γ) (h31 : Sp31 Γ) (h32 : Sp32 Γ) (xs : List Int) (hx : xs.length ≤ 63) : ∃ rows, OkText rows ∧ runDef Γ 1 6 b_law_text [.list (xs.map .int)] = .ret (.val (.list (rows.map strD))) := by
  have e0 : Γ 30 [.list (xs.map .int), .int 0] = .ret (.val (.int (cellAt xs 0))) := h30 xs hx 0
  have e1 : Γ 30 [.list (xs.map .int), .int 1] = .ret (.val (.int (cellAt xs 1))) := h30 xs hx 1
  generalize hW : cellAt xs 1 = W at e1
  have f1 := fmod_lo W (b := 56) (by omega)
  have f2 := fmod_hi W (b := 56) (by omega)
  generalize hpt : ((W.fdiv 56).fmod 6 == 1) = pt
  obtain ⟨l, hl, e32⟩ := h32 (cellAt xs 0) ((W.fmod 56).toNat * (1 + if pt then 1 else 0)) pt (by cases pt <;> simp <;> omega)
  have hsz : (((W.fmod 56).toNat * (1 + if pt then 1 else 0) : Nat) : Int) = W.fmod 56 * (1 + if pt then 1 else 0) := by
    cases pt <;> simp <;> omega
  rw [hsz] at e32
  have hlen := hl.len
  have f3 := fmod_lo ((W * 48271).fmod 100003) (b := (l.length : Int) + 1) (by omega)
  have f4 := fmod_hi ((W * 48271).fmod 100003) (b := (l.length : Int) + 1) (by omega)
  obtain ⟨a, ha⟩ : ∃ a : Nat, (a : Int) = ((W * 48271).fmod 100003).fmod ((l.length : Int) + 1) := ⟨_, Int.toNat_of_nonneg f3⟩
  have ha' : a ≤ 10000 := by omega
  obtain ⟨l5, hl5, e5⟩ := t5_ok (Γ := Γ) (xs := xs) (W := W) (pt := pt) (a := a) h30 hx hl (by omega) ha'
  obtain ⟨l6, hl6, e6⟩ := t6_ok (Γ := Γ) (xs := xs) (W := W) (pt := pt) (a := a) h30 hx hl5 (by omega) ha'
  obtain ⟨l7, hl7, e7⟩ := t7_ok (Γ := Γ) (xs := xs) (W := W) (pt := pt) (a := a) h30 hx hl6 (by omega) ha'
  obtain ⟨rows9, x6, hr9, e9⟩ := t9_ok (Γ := Γ) (xs := xs) (W := W) (x2 := some (.val (.bool pt))) (x3 := some (.val (strD l7))) (x4 := some (.val (.int a))) h30 h31 hx hl7.rows
  obtain ⟨rows, hr, e10⟩ := t10_ok (Γ := Γ) (xs := xs) (W := W) (x2 := some (.val (.bool pt))) (x3 := some (.val (strD l7))) (x4 := some (.val (.int a))) (x6 := x6) h30 hx hr9
  refine ⟨rows, hr, ?_⟩
  refine (run_def (by rfl)).trans ?_
  rw [text_body]
  have z1 : okLen l.length = true := okLen_of (by omega)
  have hlen7 := hl7.len
  have z7 : okLen (l7.length + 1) = true := okLen_of (by omega)
  have hne : ((l.length : Int) + 1 = 0) = False := by simp; omega
  have hsm : small (1 + if pt = true then 1 else 0) = true := by cases pt <;> rfl
  have hsm2 : decide ((1 + if pt = true then (1 : Int) else 0).natAbs < 1073741824) = true := hsm
  refine congrArg outOf ?_ |>.trans (b := outOf (.ok (.ret (.val (.list (rows.map strD))), [some (.val (.list (xs.map .int))), some (.val (.int W)), some (.val (.bool pt)), some (.val (strD l7)), some (.val (.int a)), some (.val (.list (rows.map strD))), x6]))) rfl
  refine (cons_next (st' := [some (.val (.list (xs.map .int))), some (.val (.int W)), none, none, none, none, none]) (by simp [e1])).trans ?_
  refine (cons_next (st' := [some (.val (.list (xs.map .int))), some (.val (.int W)), some (.val (.bool pt)), none, none, none, none]) (by simp [binF, small, cmpF, hpt])).trans ?_
  refine (cons_next (st' := [some (.val (.list (xs.map .int))), some (.val (.int W)), some (.val (.bool pt)), some (.val (strD l)), none, none, none]) (by simp [e0, binF, hsm, e32])).trans ?_
  refine (cons_next (st' := stT xs W pt l a) (by simp [stT, lenF, z1, binF, small, hne, ha])).trans ?_
  refine (cons_next e5).trans ?_
  refine (cons_next e6).trans ?_
  refine (cons_next e7).trans ?_
  refine (cons_next (st' := stU xs W (some (.val (.bool pt))) (some (.val (strD l7))) (some (.val (.int a))) (splitNL l7) none) (by simp [stT, stU, ev_split, z7])).trans ?_
  refine (cons_next e9).trans ?_
  refine (cons_next e10).trans ?_
  simp [stU]
end Mine.L1
end

section
open PySem PySem.Calls PyProof.Rows
set_option Elab.async false
set_option linter.unusedVariables false
namespace Mine.L1
theorem g0 (n : Nat) : Sp0 (Gam P (n + 1)) := fun c => is_sign_ok (Gam P n) c
theorem g3 (n : Nat) : Sp3 (Gam P (n + 1)) := ⟨fun c => is_bracket_ok (Gam P n) c, fun w h1 h2 => is_bracket_word (Gam P n) h1 h2⟩
theorem g5 (n : Nat) : Sp5 (Gam P (n + 1)) := fun m k => lower_ok (Gam P n) m k
theorem g8 (n : Nat) : Sp8 (Gam P (n + 1)) := fun R h => fault_in_ok (Gam P n) R h
theorem g30 (n : Nat) : Sp30 (Gam P (n + 1)) := fun xs h k => cell_at_ok (Gam P n) xs h k
theorem g31 (n : Nat) : Sp31 (Gam P (n + 1)) := fun c => any_sign_ok (Gam P n) c
theorem g34 (n : Nat) : Sp34 (Gam P (n + 1)) := fun i => law_whole_ok (Gam P n) i
theorem g35 (n : Nat) : Sp35 (Gam P (n + 1)) := fun rows h => law_fault_ok (Gam P n) rows h.most h.row
theorem g1 (n : Nat) : Sp1 (Gam P (n + 2)) := fun l h => is_row_ok (g0 n) h
theorem g4 (n : Nat) : Sp4 (Gam P (n + 2)) := fun L h => taken_apart_ok (g3 n) L h
theorem g7 (n : Nat) : Sp7 (Gam P (n + 2)) := fun a b k h1 h2 => joined_ok (g5 n) a b k h1 h2
theorem g32 (n : Nat) : Sp32 (Gam P (n + 2)) := fun c s p h => stream_ok (g31 n) c s p h
theorem g36 (n : Nat) : Sp36 (Gam P (n + 2)) := fun f => law_fault_good_ok (g34 n) f
theorem g2 (n : Nat) : Sp2 (Gam P (n + 3)) := fun rows h1 h2 h3 => is_text_ok (g1 n) rows h1 h2 h3
theorem g6 (n : Nat) : Sp6 (Gam P (n + 3)) := fun ts h1 h2 => reading_of_ok (g3 (n + 1)) (g7 n) ts h1 h2
theorem g33 (n : Nat) : Sp33 (Gam P (n + 3)) := fun xs h => text_ok (g30 (n + 1)) (g31 (n + 1)) (g32 n) xs h
theorem g9 (n : Nat) : Sp9 (Gam P (n + 4)) := fun rows h1 h2 h3 => parts_of_ok (g2 n) (g4 (n + 1)) rows h1 h2 h3
theorem g10 (n : Nat) : Sp10 (Gam P (n + 4)) := fun rows h1 h2 => fault_in_parts_ok (g6 n) (g7 (n + 1)) (g8 (n + 2)) rows h1 h2
theorem g11 (n : Nat) : Sp11 (Gam P (n + 5)) := fun rows h => fault_of_ok (g9 n) (g10 n) rows h.one h.most h.row
theorem plain (xs : List Int) (h : xs.length ≤ 63) : Gam P 20 60 [.list (xs.map .int)] = .ret (.val (.bool true)) :=
  law_ok (g11 14) (g33 16) (g35 18) (g36 17) xs h
end Mine.L1
end

section
open PySem PySem.Calls PyProof.Rows PySem.W
set_option Elab.async false
set_option linter.unusedVariables false
namespace Mine

/-- the law's call, as the row wants it -/
theorem run_law {T : Tp} {P : List (Nat × FnDef)} {k : Nat} {d : FnDef} {fa : Addr} {N : Nat} {A : Around} {s : Shared} {vs : List Value} {ds : List PyData} {Q : Value → Shared → Prop} {E : Value → Shared → Prop}
    (TO : T.Ok) (hP : ∀ (k : Nat) (d : FnDef), P.lookup k = some d → ∃ f o fd body, FnAt T (ftOf P) d f o fd body) (hk : P.lookup k = some d) (hm : T.mg d.name = some (.ref fa)) (hR : Room N A)
    (hT : ∀ b o, T.GT b = some o → s.heap.get? b = some o) (hv : RepAll (fun b => s.heap.get? b) vs ds) (hr : Gam P N k ds = .ret (.val (.bool true)))
    (hq : ∀ s', (∃ h' tk, s' = { s with heap := h', toks := tk }) → (∀ b o, s.heap.get? b = some o → s'.heap.get? b = some o) → Q (.bool true) s') :
    wpAny (model T.prog T.w) A (call (.ref fa) vs) Q E s := by
  obtain ⟨f, o, fd, body, hf⟩ := hP k d hk
  have : f = fa := by have := hf.mg.symm.trans hm; cases this; rfl
  subst this
  refine wpAny_call (codeAny_mono (fn_all TO hP N k d f o fd body A hk hf hR s (fun b => s.heap.get? b) vs ds _ hT (fun b o e => e) hv hr) fun res s' hres => ?_)
  obtain ⟨v, x, G', rfl, W, hx, hrep⟩ := hres
  cases hrep
  exact hq s' W.shr fun b o e => W.ext b o e
theorem mem_lookupN {α : Type} : ∀ {l : List (Nat × α)} {n : Nat} {c : α}, l.lookup n = some c → (n, c) ∈ l
  | (k, v) :: r, n, c, h => by
    rw [List.lookup_cons] at h
    cases hb : n == k with
    | true => rw [hb] at h; cases h; rw [beq_iff_eq.mp hb]; exact List.mem_cons_self
    | false => rw [hb] at h; exact List.mem_cons_of_mem _ (mem_lookupN h)
theorem rep_ints {G : GM} : ∀ {vs : List Value} {xs : List Int}, IntsAre vs xs → RepAll G vs (xs.map .int)
  | _, _, .nil => .nil
  | _, _, .cons _ _ h => .cons (.int ..) (rep_ints h)
end Mine

namespace Mine.L1
/-- the two objects of the text's top that are looked at: its names, and OPENING -/
noncomputable def heapK (P : Params) : Frag := [(3, { cls := Value.type "dict", data := Data.dict #[{ hash := PyData.keyHash P (Str.ofString "__name__"), key := Value.str (Str.ofString "__name__") 165, val := Value.str (Str.ofString "law_uf050009_01") 347 }, { hash := PyData.keyHash P (Str.ofString "__doc__"), key := Value.str (Str.ofString "__doc__") 166, val := Value.none }, { hash := PyData.keyHash P (Str.ofString "__package__"), key := Value.str (Str.ofString "__package__") 167, val := Value.none }, { hash := PyData.keyHash P (Str.ofString "__loader__"), key := Value.str (Str.ofString "__loader__") 168, val := Value.builtin "__main__.__loader__#opaque" }, { hash := PyData.keyHash P (Str.ofString "__spec__"), key := Value.str (Str.ofString "__spec__") 169, val := Value.none }, { hash := PyData.keyHash P (Str.ofString "__annotations__"), key := Value.str (Str.ofString "__annotations__") 170, val := Value.ref 6 }, { hash := PyData.keyHash P (Str.ofString "__builtins__"), key := Value.str (Str.ofString "__builtins__") 171, val := Value.ref 4 }, { hash := PyData.keyHash P (Str.ofString "__file__"), key := Value.str (Str.ofString "__file__") 173, val := Value.str (Str.ofString "/claim/cut.py") 172 }, { hash := PyData.keyHash P (Str.ofString "__cached__"), key := Value.str (Str.ofString "__cached__") 174, val := Value.none }, { hash := PyData.keyHash P (Str.ofString "PageError"), key := Value.str (Str.ofString "PageError") 206, val := Value.ref 24 }, { hash := PyData.keyHash P (Str.ofString "NoPage"), key := Value.str (Str.ofString "NoPage") 222, val := Value.ref 37 }, { hash := PyData.keyHash P (Str.ofString "OPENING"), key := Value.str (Str.ofString "OPENING") 234, val := Value.ref 40 }, { hash := PyData.keyHash P (Str.ofString "OPENERS"), key := Value.str (Str.ofString "OPENERS") 236, val := Value.str (Str.ofString "([{") 235 }, { hash := PyData.keyHash P (Str.ofString "MOST_ROWS"), key := Value.str (Str.ofString "MOST_ROWS") 238, val := Value.int 64 237 }, { hash := PyData.keyHash P (Str.ofString "MOST_SIGNS"), key := Value.str (Str.ofString "MOST_SIGNS") 240, val := Value.int 120 239 }, { hash := PyData.keyHash P (Str.ofString "is_sign"), key := Value.str (Str.ofString "is_sign") 247, val := Value.ref 47 }, { hash := PyData.keyHash P (Str.ofString "is_row"), key := Value.str (Str.ofString "is_row") 255, val := Value.ref 54 }, { hash := PyData.keyHash P (Str.ofString "is_text"), key := Value.str (Str.ofString "is_text") 263, val := Value.ref 61 }, { hash := PyData.keyHash P (Str.ofString "is_bracket"), key := Value.str (Str.ofString "is_bracket") 270, val := Value.ref 68 }, { hash := PyData.keyHash P (Str.ofString "taken_apart"), key := Value.str (Str.ofString "taken_apart") 282, val := Value.ref 75 }, { hash := PyData.keyHash P (Str.ofString "lower"), key := Value.str (Str.ofString "lower") 292, val := Value.ref 82 }, { hash := PyData.keyHash P (Str.ofString "reading_of"), key := Value.str (Str.ofString "reading_of") 305, val := Value.ref 89 }, { hash := PyData.keyHash P (Str.ofString "joined"), key := Value.str (Str.ofString "joined") 311, val := Value.ref 94 }, { hash := PyData.keyHash P (Str.ofString "fault_in"), key := Value.str (Str.ofString "fault_in") 321, val := Value.ref 101 }, { hash := PyData.keyHash P (Str.ofString "parts_of"), key := Value.str (Str.ofString "parts_of") 329, val := Value.ref 106 }, { hash := PyData.keyHash P (Str.ofString "fault_in_parts"), key := Value.str (Str.ofString "fault_in_parts") 339, val := Value.ref 113 }, { hash := PyData.keyHash P (Str.ofString "fault_of"), key := Value.str (Str.ofString "fault_of") 346, val := Value.ref 120 }, { hash := PyData.keyHash P (Str.ofString "_law_cell_at"), key := Value.str (Str.ofString "_law_cell_at") 356, val := Value.ref 127 }, { hash := PyData.keyHash P (Str.ofString "_law_any_sign"), key := Value.str (Str.ofString "_law_any_sign") 364, val := Value.ref 134 }, { hash := PyData.keyHash P (Str.ofString "_law_stream"), key := Value.str (Str.ofString "_law_stream") 379, val := Value.ref 141 }, { hash := PyData.keyHash P (Str.ofString "_law_text"), key := Value.str (Str.ofString "_law_text") 385, val := Value.ref 146 }, { hash := PyData.keyHash P (Str.ofString "_law_whole"), key := Value.str (Str.ofString "_law_whole") 392, val := Value.ref 153 }, { hash := PyData.keyHash P (Str.ofString "_law_fault"), key := Value.str (Str.ofString "_law_fault") 403, val := Value.ref 160 }, { hash := PyData.keyHash P (Str.ofString "_law_fault_good"), key := Value.str (Str.ofString "_law_fault_good") 411, val := Value.ref 167 }, { hash := PyData.keyHash P (Str.ofString "law"), key := Value.str (Str.ofString "law") 421, val := Value.ref 174 }] 35 }), (40, { cls := Value.type "dict", data := Data.dict #[{ hash := PyData.keyHash P (Str.ofString ")"), key := Value.str (Str.ofString ")") 225, val := Value.str (Str.ofString "(") 226 }, { hash := PyData.keyHash P (Str.ofString "]"), key := Value.str (Str.ofString "]") 227, val := Value.str (Str.ofString "[") 228 }, { hash := PyData.keyHash P (Str.ofString "}"), key := Value.str (Str.ofString "}") 229, val := Value.str (Str.ofString "{") 230 }] 3 })]

/-- the text's top without what its head sets aside -/
noncomputable def keepIdx (is : List Nat) (l : List Stmt) : List Stmt := is.filterMap fun i => l[i]?
noncomputable def view1 : Program := { PySem.Challenge.rw_uf050009_01.row.prog with main := { PySem.Challenge.rw_uf050009_01.row.prog.main with body := keepIdx [1, 2, 4, 5, 6, 7, 8, 9, 10, 11, 12, 14, 15, 16, 17, 19, 20, 21, 23, 24, 25, 26, 27, 28, 29, 30] PySem.Challenge.rw_uf050009_01.row.prog.main.body } }
noncomputable abbrev hook1 : Hook := kHook heapK [3, 40] (fun _ => rfl)
noncomputable abbrev Xt1 : Shared → Bool := fun s => xlAt view1 [] s && recOk (RowW.records (OpenRow.toRowW PySem.Challenge.rw_uf050009_01.row)) s
noncomputable abbrev Side (b : Bool) : Prop := ∀ w : World, (fun w => (openEnds treeTable PySem.Challenge.rw_uf050009_01.row.prog w 2396).map (fun s => (openSeen view1 ["OPENING"] (importedModules PySem.Challenge.rw_uf050009_01.row.prog.main.body) Xt1 true s, Hook.obs hook1 s)) = some (openGood view1 ["OPENING"], Hook.val hook1 w)) (w.withFollow "special-get-raises" b)
set_option maxRecDepth 100000 in
theorem sideF : Side false := fun w => by kernel_rfl
set_option maxRecDepth 100000 in
theorem sideT : Side true := fun w => by kernel_rfl
theorem byRows {P : World → Prop} (hf : ∀ w : World, P (w.withFollow "special-get-raises" false)) (ht : ∀ w : World, P (w.withFollow "special-get-raises" true)) : ∀ w, P w := fun w => byRow2 "special-get-raises" hf ht w

theorem chkT {p : Program} {loose : List Str} {mean : ExcName → Option Value} {mg mb : Str → Option Value} {h : Heap} (T : Top p loose mean mg mb h) (e : (P.all fun d => (recsOf p).any fun r => chk (ftOf P) d.2 r) = true) : (P.all fun d => (recsOf p).any fun r => chk (ftOf P) d.2 r) = true := e

set_option maxRecDepth 100000 in
set_option maxHeartbeats 8000000 in
theorem cw : PySem.Challenge.rw_uf050009_01.Holds := by
  w_on; o_law
  refine holds_open (q := view1) (loose := ["OPENING"]) (Xt := Xt1) (XP := XL view1 []) (Yf := Hook.obs hook1) (Ya := Hook.val hook1) (YP := Hook.says hook1) (N := 2396) (byRows sideF sideT) (Hook.of hook1) (Hook.keeps hook1) (fun s e => xl_of s (Bool.and_eq_true_iff.mp e).1) XL.keeps (by rfl) (by rfl) (by rfl) (fun s e => recFacts_of (Bool.and_eq_true_iff.mp e).2) (by rfl) (by first | assumption | decide +kernel) (by decide +kernel) ⟨rfl, rfl, rfl, rfl, rfl, by decide +kernel⟩ ?hw ?hc
  case hw => w_witness2
  intro w s₀ s₁ mg mb G Y fa o pm cd doc dV kV ho hd hcd hD hmg hg args vals as hpre hlay hrd hwl hlo
  have KX := kIn_of Y
  refine Ground.open G ?_
  intro T B D TE TW
  wrow_args hpre hlay hrd hwl hlo
  rename_i xs hs hlay0 hL1 hr1 hl2 w4 w3 la vs w0 hL ra w1 r0 hI hr hc1 hc2
  have TO : (tpOf PySem.Challenge.rw_uf050009_01.row.prog w s₁.heap mg mb).Ok := top_ok T (by decide +kernel) (by kernel_rfl) (by kernel_rfl) (by kernel_rfl)
    (opn_of KX T.g (a := 40) (n := 3) (h1 := PyData.keyHash w.params ")") (h2 := PyData.keyHash w.params "]") (h3 := PyData.keyHash w.params "}") (k1 := ")") (k2 := "]") (k3 := "}") (v1 := "(") (v2 := "[") (v3 := "{")
      (t1 := 225) (u1 := 226) (t2 := 227) (u2 := 228) (t3 := 229) (u3 := 230) (by kernel_rfl) (by kernel_rfl) ⟨⟨_, _, rfl, rfl⟩, ⟨_, _, rfl, rfl⟩, ⟨_, _, rfl, rfl⟩, trivial⟩
      (by decide +kernel) (by decide +kernel) (by decide +kernel) (by decide +kernel) (by decide +kernel) (by decide +kernel) (by decide))
  have hP : ∀ (k : Nat) (d : FnDef), P.lookup k = some d → ∃ f o fd body, FnAt (tpOf PySem.Challenge.rw_uf050009_01.row.prog w s₁.heap mg mb) (ftOf P) d f o fd body := fun k d hk => by
    obtain ⟨r, h1, h2⟩ := List.any_eq_true.mp (List.all_eq_true.mp (chkT T (by decide +kernel)) _ (mem_lookupN hk))
    exact fnAt_of T h1 h2
  refine run_law (T := tpOf PySem.Challenge.rw_uf050009_01.row.prog w s₁.heap mg mb) (P := P) (k := 60) (d := d_law) (N := 20) (ds := [.list (xs.map .int)]) TO hP rfl hmg ⟨rfl, by decide, by decide⟩ (fun b o e => e) ?_ (plain xs (by omega)) fun s' hs' hk' => ?_
  · obtain ⟨o', h1, h2, n', h3⟩ := hL
    exact .cons (.list h1 h2 h3 (rep_ints hI)) .nil
  · obtain ⟨h', tk, rfl⟩ := hs'
    refine GoodW.toG ⟨.inl ⟨.bool true, _, [], rfl, fun _ => rfl, .bool .., by kernel_rfl, fun _ => ⟨.nil, fun a ha => nomatch ha⟩⟩, hk', rfl, hg⟩
end Mine.L1
end

theorem PySem.Challenge.cw_uf050009_01_holds : PySem.Challenge.rw_uf050009_01.Holds :=
  Mine.L1.cw
